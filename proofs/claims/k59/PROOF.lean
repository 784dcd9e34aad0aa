import PyProof.Rows.All
import Wide.All
import OpenK.AllK
import Wide.FinOn
import HandS.ForMost
import HandS.Defaults
import HandS.Gcd
import HandS.Wide
import HandS.Flow
import HandS.Style
import HandS.IsInst
import HandS.WideBits
import HandS.HeadHook2
import KE.KeyNested
import KE.KDictDisplayH
import KE.KStateDown
import HandS.Head0
import HandS.Head1
import HandS.Head2
import HandS.HeadEnd
import HandS.HeadHook1
import PySem.Challenge.RW_buybook_k59_whole_need_papers_bound_mone
set_option Elab.async false
set_option linter.all false
set_option maxRecDepth 100000
set_option maxHeartbeats 4000000
namespace BB
/-! ### sums -/
def sm : Nat → (Nat → Rat) → Rat
  | 0, _ => 0
  | n + 1, f => sm n f + f n
theorem sm_congr {f g : Nat → Rat} : ∀ {n : Nat}, (∀ i, i < n → f i = g i) → sm n f = sm n g
  | 0, _ => rfl
  | n + 1, h => by
    have h1 := sm_congr (n := n) fun i hi => h i (by omega)
    have h2 := h n (by omega)
    simp only [sm, h1, h2]
theorem sm_add (f g : Nat → Rat) : ∀ n, sm n (fun i => f i + g i) = sm n f + sm n g
  | 0 => by simp only [sm]; grind
  | n + 1 => by
    have h := sm_add f g n
    simp only [sm]; grind
theorem sm_sub (f g : Nat → Rat) : ∀ n, sm n (fun i => f i - g i) = sm n f - sm n g
  | 0 => by simp only [sm]; grind
  | n + 1 => by
    have h := sm_sub f g n
    simp only [sm]; grind
theorem sm_mul (c : Rat) (f : Nat → Rat) : ∀ n, sm n (fun i => c * f i) = c * sm n f
  | 0 => by simp only [sm]; grind
  | n + 1 => by
    have h := sm_mul c f n
    simp only [sm]; grind
theorem sm_mulr (c : Rat) (f : Nat → Rat) (n : Nat) : sm n (fun i => f i * c) = sm n f * c := by
  rw [sm_congr (g := fun i => c * f i) (fun i _ => by grind), sm_mul]; grind
theorem sm_zero {f : Nat → Rat} : ∀ {n : Nat}, (∀ i, i < n → f i = 0) → sm n f = 0
  | 0, _ => rfl
  | n + 1, h => by
    have h1 := sm_zero (n := n) fun i hi => h i (by omega)
    have h2 := h n (by omega)
    simp only [sm, h1, h2]; grind
theorem sm_single {f : Nat → Rat} {k : Nat} : ∀ {n : Nat}, k < n → (∀ i, i < n → i ≠ k → f i = 0) → sm n f = f k
  | 0, h, _ => by omega
  | n + 1, h, q => by
    by_cases e : k = n
    · subst e
      have h1 : sm k f = 0 := sm_zero fun i hi => q i (by omega) (by omega)
      simp only [sm, h1]; grind
    · have h1 := sm_single (n := n) (f := f) (k := k) (by omega) fun i hi ne => q i (by omega) ne
      have h2 := q n (by omega) (by omega)
      simp only [sm, h1, h2]; grind
theorem sm_nn {f : Nat → Rat} : ∀ {n : Nat}, (∀ i, i < n → 0 ≤ f i) → 0 ≤ sm n f
  | 0, _ => by simp only [sm]; grind
  | n + 1, h => by
    have h1 := sm_nn (n := n) fun i hi => h i (by omega)
    have h2 := h n (by omega)
    simp only [sm]; grind
theorem sm_le {f g : Nat → Rat} : ∀ {n : Nat}, (∀ i, i < n → f i ≤ g i) → sm n f ≤ sm n g
  | 0, _ => by simp only [sm]; grind
  | n + 1, h => by
    have h1 := sm_le (n := n) fun i hi => h i (by omega)
    have h2 := h n (by omega)
    simp only [sm]; grind
theorem sm_ge1 {f : Nat → Rat} {k : Nat} : ∀ {n : Nat}, k < n → (∀ i, i < n → 0 ≤ f i) → f k ≤ sm n f
  | 0, h, _ => by omega
  | n + 1, h, q => by
    by_cases e : k = n
    · subst e
      have h1 : 0 ≤ sm k f := sm_nn fun i hi => q i (by omega)
      simp only [sm]; grind
    · have h1 := sm_ge1 (n := n) (f := f) (k := k) (by omega) fun i hi => q i (by omega)
      have h2 := q n (by omega)
      simp only [sm]; grind
theorem sm_lt1 {f g : Nat → Rat} {k : Nat} {n : Nat} (hk : k < n) (h : ∀ i, i < n → f i ≤ g i) (hs : f k < g k) : sm n f < sm n g := by
  have h1 : (fun i => g i - f i) k ≤ sm n (fun i => g i - f i) := sm_ge1 (f := fun i => g i - f i) hk fun i hi => by
    have := h i hi; grind
  rw [sm_sub] at h1
  grind
theorem sm_comm (f : Nat → Nat → Rat) (m : Nat) : ∀ n, sm n (fun i => sm m (fun j => f i j)) = sm m (fun j => sm n (fun i => f i j))
  | 0 => by
    simp only [sm]
    exact (sm_zero fun _ _ => rfl).symm
  | n + 1 => by
    have h := sm_comm f m n
    simp only [sm]
    rw [h, ← sm_add]
theorem sm_succ (n : Nat) (f : Nat → Rat) : sm (n + 1) f = sm n f + f n := rfl
/-- a sum over the first a of b places -/
theorem sm_ext {f : Nat → Rat} {a : Nat} : ∀ {b : Nat}, a ≤ b → (∀ i, a ≤ i → i < b → f i = 0) → sm b f = sm a f
  | 0, h, _ => by
    have : a = 0 := by omega
    subst this; rfl
  | b + 1, h, q => by
    by_cases e : a = b + 1
    · subst e; rfl
    · have h1 := sm_ext (f := f) (a := a) (b := b) (by omega) fun i h1 h2 => q i h1 (by omega)
      have h2 := q b (by omega) (by omega)
      rw [sm_succ, h1, h2]; grind
/-- the places from a on -/
theorem sm_split (f : Nat → Rat) (a : Nat) : ∀ b, sm (a + b) f = sm a f + sm b (fun i => f (a + i))
  | 0 => by simp only [sm, Nat.add_zero]; grind
  | b + 1 => by
    have h := sm_split f a b
    rw [show a + (b + 1) = (a + b) + 1 by omega, sm_succ, sm_succ, h]
    grind
end BB
namespace BB
/-! ### tableaux: A the first rows (m of them, n columns, the right sides at n), u the unit columns, T the rows now, row m the reduced costs -/
def piv (T : Nat → Nat → Rat) (r c : Nat) : Nat → Nat → Rat := fun k i => if k = r then T r i / T r c else T k i - T k c * (T r i / T r c)
def pivB (B : Nat → Nat) (r c : Nat) : Nat → Nat := fun k => if k = r then c else B k

/-- without signs -/
structure Tab (m n : Nat) (A : Nat → Nat → Rat) (cost : Nat → Rat) (T : Nat → Nat → Rat) (B : Nat → Nat) : Prop where
  comb : ∀ k, k < m → ∃ ρ : Nat → Rat, ∀ c, c ≤ n → T k c = sm m (fun l => ρ l * A l c)
  back : ∀ k, k < m → ∀ c, c ≤ n → A k c = sm m (fun l => A k (B l) * T l c)
  unit : ∀ k, k < m → ∀ l, l < m → T k (B l) = if k = l then 1 else 0
  bd : ∀ l, l < m → B l < n
  zcomb : ∃ y : Nat → Rat, ∀ c, c ≤ n → T m c = cost c - sm m (fun l => y l * A l c)
  zB : ∀ l, l < m → T m (B l) = 0

section
variable {m n : Nat} {A : Nat → Nat → Rat} {cost : Nat → Rat} {T : Nat → Nat → Rat} {B : Nat → Nat}
theorem Tab.inj (I : Tab m n A cost T B) {k l : Nat} (hk : k < m) (hl : l < m) (e : B k = B l) : k = l := by
  have h1 := I.unit k hk l hl
  have h2 := I.unit k hk k hk
  rw [e] at h2
  rw [h1, if_pos rfl] at h2
  by_cases z : k = l
  · exact z
  · rw [if_neg z] at h2
    grind
theorem pivot_row {ρ σ : Nat → Rat} {c : Nat} (t : Rat) : sm m (fun l => (ρ l - t * σ l) * A l c) = sm m (fun l => ρ l * A l c) - t * sm m (fun l => σ l * A l c) := by
  rw [← sm_mul, ← sm_sub]
  exact sm_congr fun i _ => by grind
theorem Tab.pivot (I : Tab m n A cost T B) {r c : Nat} (hr : r < m) (hc : c < n) (hp : T r c ≠ 0) : Tab m n A cost (piv T r c) (pivB B r c) := by
  refine ⟨fun k hk => ?_, fun k hk d hd => ?_, fun k hk l hl => ?_, fun l hl => ?_, ?_, fun l hl => ?_⟩
  · obtain ⟨σ, hσ⟩ := I.comb r hr
    by_cases e : k = r
    · subst e
      refine ⟨fun l => σ l * (1 / T k c), fun d hd => ?_⟩
      unfold piv
      rw [if_pos rfl, hσ d hd, sm_congr (f := fun l => σ l * (1 / T k c) * A l d) (g := fun l => (1 / T k c) * (σ l * A l d)) (fun i _ => by grind), sm_mul]
      grind
    · obtain ⟨ρ, hρ⟩ := I.comb k hk
      refine ⟨fun l => ρ l - (T k c / T r c) * σ l, fun d hd => ?_⟩
      unfold piv
      rw [if_neg e, pivot_row, ← hρ d hd, ← hσ d hd]
      grind
  · have h1 : sm m (fun l => A k (pivB B r c l) * piv T r c l d) = sm m (fun l => A k (B l) * (T l d - T l c * (T r d / T r c))) + A k c * (T r d / T r c) := by
      have e1 : sm m (fun l => A k (pivB B r c l) * piv T r c l d - A k (B l) * (T l d - T l c * (T r d / T r c))) = A k c * (T r d / T r c) := by
        rw [sm_single hr]
        · unfold pivB piv
          simp only [if_pos rfl]
          grind
        · intro i hi ne
          unfold pivB piv
          simp only [if_neg ne]
          grind
      rw [sm_sub] at e1
      grind
    rw [h1]
    have h2 : sm m (fun l => A k (B l) * (T l d - T l c * (T r d / T r c))) = sm m (fun l => A k (B l) * T l d) - (T r d / T r c) * sm m (fun l => A k (B l) * T l c) := by
      rw [← sm_mul, ← sm_sub]
      exact sm_congr fun i _ => by grind
    rw [h2, ← I.back k hk d hd, ← I.back k hk c (by omega)]
    grind
  · unfold pivB piv
    have hu := I.unit
    by_cases el : l = r
    · subst el
      rw [if_pos rfl]
      by_cases e : k = l
      · subst e
        rw [if_pos rfl, if_pos rfl]
        grind
      · rw [if_neg e, if_neg e]
        grind
    · rw [if_neg el]
      have h1 := hu r hr l hl
      rw [if_neg (fun z => el z.symm)] at h1
      rw [h1]
      by_cases e : k = r
      · subst e
        rw [if_pos rfl, if_neg (fun z => el z.symm)]
        grind
      · rw [if_neg e, hu k hk l hl]
        grind
  · unfold pivB
    by_cases el : l = r
    · rw [if_pos el]; exact hc
    · rw [if_neg el]; exact I.bd l hl
  · obtain ⟨σ, hσ⟩ := I.comb r hr
    obtain ⟨y, hy⟩ := I.zcomb
    refine ⟨fun l => y l - (-(T m c / T r c)) * σ l, fun d hd => ?_⟩
    have ne : m ≠ r := by omega
    unfold piv
    rw [if_neg ne, pivot_row, ← hσ d hd, hy d hd]
    grind
  · unfold pivB piv
    have ne : m ≠ r := by omega
    rw [if_neg ne]
    by_cases el : l = r
    · rw [if_pos el]
      grind
    · rw [if_neg el]
      have h1 := I.unit r hr l hl
      rw [if_neg (fun z => el z.symm)] at h1
      rw [h1, I.zB l hl]
      grind
/-- a row that is a combination of the first rows, by its values at a basis -/
theorem Tab.rows (I : Tab m n A cost T B) {f : Nat → Rat} {ρ : Nat → Rat} (h : ∀ c, c ≤ n → f c = sm m (fun l => ρ l * A l c)) {c : Nat} (hc : c ≤ n) : f c = sm m (fun k => f (B k) * T k c) := by
  rw [h c hc]
  have h1 : sm m (fun l => ρ l * A l c) = sm m (fun l => sm m (fun k => ρ l * A l (B k) * T k c)) := sm_congr fun l hl => by
    rw [I.back l hl c hc, ← sm_mul]
    exact sm_congr fun k _ => by grind
  rw [h1, sm_comm]
  refine sm_congr fun k hk => ?_
  rw [h (B k) (by have := I.bd k hk; omega), ← sm_mulr]
/-- two tableaux of the same rows: reduced costs -/
theorem Tab.zdiff {T' : Nat → Nat → Rat} {B' : Nat → Nat} (I : Tab m n A cost T B) (J : Tab m n A cost T' B') {c : Nat} (hc : c ≤ n) : T' m c = T m c + sm m (fun k => T' m (B k) * T k c) := by
  obtain ⟨y, hy⟩ := I.zcomb
  obtain ⟨y', hy'⟩ := J.zcomb
  have h : ∀ d, d ≤ n → (fun d => T' m d - T m d) d = sm m (fun l => (y l - y' l) * A l d) := fun d hd => by
    show T' m d - T m d = _
    rw [hy d hd, hy' d hd, sm_congr (f := fun l => (y l - y' l) * A l d) (g := fun l => y l * A l d - y' l * A l d) (fun i _ => by grind), sm_sub]
    grind
  have h1 := I.rows h hc
  have h2 : sm m (fun k => (fun d => T' m d - T m d) (B k) * T k c) = sm m (fun k => T' m (B k) * T k c) := sm_congr fun k hk => by
    show (T' m (B k) - T m (B k)) * T k c = _
    rw [I.zB k hk]
    grind
  rw [h2] at h1
  grind
/-- the same basis: the same reduced costs -/
theorem Tab.zsame {T' : Nat → Nat → Rat} {B' : Nat → Nat} (I : Tab m n A cost T B) (J : Tab m n A cost T' B') (e : ∀ k, k < m → B k = B' k) {c : Nat} (hc : c ≤ n) : T' m c = T m c := by
  rw [I.zdiff J hc, sm_zero fun k hk => by rw [e k hk, J.zB k hk]; grind]
  grind
end
end BB
namespace BB
/-! ### the rule of the least index ends -/
def Enter (m w : Nat) (T : Nat → Nat → Rat) (c : Nat) : Prop := c < w ∧ T m c < 0 ∧ ∀ d, d < c → 0 ≤ T m d
def Leave (m n : Nat) (T : Nat → Nat → Rat) (B : Nat → Nat) (c r : Nat) : Prop :=
  r < m ∧ 0 < T r c ∧ ∀ k, k < m → 0 < T k c → T r n / T r c < T k n / T k c ∨ (T r n / T r c = T k n / T k c ∧ B r ≤ B k)
abbrev Ts : Type := (Nat → Nat → Rat) × (Nat → Nat)
def Stp (m n w : Nat) (s s' : Ts) : Prop := ∃ c r, Enter m w s.1 c ∧ Leave m n s.1 s.2 c r ∧ s' = (piv s.1 r c, pivB s.2 r c)
/-- with right sides from 0 on -/
structure Good (m n w : Nat) (A : Nat → Nat → Rat) (cost : Nat → Rat) (s : Ts) : Prop where
  tab : Tab m n A cost s.1 s.2
  pos : ∀ k, k < m → 0 ≤ s.1 k n
section
variable {m n w : Nat} {A : Nat → Nat → Rat} {cost : Nat → Rat}
theorem div_pos' {a b : Rat} (ha : 0 ≤ a) (hb : 0 < b) : 0 ≤ a / b := by
  have h : 0 < b⁻¹ := Rat.inv_pos.mpr hb
  rw [Rat.div_def]
  exact Rat.mul_nonneg ha (by grind)
theorem piv_pos {T : Nat → Nat → Rat} {B : Nat → Nat} {c r : Nat} (hp : ∀ k, k < m → 0 ≤ T k n) (L : Leave m n T B c r) : ∀ k, k < m → 0 ≤ piv T r c k n := fun k hk => by
  obtain ⟨hr, h0, hl⟩ := L
  have q : 0 ≤ T r n / T r c := div_pos' (hp r hr) h0
  unfold piv
  by_cases e : k = r
  · rw [if_pos e]; exact q
  · rw [if_neg e]
    by_cases hkc : 0 < T k c
    · have h1 : T r n / T r c ≤ T k n / T k c := by
        rcases hl k hk hkc with h | ⟨h, _⟩ <;> grind
      have h2 : T k c * (T r n / T r c) ≤ T k c * (T k n / T k c) := Rat.mul_le_mul_of_nonneg_left h1 (by grind)
      have h3 : T k c * (T k n / T k c) = T k n := by grind
      grind
    · have h1 : 0 ≤ (-(T k c)) * (T r n / T r c) := Rat.mul_nonneg (by grind) q
      have h2 := hp k hk
      grind
theorem Good.step {s s' : Ts} (G : Good m n w A cost s) (hw : w ≤ n) (h : Stp m n w s s') : Good m n w A cost s' := by
  obtain ⟨c, r, E, L, rfl⟩ := h
  have hc : c < n := Nat.lt_of_lt_of_le E.1 hw
  exact ⟨G.tab.pivot L.1 hc (by have := L.2.1; grind), piv_pos G.pos L⟩
/-- the greatest of finitely many -/
theorem max_of (f : Nat → Nat) : ∀ L, 0 < L → ∃ q, q < L ∧ ∀ i, i < L → f i ≤ f q
  | 0, h => by omega
  | 1, _ => ⟨0, by omega, fun i hi => by
    have : i = 0 := by omega
    subst this; omega⟩
  | L + 2, _ => by
    obtain ⟨q, hq, h⟩ := max_of f (L + 1) (by omega)
    by_cases e : f q ≤ f (L + 1)
    · exact ⟨L + 1, by omega, fun i hi => by
        by_cases z : i = L + 1
        · subst z; omega
        · have := h i (by omega); omega⟩
    · exact ⟨q, by omega, fun i hi => by
        by_cases z : i = L + 1
        · subst z; omega
        · exact h i (by omega)⟩
theorem nd_le {f : Nat → Rat} {L : Nat} (h : ∀ i, i < L → f i ≤ f (i + 1)) : ∀ b a, a ≤ b → b ≤ L → f a ≤ f b
  | 0, a, h1, _ => by
    have : a = 0 := by omega
    subst this; grind
  | b + 1, a, h1, h2 => by
    by_cases e : a = b + 1
    · subst e; grind
    · have h3 := nd_le h b a (by omega) (by omega)
      have h4 := h b (by omega)
      grind
def InB (m : Nat) (B : Nat → Nat) (x : Nat) : Prop := ∃ k, k < m ∧ B k = x
/-- no basis comes twice -/
theorem bland {f : Nat → Ts} {L : Nat} (hw : w ≤ n) (G0 : Good m n w A cost (f 0)) (hs : ∀ i, i < L → Stp m n w (f i) (f (i + 1))) (hL : 0 < L) (he : ∀ k, k < m → (f L).2 k = (f 0).2 k) : False := by
  have G : ∀ i, i ≤ L → Good m n w A cost (f i) := by
    intro i
    induction i with
    | zero => intro _; exact G0
    | succ i ih => intro hi; exact (ih (by omega)).step hw (hs i (by omega))
  -- the choices
  obtain ⟨cs, hcs⟩ : ∃ cs : Nat → Nat, ∀ i, i < L → ∃ r, Enter m w (f i).1 (cs i) ∧ Leave m n (f i).1 (f i).2 (cs i) r ∧ f (i + 1) = (piv (f i).1 r (cs i), pivB (f i).2 r (cs i)) := by
    refine ⟨fun i => if h : i < L then Classical.choose (hs i h) else 0, fun i hi => ?_⟩
    simp only [dif_pos hi]
    exact Classical.choose_spec (hs i hi)
  obtain ⟨rs, hrs⟩ : ∃ rs : Nat → Nat, ∀ i, i < L → Enter m w (f i).1 (cs i) ∧ Leave m n (f i).1 (f i).2 (cs i) (rs i) ∧ f (i + 1) = (piv (f i).1 (rs i) (cs i), pivB (f i).2 (rs i) (cs i)) := by
    refine ⟨fun i => if h : i < L then Classical.choose (hcs i h) else 0, fun i hi => ?_⟩
    simp only [dif_pos hi]
    exact Classical.choose_spec (hcs i hi)
  have hB : ∀ i, i < L → ∀ k, (f (i + 1)).2 k = if k = rs i then cs i else (f i).2 k := fun i hi k => by rw [(hrs i hi).2.2]; rfl
  have hT : ∀ i, i < L → ∀ k c, (f (i + 1)).1 k c = if k = rs i then (f i).1 (rs i) c / (f i).1 (rs i) (cs i) else (f i).1 k c - (f i).1 k (cs i) * ((f i).1 (rs i) c / (f i).1 (rs i) (cs i)) := fun i hi k c => by rw [(hrs i hi).2.2]; rfl
  -- the objective stands
  have up : ∀ i, i < L → (f i).1 m n ≤ (f (i + 1)).1 m n := fun i hi => by
    obtain ⟨E, Lv, _⟩ := hrs i hi
    have ne : m ≠ rs i := by have := Lv.1; omega
    rw [hT i hi m n, if_neg ne]
    have q : 0 ≤ (f i).1 (rs i) n / (f i).1 (rs i) (cs i) := div_pos' ((G i (by omega)).pos _ Lv.1) Lv.2.1
    have h1 : 0 ≤ (-((f i).1 m (cs i))) * ((f i).1 (rs i) n / (f i).1 (rs i) (cs i)) := Rat.mul_nonneg (by have := E.2.1; grind) q
    grind
  have ends : (f L).1 m n = (f 0).1 m n := (G 0 (by omega)).tab.zsame (G L (by omega)).tab (fun k hk => (he k hk).symm) (Nat.le_refl _)
  have deg : ∀ i, i < L → (f i).1 (rs i) n = 0 := fun i hi => by
    obtain ⟨E, Lv, _⟩ := hrs i hi
    have h1 := nd_le (f := fun i => (f i).1 m n) up i 0 (by omega) (by omega)
    have h2 := nd_le (f := fun i => (f i).1 m n) up L (i + 1) (by omega) (by omega)
    have h3 := up i hi
    have eq : (f (i + 1)).1 m n = (f i).1 m n := by grind
    have ne : m ≠ rs i := by have := Lv.1; omega
    rw [hT i hi m n, if_neg ne] at eq
    have h4 : (f i).1 m (cs i) * ((f i).1 (rs i) n / (f i).1 (rs i) (cs i)) = 0 := by grind
    have h5 := E.2.1
    have h6 := Lv.2.1
    have h7 : (f i).1 (rs i) n / (f i).1 (rs i) (cs i) = 0 := by
      rcases Rat.mul_eq_zero.mp h4 with z | z
      · grind
      · exact z
    grind
  -- the values of the variables stand
  obtain ⟨V, hV0, hV1⟩ : ∃ V : Nat → Rat, (∀ k, k < m → (f 0).1 k n = V ((f 0).2 k)) ∧ ∀ x, ¬ InB m (f 0).2 x → V x = 0 := by
    refine ⟨fun x => if h : ∃ k, k < m ∧ (f 0).2 k = x then (f 0).1 (Classical.choose h) n else 0, fun k hk => ?_, fun x hx => ?_⟩
    · have h : ∃ j, j < m ∧ (f 0).2 j = (f 0).2 k := ⟨k, hk, rfl⟩
      simp only [dif_pos h]
      have h2 := Classical.choose_spec h
      rw [(G 0 (by omega)).tab.inj h2.1 hk h2.2]
    · have h : ¬ ∃ k, k < m ∧ (f 0).2 k = x := hx
      simp only [dif_neg h]
  have hV : ∀ i, i ≤ L → (∀ k, k < m → (f i).1 k n = V ((f i).2 k)) ∧ ∀ x, ¬ InB m (f i).2 x → V x = 0 := by
    intro i
    induction i with
    | zero => intro _; exact ⟨hV0, hV1⟩
    | succ i ih =>
      intro hi
      obtain ⟨a, b⟩ := ih (by omega)
      obtain ⟨E, Lv, _⟩ := hrs i (by omega)
      have d := deg i (by omega)
      have nb : ¬ InB m (f i).2 (cs i) := fun ⟨k, hk, e⟩ => by
        have := (G i (by omega)).tab.zB k hk
        rw [e] at this
        have := E.2.1
        grind
      refine ⟨fun k hk => ?_, fun x hx => ?_⟩
      · rw [hT i (by omega), hB i (by omega), d]
        by_cases e : k = rs i
        · rw [if_pos e, if_pos e, b _ nb]; grind
        · rw [if_neg e, if_neg e, ← a k hk]; grind
      · by_cases hx' : InB m (f i).2 x
        · obtain ⟨k, hk, e⟩ := hx'
          by_cases z : k = rs i
          · rw [← e, z, ← a _ Lv.1, d]
          · exact absurd ⟨k, hk, by rw [hB i (by omega), if_neg z, e]⟩ hx
        · exact b x hx'
  -- what never enters only leaves
  have mono : ∀ x, (∀ i, i < L → cs i ≠ x) → ∀ b a, a ≤ b → b ≤ L → InB m (f b).2 x → InB m (f a).2 x := by
    intro x hx b
    induction b with
    | zero =>
      intro a h1 _ h2
      have : a = 0 := by omega
      subst this; exact h2
    | succ b ih =>
      intro a h1 h2 ⟨k, hk, e⟩
      by_cases z : a = b + 1
      · subst z; exact ⟨k, hk, e⟩
      · refine ih a (by omega) (by omega) ⟨k, hk, ?_⟩
        rw [hB b (by omega)] at e
        by_cases y : k = rs b
        · rw [if_pos y] at e
          exact absurd e (hx b (by omega))
        · rw [if_neg y] at e
          exact e
  -- the greatest that enters
  obtain ⟨q, hq, hmax⟩ := max_of cs L hL
  have Gq := G q (by omega)
  obtain ⟨Eq, Lq, _⟩ := hrs q hq
  have nbq : ∀ x, (f q).1 m x ≠ 0 → ¬ InB m (f q).2 x := fun x hx ⟨k, hk, e⟩ => hx (by rw [← e]; exact Gq.tab.zB k hk)
  have ntq : ¬ InB m (f q).2 (cs q) := nbq _ (by have := Eq.2.1; grind)
  -- it leaves somewhere
  obtain ⟨p, hp, hpl⟩ : ∃ p, p < L ∧ (f p).2 (rs p) = cs q := by
    refine Classical.byContradiction fun no => ?_
    have stay : ∀ b, b ≤ L → ∀ a, a ≤ b → InB m (f a).2 (cs q) → InB m (f b).2 (cs q) := by
      intro b
      induction b with
      | zero =>
        intro _ a h1 h2
        have : a = 0 := by omega
        subst this; exact h2
      | succ b ih =>
        intro h1 a h2 h3
        by_cases z : a = b + 1
        · subst z; exact h3
        · obtain ⟨k, hk, e⟩ := ih (by omega) a (by omega) h3
          by_cases y : k = rs b
          · exact absurd ⟨b, by omega, by rw [← y]; exact e⟩ no
          · exact ⟨k, hk, by rw [hB b (by omega), if_neg y]; exact e⟩
    have h1 : InB m (f (q + 1)).2 (cs q) := ⟨rs q, Lq.1, by rw [hB q hq, if_pos rfl]⟩
    obtain ⟨k, hk, e⟩ := stay L (Nat.le_refl _) (q + 1) (by omega) h1
    exact ntq (stay q (by omega) 0 (by omega) ⟨k, hk, by rw [← he k hk]; exact e⟩)
  have Gp := G p (by omega)
  obtain ⟨Ep, Lp, _⟩ := hrs p hp
  have ne_st : cs p ≠ cs q := fun e => by
    have h1 := Ep.2.1
    rw [e, ← hpl, Gp.tab.zB _ Lp.1] at h1
    grind
  have lt_st : cs p < cs q := by have := hmax p hp; omega
  have z1 := Gp.tab.zdiff Gq.tab (c := cs p) (by have := Ep.1; omega)
  have z2 : sm m (fun k => (f q).1 m ((f p).2 k) * (f p).1 k (cs p)) ≤ 0 := by
    have : sm m (fun k => (f q).1 m ((f p).2 k) * (f p).1 k (cs p)) ≤ sm m (fun _ => 0) := by
      refine sm_le fun k hk => ?_
      by_cases e : k = rs p
      · subst e
        rw [hpl]
        have h1 : 0 ≤ (-((f q).1 m (cs q))) * (f p).1 (rs p) (cs p) := Rat.mul_nonneg (by have := Eq.2.1; grind) (by have := Lp.2.1; grind)
        grind
      · by_cases z : (f q).1 m ((f p).2 k) = 0
        · rw [z]; grind
        · have nb := nbq _ z
          have ent : ∃ i, i < L ∧ cs i = (f p).2 k := by
            refine Classical.byContradiction fun no => ?_
            have hx : ∀ i, i < L → cs i ≠ (f p).2 k := fun i hi e => no ⟨i, hi, e⟩
            obtain ⟨j, hj, ej⟩ := mono _ hx p 0 (by omega) (by omega) ⟨k, hk, rfl⟩
            exact nb (mono _ hx L q (by omega) (Nat.le_refl _) ⟨j, hj, by rw [he j hj]; exact ej⟩)
          obtain ⟨i, hi, ei⟩ := ent
          have le1 : (f p).2 k ≤ cs q := by have := hmax i hi; omega
          have ne1 : (f p).2 k ≠ cs q := fun z => e (Gp.tab.inj hk Lp.1 (by rw [z, hpl]))
          have h1 : 0 ≤ (f q).1 m ((f p).2 k) := Eq.2.2 _ (by omega)
          have h2 : ¬ 0 < (f p).1 k (cs p) := fun h => by
            have v0 : (f p).1 k n = 0 := by rw [(hV p (by omega)).1 k hk, (hV q (by omega)).2 _ nb]
            have v1 := deg p hp
            rcases Lp.2.2 k hk h with x | ⟨_, x⟩
            · rw [v0, v1] at x
              grind
            · rw [hpl] at x
              omega
          have h3 : 0 ≤ (f q).1 m ((f p).2 k) * (-((f p).1 k (cs p))) := Rat.mul_nonneg h1 (by grind)
          grind
    rw [sm_zero (f := fun _ => (0 : Rat)) fun _ _ => rfl] at this
    exact this
  have z3 : 0 ≤ (f q).1 m (cs p) := Eq.2.2 _ lt_st
  have z4 := Ep.2.1
  grind

/-! ### pigeonholes -/
theorem pigeon : ∀ (N : Nat) (f : Nat → Nat), (∀ i, i ≤ N → f i < N) → ∃ i j, i < j ∧ j ≤ N ∧ f i = f j
  | 0, f, h => by have := h 0 (by omega); omega
  | N + 1, f, h => by
    by_cases e : ∃ i, i ≤ N ∧ f i = f (N + 1)
    · obtain ⟨i, hi, e⟩ := e
      exact ⟨i, N + 1, by omega, by omega, e⟩
    · -- put the value N in the place of f (N + 1)
      have ne : ∀ i, i ≤ N → f i ≠ f (N + 1) := fun i hi z => e ⟨i, hi, z⟩
      obtain ⟨i, j, h1, h2, h3⟩ := pigeon N (fun i => if f i = N then f (N + 1) else f i) fun i hi => by
        have a := h i (by omega)
        have b := h (N + 1) (by omega)
        have c := ne i hi
        show (if f i = N then f (N + 1) else f i) < N
        by_cases z : f i = N
        · rw [if_pos z]; omega
        · rw [if_neg z]; omega
      refine ⟨i, j, h1, by omega, ?_⟩
      have ci := ne i (by omega)
      have cj := ne j (by omega)
      replace h3 : (if f i = N then f (N + 1) else f i) = (if f j = N then f (N + 1) else f j) := h3
      by_cases zi : f i = N
      · by_cases zj : f j = N
        · omega
        · rw [if_pos zi, if_neg zj] at h3; omega
      · by_cases zj : f j = N
        · rw [if_neg zi, if_pos zj] at h3; omega
        · rw [if_neg zi, if_neg zj] at h3; exact h3
/-- numbers below n as one number -/
def enc (n : Nat) : Nat → (Nat → Nat) → Nat
  | 0, _ => 0
  | m + 1, f => enc n m f + f m * n ^ m
theorem enc_lt {n : Nat} : ∀ {m : Nat} {f : Nat → Nat}, (∀ i, i < m → f i < n) → enc n m f < n ^ m
  | 0, _, _ => by simp [enc]
  | m + 1, f, h => by
    have h1 := enc_lt (m := m) fun i hi => h i (by omega)
    have h2 := h m (by omega)
    have h3 : (f m + 1) * n ^ m ≤ n * n ^ m := Nat.mul_le_mul_right _ (by omega)
    rw [Nat.pow_succ, Nat.mul_comm (n ^ m) n]
    simp only [enc]
    rw [Nat.add_mul] at h3
    omega
theorem enc_inj {n : Nat} : ∀ {m : Nat} {f g : Nat → Nat}, (∀ i, i < m → f i < n) → (∀ i, i < m → g i < n) → enc n m f = enc n m g → ∀ i, i < m → f i = g i
  | 0, _, _, _, _, _, i, hi => by omega
  | m + 1, f, g, hf, hg, e, i, hi => by
    have a := enc_lt (m := m) (f := f) fun i hi => hf i (by omega)
    have b := enc_lt (m := m) (f := g) fun i hi => hg i (by omega)
    simp only [enc] at e
    have em : f m = g m := by
      have h0 : 0 < n ^ m := by omega
      have h1 : (enc n m f + f m * n ^ m) / n ^ m = f m := by
        rw [Nat.add_mul_div_right _ _ h0, Nat.div_eq_of_lt a]; omega
      have h2 : (enc n m g + g m * n ^ m) / n ^ m = g m := by
        rw [Nat.add_mul_div_right _ _ h0, Nat.div_eq_of_lt b]; omega
      rw [← h1, ← h2, e]
    by_cases z : i = m
    · rw [z]; exact em
    · refine enc_inj (m := m) (fun i hi => hf i (by omega)) (fun i hi => hg i (by omega)) ?_ i (by omega)
      rw [em] at e
      omega
/-- no longer chain than N -/
def EndsIn (m n w : Nat) (N : Nat) (s : Ts) : Prop := ∀ f : Nat → Ts, f 0 = s → ¬ ∀ i, i < N + 1 → Stp m n w (f i) (f (i + 1))
theorem Good.ends {s : Ts} (hw : w ≤ n) (G : Good m n w A cost s) : EndsIn m n w (n ^ m) s := fun f e h => by
  have Gi : ∀ i, i ≤ n ^ m → Good m n w A cost (f i) := by
    intro i
    induction i with
    | zero => intro _; rw [e]; exact G
    | succ i ih => intro hi; exact (ih (by omega)).step hw (h i (by omega))
  obtain ⟨i, j, h1, h2, h3⟩ := pigeon (n ^ m) (fun i => enc n m (f i).2) fun i hi => enc_lt fun k hk => (Gi i hi).tab.bd k hk
  have eb := enc_inj (m := m) (n := n) (fun k hk => (Gi i (by omega)).tab.bd k hk) (fun k hk => (Gi j (by omega)).tab.bd k hk) h3
  refine bland (f := fun x => f (i + x)) (L := j - i) hw (Gi i (by omega)) (fun x hx => h (i + x) (by omega)) (by omega) fun k hk => ?_
  show (f (i + (j - i))).2 k = (f (i + 0)).2 k
  rw [show i + (j - i) = j by omega, Nat.add_zero]
  exact (eb k hk).symm
theorem EndsIn.step {N : Nat} {s s' : Ts} (h : EndsIn m n w N s) (st : Stp m n w s s') : ∃ M, M < N ∧ EndsIn m n w M s' := by
  cases N with
  | zero => exact absurd (fun i hi => by
      have : i = 0 := by omega
      subst this; exact st) (h (fun i => if i = 0 then s else s') rfl)
  | succ N =>
    refine ⟨N, by omega, fun f e q => ?_⟩
    refine h (fun i => match i with | 0 => s | i + 1 => f i) rfl fun i hi => ?_
    cases i with
    | zero =>
      show Stp m n w s (f 0)
      rw [e]; exact st
    | succ i => exact q i (by omega)
end
end BB
namespace BB
/-! ### sizes of fractions -/
structure Bd (a b : Nat) (x : Rat) : Prop where
  num : x.num.natAbs < 2 ^ a
  den : x.den < 2 ^ b
theorem two_pos (k : Nat) : 0 < 2 ^ k := Nat.pow_pos (by omega)
theorem pow_le2 {a b : Nat} (h : a ≤ b) : 2 ^ a ≤ 2 ^ b := Nat.pow_le_pow_right (by omega) h
theorem Bd.mono {a b a' b' : Nat} {x : Rat} (h : Bd a b x) (ha : a ≤ a') (hb : b ≤ b') : Bd a' b' x :=
  ⟨Nat.lt_of_lt_of_le h.num (pow_le2 ha), Nat.lt_of_lt_of_le h.den (pow_le2 hb)⟩
theorem num_over_den (x : Rat) : x * ((x.den : Int) : Rat) = (x.num : Rat) := by
  have h1 := Rat.num_divInt_den x
  rw [Rat.divInt_eq_div] at h1
  have h2 : ((x.den : Int) : Rat) ≠ 0 := fun z => x.den_nz (by
    have := Rat.intCast_inj.mp (show ((x.den : Int) : Rat) = ((0 : Int) : Rat) from z)
    omega)
  have h3 : (x.num : Rat) / ((x.den : Int) : Rat) * ((x.den : Int) : Rat) = (x.num : Rat) := Rat.div_mul_cancel h2
  rw [h1] at h3
  exact h3
/-- a quotient of two integers -/
theorem Bd.quot {a b : Nat} {x : Rat} {W V : Int} (hV : V ≠ 0) (e : x * (V : Rat) = (W : Rat)) (ha : W.natAbs < 2 ^ a) (hb : V.natAbs < 2 ^ b) : Bd a b x := by
  have hd : x.den ≠ 0 := x.den_nz
  have e1 : x.num * V = W * (x.den : Int) := by
    have h1 := num_over_den x
    have h2 : ((x.num * V : Int) : Rat) = ((W * (x.den : Int) : Int) : Rat) := by
      rw [Rat.intCast_mul, Rat.intCast_mul, ← e, ← h1]
      grind
    exact Rat.intCast_inj.mp h2
  have e2 : x.num.natAbs * V.natAbs = W.natAbs * x.den := by
    have := congrArg Int.natAbs e1
    rw [Int.natAbs_mul, Int.natAbs_mul, Int.natAbs_natCast] at this
    exact this
  have dv : x.den ∣ V.natAbs := by
    have h1 : x.den ∣ x.num.natAbs * V.natAbs := ⟨W.natAbs, by rw [e2, Nat.mul_comm]⟩
    exact (Nat.Coprime.symm x.reduced).dvd_of_dvd_mul_left h1
  obtain ⟨t, ht⟩ := dv
  have hV' : V.natAbs ≠ 0 := by omega
  have t1 : 1 ≤ t := by
    cases t with
    | zero => omega
    | succ t => omega
  have e3 : x.num.natAbs * t = W.natAbs := by
    rw [ht] at e2
    have : (x.num.natAbs * t) * x.den = W.natAbs * x.den := by rw [← e2, Nat.mul_comm x.den t, Nat.mul_assoc]
    exact Nat.eq_of_mul_eq_mul_right (Nat.pos_of_ne_zero hd) this
  have l1 : x.num.natAbs ≤ W.natAbs := by rw [← e3]; exact Nat.le_mul_of_pos_right _ t1
  have l2 : x.den ≤ V.natAbs := by rw [ht]; exact Nat.le_mul_of_pos_right _ t1
  exact ⟨by omega, by omega⟩
theorem den_ne (x : Rat) : (x.den : Int) ≠ 0 := by have := x.den_nz; omega
theorem nlt_mul {a b x y : Nat} (hx : x < 2 ^ a) (hy : y < 2 ^ b) : x * y < 2 ^ (a + b) := by
  rw [Nat.pow_add]
  exact Nat.mul_lt_mul'' hx hy
theorem nlt_add {a x y : Nat} (hx : x < 2 ^ a) (hy : y < 2 ^ a) : x + y < 2 ^ (a + 1) := by
  rw [Nat.pow_succ]; omega
section
variable {a b c d : Nat} {x y : Rat}
theorem Bd.neg (h : Bd a b x) : Bd a b (-x) := ⟨by rw [Rat.neg_num, Int.natAbs_neg]; exact h.num, by rw [Rat.neg_den]; exact h.den⟩
theorem Bd.mul (h : Bd a b x) (k : Bd c d y) : Bd (a + c) (b + d) (x * y) := by
  refine Bd.quot (W := x.num * y.num) (V := (x.den : Int) * (y.den : Int)) (Int.mul_ne_zero (den_ne x) (den_ne y)) ?_ ?_ ?_
  · rw [Rat.intCast_mul, Rat.intCast_mul, ← num_over_den x, ← num_over_den y]; grind
  · rw [Int.natAbs_mul]; exact nlt_mul h.num k.num
  · rw [Int.natAbs_mul, Int.natAbs_natCast, Int.natAbs_natCast]; exact nlt_mul h.den k.den
theorem Bd.add {e : Nat} (h : Bd a b x) (k : Bd c d y) (h1 : a + d ≤ e) (h2 : c + b ≤ e) : Bd (e + 1) (b + d) (x + y) := by
  refine Bd.quot (W := x.num * (y.den : Int) + y.num * (x.den : Int)) (V := (x.den : Int) * (y.den : Int)) (Int.mul_ne_zero (den_ne x) (den_ne y)) ?_ ?_ ?_
  · rw [Rat.intCast_mul, Rat.intCast_add, Rat.intCast_mul, Rat.intCast_mul, ← num_over_den x, ← num_over_den y]; grind
  · refine Nat.lt_of_le_of_lt (Int.natAbs_add_le _ _) (nlt_add ?_ ?_)
    · rw [Int.natAbs_mul, Int.natAbs_natCast]; exact Nat.lt_of_lt_of_le (nlt_mul h.num k.den) (pow_le2 h1)
    · rw [Int.natAbs_mul, Int.natAbs_natCast]; exact Nat.lt_of_lt_of_le (nlt_mul k.num h.den) (pow_le2 h2)
  · rw [Int.natAbs_mul, Int.natAbs_natCast, Int.natAbs_natCast]; exact nlt_mul h.den k.den
theorem Bd.sub {e : Nat} (h : Bd a b x) (k : Bd c d y) (h1 : a + d ≤ e) (h2 : c + b ≤ e) : Bd (e + 1) (b + d) (x - y) := by
  rw [Rat.sub_eq_add_neg]
  exact h.add k.neg h1 h2
theorem Bd.div (h : Bd a b x) (k : Bd c d y) (hy : y ≠ 0) : Bd (a + d) (b + c) (x / y) := by
  have hn : y.num ≠ 0 := fun z => hy (Rat.num_eq_zero.mp z)
  refine Bd.quot (W := x.num * (y.den : Int)) (V := (x.den : Int) * y.num) (Int.mul_ne_zero (den_ne x) hn) ?_ ?_ ?_
  · rw [Rat.intCast_mul, Rat.intCast_mul, ← num_over_den x, ← num_over_den y]
    have : x / y * (((x.den : Int) : Rat) * (y * ((y.den : Int) : Rat))) = (x / y * y) * (((x.den : Int) : Rat) * ((y.den : Int) : Rat)) := by grind
    rw [this, Rat.div_mul_cancel hy]
    grind
  · rw [Int.natAbs_mul, Int.natAbs_natCast]; exact nlt_mul h.num k.den
  · rw [Int.natAbs_mul, Int.natAbs_natCast]; exact nlt_mul h.den k.num
theorem Bd.int {i : Int} (h : i.natAbs < 2 ^ a) (hb : 0 < b) : Bd a b (i : Rat) := by
  refine Bd.quot (W := i) (V := 1) (by decide) (by simp) h ?_
  exact Nat.lt_of_lt_of_le (by decide : (1 : Int).natAbs < 2 ^ 1) (pow_le2 hb)
theorem Bd.zero : Bd 1 1 0 := ⟨by decide, by decide⟩
theorem Bd.one : Bd 1 1 1 := ⟨by decide, by decide⟩
end

/-! ### a short integer vector that few equations annihilate -/
def smI : Nat → (Nat → Int) → Int
  | 0, _ => 0
  | n + 1, f => smI n f + f n
theorem smI_cast (f : Nat → Int) : ∀ n, ((smI n f : Int) : Rat) = sm n (fun i => (f i : Rat))
  | 0 => rfl
  | n + 1 => by
    simp only [smI, sm, Rat.intCast_add, smI_cast f n]
theorem smI_abs {f : Nat → Int} {M : Nat} : ∀ {n : Nat}, (∀ i, i < n → (f i).natAbs ≤ M) → (smI n f).natAbs ≤ n * M
  | 0, _ => by simp [smI]
  | n + 1, h => by
    have h1 := smI_abs (n := n) fun i hi => h i (by omega)
    have h2 := h n (by omega)
    have h3 := Int.natAbs_add_le (smI n f) (f n)
    simp only [smI]
    rw [Nat.add_mul]
    omega
theorem smI_sub (f g : Nat → Int) : ∀ n, smI n (fun i => f i - g i) = smI n f - smI n g
  | 0 => by simp [smI]
  | n + 1 => by
    have h := smI_sub f g n
    simp only [smI]; omega
theorem smI_congr {f g : Nat → Int} : ∀ {n : Nat}, (∀ i, i < n → f i = g i) → smI n f = smI n g
  | 0, _ => rfl
  | n + 1, h => by
    simp only [smI, smI_congr (n := n) fun i hi => h i (by omega), h n (by omega)]
def dig (b : Nat) : Nat → Nat → Nat
  | c, 0 => c % b
  | c, i + 1 => dig b (c / b) i
theorem dig_lt {b : Nat} (hb : 0 < b) : ∀ i c, dig b c i < b
  | 0, c => Nat.mod_lt _ hb
  | i + 1, c => dig_lt hb i (c / b)
theorem dig_inj {b : Nat} (hb : 0 < b) : ∀ {n c d : Nat}, c < b ^ n → d < b ^ n → (∀ i, i < n → dig b c i = dig b d i) → c = d
  | 0, c, d, hc, hd, _ => by
    have h1 : b ^ 0 = 1 := rfl
    omega
  | n + 1, c, d, hc, hd, h => by
    have h0 : c % b = d % b := h 0 (by omega)
    have h1 : c / b = d / b := by
      rw [Nat.pow_succ] at hc hd
      exact dig_inj hb (Nat.div_lt_of_lt_mul (by rw [Nat.mul_comm]; exact hc)) (Nat.div_lt_of_lt_mul (by rw [Nat.mul_comm]; exact hd)) fun i hi => h (i + 1) (by omega)
    have h2 := Nat.div_add_mod c b
    have h3 := Nat.div_add_mod d b
    rw [h0, h1] at h2
    omega
theorem siegel {k M : Nat} {a : Nat → Nat → Int} (hM : 1 ≤ M) (h : ∀ l, l < k → ∀ i, i < k + 1 → (a l i).natAbs ≤ M) :
    ∃ w : Nat → Int, (∃ i, i < k + 1 ∧ w i ≠ 0) ∧ (∀ i, i < k + 1 → (w i).natAbs ≤ (2 * (k + 1) * M) ^ k) ∧ ∀ l, l < k → smI (k + 1) (fun i => w i * a l i) = 0 := by
  obtain ⟨H, hH⟩ : ∃ H, H = (2 * (k + 1) * M) ^ k := ⟨_, rfl⟩
  rw [← hH]
  obtain ⟨y, hy⟩ : ∃ y : Nat → Nat → Int, ∀ c l, y c l = smI (k + 1) (fun i => (dig (H + 1) c i : Int) * a l i) := ⟨_, fun _ _ => rfl⟩
  have yb : ∀ c l, l < k → (y c l).natAbs ≤ (k + 1) * (H * M) := fun c l hl => by
    rw [hy]
    refine smI_abs fun i hi => ?_
    rw [Int.natAbs_mul, Int.natAbs_natCast]
    exact Nat.mul_le_mul (by have := dig_lt (b := H + 1) (by omega) i c; omega) (h l hl i hi)
  obtain ⟨L, hL⟩ : ∃ L, L = 2 * ((k + 1) * (H * M)) + 1 := ⟨_, rfl⟩
  obtain ⟨g, hg⟩ : ∃ g : Nat → Nat → Nat, ∀ c l, g c l = (y c l + ((k + 1) * (H * M) : Nat)).toNat := ⟨_, fun _ _ => rfl⟩
  have gb : ∀ c l, l < k → g c l < L := fun c l hl => by
    have := yb c l hl
    rw [hg]
    omega
  have big : L ^ k < (H + 1) ^ (k + 1) := by
    have h1 : L ≤ (2 * (k + 1) * M) * (H + 1) := by
      have e : (2 * (k + 1) * M) * (H + 1) = 2 * ((k + 1) * (H * M)) + 2 * ((k + 1) * M) := by grind
      have : 1 ≤ (k + 1) * M := Nat.mul_pos (by omega) hM
      omega
    have h2 : L ^ k ≤ H * (H + 1) ^ k := by
      have := Nat.pow_le_pow_left h1 k
      rw [Nat.mul_pow, ← hH] at this
      exact this
    have h3 : 0 < (H + 1) ^ k := Nat.pow_pos (by omega)
    rw [Nat.pow_succ, Nat.mul_comm ((H + 1) ^ k)]
    rw [Nat.add_mul]
    omega
  obtain ⟨i, j, h1, h2, h3⟩ := pigeon (L ^ k) (fun c => enc L k (g c)) fun c _ => enc_lt fun l hl => gb c l hl
  have eg := enc_inj (fun l hl => gb i l hl) (fun l hl => gb j l hl) h3
  refine ⟨fun x => (dig (H + 1) i x : Int) - (dig (H + 1) j x : Int), ?_, fun x hx => ?_, fun l hl => ?_⟩
  · refine Classical.byContradiction fun no => ?_
    have e : i = j := dig_inj (b := H + 1) (n := k + 1) (by omega) (by omega) (by omega) fun x hx => by
      refine Classical.byContradiction fun ne => no ⟨x, hx, ?_⟩
      show (dig (H + 1) i x : Int) - (dig (H + 1) j x : Int) ≠ 0
      omega
    omega
  · have a1 := dig_lt (b := H + 1) (by omega) x i
    have a2 := dig_lt (b := H + 1) (by omega) x j
    show ((dig (H + 1) i x : Int) - (dig (H + 1) j x : Int)).natAbs ≤ H
    omega
  · have e := eg l hl
    rw [hg, hg] at e
    have b1 := yb i l hl
    have b2 := yb j l hl
    have ey : y i l = y j l := by omega
    rw [hy, hy] at ey
    rw [smI_congr (g := fun x => (dig (H + 1) i x : Int) * a l x - (dig (H + 1) j x : Int) * a l x) (fun x _ => by grind), smI_sub]
    omega
end BB
namespace BB
/-! ### every number of a tableau is a quotient of small integers -/
/-- the first rows made whole: D the factors of the rows, dm that of the weights -/
structure Scl (s : Nat) (m n : Nat) (A : Nat → Nat → Rat) (u : Nat → Nat) (D : Nat → Int) : Prop where
  m6 : m ≤ 6
  nz : ∀ i, i < m → D i ≠ 0
  ent : ∀ i, i < m → ∀ c, c < n → ∃ z : Int, D i * A i c = (z : Rat) ∧ z.natAbs ≤ 2 ^ s
  un : ∀ k, k < m → u k < n ∧ ∀ l, l < m → A l (u k) = if l = k then 1 else 0
section
variable {m n s : Nat} {A : Nat → Nat → Rat} {cost : Nat → Rat} {T : Nat → Nat → Rat} {B u : Nat → Nat} {D : Nat → Int}
theorem nat_pow6 {x : Nat} {e : Nat} (hm : m ≤ 6) (h1 : x ≤ 2 ^ e) : x ^ m ≤ 2 ^ (6 * e) := by
  have a := Nat.pow_le_pow_left h1 m
  rw [← Nat.pow_mul] at a
  exact Nat.le_trans a (pow_le2 (by rw [Nat.mul_comm]; exact Nat.mul_le_mul_right _ hm))
/-- the core: a vector of integers w, the weights' share w m not 0 -/
theorem combo_w (I : Tab m n A cost T B) (S : Scl s m n A u D) {γ : Nat → Rat} {dm : Int} (hd : dm ≠ 0) (hγ : ∀ l, l < m → ∃ z : Int, dm * γ l = (z : Rat) ∧ z.natAbs ≤ 2 ^ s) :
    ∃ w : Nat → Int, w m ≠ 0 ∧ (∀ i, i < m + 1 → (w i).natAbs ≤ 2 ^ (6 * (s + 4))) ∧ ∀ c, c ≤ n → sm m (fun l => γ l * T l c) * ((w m * dm : Int) : Rat) = - sm m (fun i => (w i : Rat) * (D i * A i c)) := by
  -- the integers
  obtain ⟨Z, hZ⟩ : ∃ Z : Nat → Nat → Int, ∀ l, l < m → ∀ i, i < m → D i * A i (B l) = (Z l i : Rat) ∧ (Z l i).natAbs ≤ 2 ^ s := by
    refine ⟨fun l i => if h : l < m ∧ i < m then Classical.choose (S.ent i h.2 (B l) (I.bd l h.1)) else 0, fun l hl i hi => ?_⟩
    simp only [dif_pos (show l < m ∧ i < m from ⟨hl, hi⟩)]
    exact Classical.choose_spec (S.ent i hi (B l) (I.bd l hl))
  obtain ⟨g, hg⟩ : ∃ g : Nat → Int, ∀ l, l < m → dm * γ l = (g l : Rat) ∧ (g l).natAbs ≤ 2 ^ s := by
    refine ⟨fun l => if h : l < m then Classical.choose (hγ l h) else 0, fun l hl => ?_⟩
    simp only [dif_pos hl]
    exact Classical.choose_spec (hγ l hl)
  obtain ⟨w, hw1, hw2, hw3⟩ := siegel (k := m) (M := 2 ^ s) (a := fun l i => if i < m then Z l i else g l) (two_pos s) fun l hl i hi => by
    show (if i < m then Z l i else g l).natAbs ≤ 2 ^ s
    by_cases e : i < m
    · rw [if_pos e]; exact (hZ l hl i e).2
    · rw [if_neg e]; exact (hg l hl).2
  have eq1 : ∀ l, l < m → sm m (fun i => (w i : Rat) * (D i * A i (B l))) + (w m : Rat) * (dm * γ l) = 0 := fun l hl => by
    have h1 := hw3 l hl
    have h2 : ((smI (m + 1) (fun i => w i * (if i < m then Z l i else g l)) : Int) : Rat) = 0 := by rw [h1]; rfl
    rw [smI_cast, sm_succ] at h2
    rw [← h2, (hg l hl).1]
    congr 1
    · exact sm_congr fun i hi => by rw [if_pos hi, Rat.intCast_mul, (hZ l hl i hi).1]
    · rw [if_neg (by omega), Rat.intCast_mul]
  have eq2 : ∀ c, c ≤ n → sm m (fun l => γ l * T l c) * ((w m * dm : Int) : Rat) = - sm m (fun i => (w i : Rat) * (D i * A i c)) := fun c hc => by
    have h1 : sm m (fun i => (w i : Rat) * (D i * A i c)) = sm m (fun i => sm m (fun l => (w i : Rat) * (D i * A i (B l)) * T l c)) := sm_congr fun i hi => by
      rw [I.back i hi c hc, ← sm_mul, ← sm_mul]
      exact sm_congr fun l _ => by grind
    have h2 : sm m (fun l => sm m (fun i => (w i : Rat) * (D i * A i (B l)) * T l c)) = (-((w m : Rat) * dm)) * sm m (fun l => γ l * T l c) := by
      rw [← sm_mul]
      refine sm_congr fun l hl => ?_
      rw [sm_mulr]
      have := eq1 l hl
      have e : sm m (fun i => (w i : Rat) * (D i * A i (B l))) = - ((w m : Rat) * (dm * γ l)) := by grind
      rw [e]
      grind
    rw [h1, sm_comm, h2, Rat.intCast_mul]
    grind
  refine ⟨w, fun z => ?_, fun i hi => Nat.le_trans (hw2 i hi) ?_, eq2⟩
  · -- else w annihilates every column, the unit ones too
    obtain ⟨i, hi, ne⟩ := hw1
    have him : i < m := by
      by_cases e : i = m
      · rw [e] at ne; exact absurd z ne
      · omega
    obtain ⟨hu, hu2⟩ := S.un i him
    have h1 := eq2 (u i) (by omega)
    have h3 : sm m (fun j => (w j : Rat) * (D j * A j (u i))) = (w i : Rat) * (D i * A i (u i)) := sm_single him fun j hj nj => by
      rw [hu2 j hj, if_neg nj]
      grind
    have h0 : ((0 : Int) : Rat) = 0 := rfl
    rw [z, Int.zero_mul, h3, hu2 i him, if_pos rfl, h0] at h1
    have h2 : (w i : Rat) * D i = 0 := by grind
    rcases Rat.mul_eq_zero.mp h2 with x | x
    · exact ne (Rat.intCast_inj.mp x)
    · exact S.nz i him (Rat.intCast_inj.mp x)
  · refine nat_pow6 S.m6 ?_
    have h6 := S.m6
    have : 2 * (m + 1) * 2 ^ s ≤ 2 ^ 4 * 2 ^ s := Nat.mul_le_mul_right _ (by omega)
    rw [Nat.pow_add, Nat.mul_comm (2 ^ s)]
    exact this
theorem six_le {m b x : Nat} (hm : m ≤ 6) (h : x ≤ m * 2 ^ b) : x < 2 ^ (b + 3) := by
  have h1 : m * 2 ^ b ≤ 6 * 2 ^ b := Nat.mul_le_mul_right _ hm
  have h2 := two_pos b
  rw [Nat.pow_add]
  omega
/-- the columns -/
theorem combo_col (I : Tab m n A cost T B) (S : Scl s m n A u D) {γ : Nat → Rat} {dm : Int} (hd : dm ≠ 0) (hdb : dm.natAbs < 2 ^ s) (hγ : ∀ l, l < m → ∃ z : Int, dm * γ l = (z : Rat) ∧ z.natAbs ≤ 2 ^ s) {c : Nat} (hc : c < n) :
    Bd (7 * s + 27) (7 * s + 27) (sm m (fun l => γ l * T l c)) := by
  obtain ⟨w, w0, wb, we⟩ := combo_w I S hd hγ
  obtain ⟨Z, hZ⟩ : ∃ Z : Nat → Int, ∀ i, i < m → D i * A i c = (Z i : Rat) ∧ (Z i).natAbs ≤ 2 ^ s := by
    refine ⟨fun i => if h : i < m then Classical.choose (S.ent i h c hc) else 0, fun i hi => ?_⟩
    simp only [dif_pos hi]
    exact Classical.choose_spec (S.ent i hi c hc)
  refine Bd.quot (W := - smI m (fun i => w i * Z i)) (V := w m * dm) (Int.mul_ne_zero w0 hd) ?_ ?_ ?_
  · rw [we c (by omega), Rat.intCast_neg, smI_cast]
    congr 1
    exact sm_congr fun i hi => by rw [(hZ i hi).1, Rat.intCast_mul]
  · rw [Int.natAbs_neg]
    have h1 : (smI m (fun i => w i * Z i)).natAbs ≤ m * 2 ^ (7 * s + 24) := smI_abs fun i hi => by
      rw [Int.natAbs_mul, show 7 * s + 24 = 6 * (s + 4) + s by omega, Nat.pow_add]
      exact Nat.mul_le_mul (wb i (by omega)) (hZ i hi).2
    exact six_le S.m6 h1
  · rw [Int.natAbs_mul]
    have h1 : (w m).natAbs < 2 ^ (6 * (s + 4) + 1) := by
      have := wb m (by omega)
      have := two_pos (6 * (s + 4))
      rw [Nat.pow_succ]; omega
    exact Nat.lt_of_lt_of_le (nlt_mul h1 hdb) (pow_le2 (by omega))
/-- the right sides: E makes them whole -/
theorem combo_rhs (I : Tab m n A cost T B) (S : Scl s m n A u D) {γ : Nat → Rat} {dm E : Int} (hd : dm ≠ 0) (hdb : dm.natAbs < 2 ^ s) (hγ : ∀ l, l < m → ∃ z : Int, dm * γ l = (z : Rat) ∧ z.natAbs ≤ 2 ^ s) (hE : E ≠ 0) {e r : Nat} (hEb : E.natAbs < 2 ^ e)
    (hr : ∀ i, i < m → ∃ z : Int, E * (D i * A i n) = (z : Rat) ∧ z.natAbs ≤ 2 ^ r) : Bd (6 * s + 27 + r) (7 * s + 25 + e) (sm m (fun l => γ l * T l n)) := by
  obtain ⟨w, w0, wb, we⟩ := combo_w I S hd hγ
  obtain ⟨Z, hZ⟩ : ∃ Z : Nat → Int, ∀ i, i < m → E * (D i * A i n) = (Z i : Rat) ∧ (Z i).natAbs ≤ 2 ^ r := by
    refine ⟨fun i => if h : i < m then Classical.choose (hr i h) else 0, fun i hi => ?_⟩
    simp only [dif_pos hi]
    exact Classical.choose_spec (hr i hi)
  refine Bd.quot (W := - smI m (fun i => w i * Z i)) (V := w m * dm * E) (Int.mul_ne_zero (Int.mul_ne_zero w0 hd) hE) ?_ ?_ ?_
  · rw [Rat.intCast_mul, ← Rat.mul_assoc, we n (Nat.le_refl _), Rat.intCast_neg, smI_cast, Rat.neg_mul, ← sm_mulr]
    congr 1
    exact sm_congr fun i hi => by rw [Rat.intCast_mul, ← (hZ i hi).1]; grind
  · rw [Int.natAbs_neg]
    have h1 : (smI m (fun i => w i * Z i)).natAbs ≤ m * 2 ^ (6 * s + 24 + r) := smI_abs fun i hi => by
      rw [Int.natAbs_mul, show 6 * s + 24 + r = 6 * (s + 4) + r by omega, Nat.pow_add]
      exact Nat.mul_le_mul (wb i (by omega)) (hZ i hi).2
    exact Nat.lt_of_lt_of_le (six_le S.m6 h1) (pow_le2 (by omega))
  · rw [Int.natAbs_mul, Int.natAbs_mul]
    have h1 : (w m).natAbs < 2 ^ (6 * (s + 4) + 1) := by
      have := wb m (by omega)
      have := two_pos (6 * (s + 4))
      rw [Nat.pow_succ]; omega
    exact Nat.lt_of_lt_of_le (nlt_mul (nlt_mul h1 hdb) hEb) (pow_le2 (by omega))
/-- one row alone -/
theorem sm_unit {k : Nat} (hk : k < m) (f : Nat → Rat) : sm m (fun l => (if l = k then 1 else 0) * f l) = f k := by
  rw [sm_single hk]
  · rw [if_pos rfl]; grind
  · intro i _ ne
    rw [if_neg ne]; grind
theorem unit_int (s k l : Nat) : ∃ z : Int, ((1 : Int) : Rat) * (if l = k then 1 else 0) = (z : Rat) ∧ z.natAbs ≤ 2 ^ s := by
  have := two_pos s
  by_cases e : l = k
  · exact ⟨1, by rw [if_pos e]; exact Rat.mul_one _, by show 1 ≤ 2 ^ s; omega⟩
  · exact ⟨0, by rw [if_neg e]; exact Rat.mul_zero _, by simp⟩
end
end BB
namespace BB
section
variable {m n : Nat} {A : Nat → Nat → Rat} {cost cost2 : Nat → Rat} {T : Nat → Nat → Rat} {B u : Nat → Nat}
/-! ### other costs -/
def recost (m : Nat) (cost : Nat → Rat) (T : Nat → Nat → Rat) (B : Nat → Nat) : Nat → Nat → Rat := fun k c => if k = m then cost c - sm m (fun l => cost (B l) * T l c) else T k c
theorem Tab.recost (I : Tab m n A cost T B) (cost2 : Nat → Rat) : Tab m n A cost2 (recost m cost2 T B) B := by
  have e1 : ∀ k, k < m → ∀ c, BB.recost m cost2 T B k c = T k c := fun k hk c => by
    unfold BB.recost
    rw [if_neg (by omega)]
  have e2 : ∀ c, BB.recost m cost2 T B m c = cost2 c - sm m (fun l => cost2 (B l) * T l c) := fun c => by
    unfold BB.recost
    rw [if_pos rfl]
  refine ⟨fun k hk => ?_, fun k hk c hc => ?_, fun k hk l hl => ?_, I.bd, ?_, fun l hl => ?_⟩
  · obtain ⟨ρ, h⟩ := I.comb k hk
    exact ⟨ρ, fun c hc => by rw [e1 k hk]; exact h c hc⟩
  · rw [I.back k hk c hc]
    exact sm_congr fun l hl => by rw [e1 l hl]
  · rw [e1 k hk]; exact I.unit k hk l hl
  · obtain ⟨R, hR⟩ : ∃ R : Nat → Nat → Rat, ∀ k, k < m → ∀ c, c ≤ n → T k c = sm m (fun l => R k l * A l c) := by
      refine ⟨fun k => if h : k < m then Classical.choose (I.comb k h) else fun _ => 0, fun k hk => ?_⟩
      simp only [dif_pos hk]
      exact Classical.choose_spec (I.comb k hk)
    refine ⟨fun l => sm m (fun k => cost2 (B k) * R k l), fun c hc => ?_⟩
    rw [e2]
    congr 1
    have h1 : sm m (fun l => cost2 (B l) * T l c) = sm m (fun k => sm m (fun l => cost2 (B k) * R k l * A l c)) := sm_congr fun k hk => by
      rw [hR k hk c hc, ← sm_mul]
      exact sm_congr fun l _ => by grind
    rw [h1, sm_comm]
    exact sm_congr fun l _ => by rw [sm_mulr]
  · rw [e2, sm_single hl]
    · rw [I.unit l hl l hl, if_pos rfl]; grind
    · intro i hi ne
      rw [I.unit i hi l hl, if_neg ne]; grind
/-- the first tableau -/
theorem Tab.start (hu : ∀ k, k < m → u k < n ∧ ∀ l, l < m → A l (u k) = if l = k then 1 else 0) (cost : Nat → Rat) : Tab m n A cost (BB.recost m cost A u) u := by
  have h0 : Tab m n A (fun _ => 0) (fun k c => if k = m then 0 else A k c) u := by
    refine ⟨fun k hk => ⟨fun l => if l = k then 1 else 0, fun c _ => ?_⟩, fun k hk c _ => ?_, fun k hk l hl => ?_, fun l hl => (hu l hl).1, ⟨fun _ => 0, fun c _ => ?_⟩, fun l hl => if_pos rfl⟩
    · rw [sm_unit hk (fun l => A l c), if_neg (by omega)]
    · rw [sm_congr (g := fun l => (if l = k then 1 else 0) * A l c) (fun l hl => by
        rw [(hu l hl).2 k hk]
        show (if k = l then 1 else 0) * (if l = m then 0 else A l c) = _
        rw [if_neg (show ¬ l = m by omega)]
        by_cases e : l = k
        · rw [if_pos e, if_pos e.symm]
        · rw [if_neg e, if_neg (fun z => e z.symm)]), sm_unit hk (fun l => A l c)]
    · show (if k = m then 0 else A k (u l)) = _
      rw [if_neg (by omega)]
      exact (hu l hl).2 k hk
    · show (if m = m then 0 else A m c) = _
      rw [if_pos rfl, sm_zero fun i _ => by grind]; grind
  have h1 := h0.recost cost
  have e : BB.recost m cost (fun k c => if k = m then 0 else A k c) u = BB.recost m cost A u := by
    funext k c
    unfold BB.recost
    by_cases z : k = m
    · rw [if_pos z, if_pos z]
      congr 1
      exact sm_congr fun l hl => by
        show cost (u l) * (if l = m then 0 else A l c) = _
        rw [if_neg (by omega)]
    · rw [if_neg z, if_neg z]
      show (if k = m then 0 else A k c) = A k c
      rw [if_neg z]
  rw [e] at h1
  exact h1
/-- the reduced costs by the basis -/
theorem Tab.zform (I : Tab m n A cost T B) {c : Nat} (hc : c ≤ n) : T m c = cost c - sm m (fun k => cost (B k) * T k c) := by
  have J := I.recost cost
  have h := I.zsame J (fun _ _ => rfl) hc
  rw [← h]
  unfold BB.recost
  rw [if_pos rfl]
/-- the prices, read off the unit columns -/
theorem Tab.dual (I : Tab m n A cost T B) (hu : ∀ k, k < m → u k < n ∧ ∀ l, l < m → A l (u k) = if l = k then 1 else 0) {c : Nat} (hc : c ≤ n) : T m c = cost c - sm m (fun l => (cost (u l) - T m (u l)) * A l c) := by
  obtain ⟨y, hy⟩ := I.zcomb
  rw [hy c hc]
  congr 1
  refine sm_congr fun l hl => ?_
  have h := hy (u l) (by have := (hu l hl).1; omega)
  rw [sm_congr (g := fun i => (if i = l then 1 else 0) * y i) (fun i hi => by rw [(hu l hl).2 i hi]; grind), sm_unit hl y] at h
  rw [h]
  grind
theorem sm_pick {k : Nat} (hk : k < n) (f g : Nat → Rat) : sm n (fun d => f d * (if d = k then g d else 0)) = f k * g k := by
  rw [sm_single hk]
  · rw [if_pos rfl]
  · intro i _ ne
    rw [if_neg ne]; grind
/-- a sum over the columns of what stands at the basis -/
theorem sm_basis (hB : ∀ k, k < m → B k < n) (f g : Nat → Rat) : sm n (fun d => f d * sm m (fun k => if B k = d then g k else 0)) = sm m (fun k => f (B k) * g k) := by
  have h1 : sm n (fun d => f d * sm m (fun k => if B k = d then g k else 0)) = sm n (fun d => sm m (fun k => f d * (if B k = d then g k else 0))) := sm_congr fun d _ => by rw [sm_mul]
  rw [h1, sm_comm]
  refine sm_congr fun k hk => ?_
  rw [sm_single (hB k hk)]
  · rw [if_pos rfl]
  · intro i _ ne
    rw [if_neg fun z => ne z.symm]; grind
/-- nothing leaves: a direction -/
theorem Tab.ray (I : Tab m n A cost T B) {w c : Nat} (hw : w ≤ n) (E : Enter m w T c) (no : ∀ k, k < m → ¬ 0 < T k c) :
    ∃ v : Nat → Rat, (∀ d, d < n → 0 ≤ v d) ∧ (∀ k, k < m → sm n (fun d => A k d * v d) = 0) ∧ sm n (fun d => cost d * v d) < 0 ∧
      ∀ d, d < n → d ≠ c → (∀ k, k < m → B k = d → T k c = 0) → v d = 0 := by
  have hc : c < n := Nat.lt_of_lt_of_le E.1 hw
  have val : ∀ f : Nat → Rat, sm n (fun d => f d * ((if d = c then 1 else 0) + sm m (fun k => if B k = d then -(T k c) else 0))) = f c - sm m (fun k => f (B k) * T k c) := fun f => by
    have h1 : sm n (fun d => f d * ((if d = c then 1 else 0) + sm m (fun k => if B k = d then -(T k c) else 0))) = sm n (fun d => f d * (if d = c then 1 else 0) + f d * sm m (fun k => if B k = d then -(T k c) else 0)) := sm_congr fun d _ => by grind
    rw [h1, sm_add, sm_pick hc f (fun _ => 1), sm_basis I.bd]
    have h2 : sm m (fun k => f (B k) * -(T k c)) = (-1) * sm m (fun k => f (B k) * T k c) := by
      rw [← sm_mul]
      exact sm_congr fun k _ => by grind
    rw [h2]
    grind
  refine ⟨fun d => (if d = c then 1 else 0) + sm m (fun k => if B k = d then -(T k c) else 0), fun d _ => ?_, fun k hk => ?_, ?_, fun d hd ne z => ?_⟩
  · have h1 : 0 ≤ sm m (fun k => if B k = d then -(T k c) else 0) := sm_nn fun k hk => by
      have := no k hk
      by_cases e : B k = d
      · rw [if_pos e]; grind
      · rw [if_neg e]; grind
    show 0 ≤ (if d = c then 1 else 0) + _
    by_cases e : d = c
    · rw [if_pos e]; grind
    · rw [if_neg e]; grind
  · rw [val, ← I.back k hk c (by omega)]
    grind
  · rw [val, ← I.zform (by omega)]
    exact E.2.1
  · show (if d = c then 1 else 0) + sm m (fun k => if B k = d then -(T k c) else 0) = 0
    rw [if_neg ne, sm_zero fun k hk => ?_]
    · grind
    · by_cases e : B k = d
      · rw [if_pos e, z k hk e]; grind
      · rw [if_neg e]
/-- values that fit, and the costs -/
theorem Tab.weak (I : Tab m n A cost T B) (h0 : cost n = 0) {v : Nat → Rat} (hv : ∀ k, k < m → sm n (fun d => A k d * v d) = A k n) : sm n (fun d => T m d * v d) = sm n (fun d => cost d * v d) + T m n := by
  obtain ⟨y, hy⟩ := I.zcomb
  have h1 : sm n (fun d => T m d * v d) = sm n (fun d => cost d * v d - sm m (fun l => y l * (A l d * v d))) := sm_congr fun d hd => by
    rw [hy d (by omega)]
    have : sm m (fun l => y l * (A l d * v d)) = sm m (fun l => y l * A l d) * v d := by
      rw [← sm_mulr]
      exact sm_congr fun l _ => by grind
    rw [this]
    grind
  have h2 : sm n (fun d => sm m (fun l => y l * (A l d * v d))) = sm m (fun l => y l * A l n) := by
    rw [sm_comm]
    exact sm_congr fun l hl => by rw [sm_mul, hv l hl]
  rw [h1, sm_sub, h2, hy n (Nat.le_refl _), h0]
  grind
/-- the values of a tableau -/
def vals (m n : Nat) (T : Nat → Nat → Rat) (B : Nat → Nat) : Nat → Rat := fun d => sm m (fun k => if B k = d then T k n else 0)
theorem Tab.fits (I : Tab m n A cost T B) {k : Nat} (hk : k < m) : sm n (fun d => A k d * vals m n T B d) = A k n := by
  unfold vals
  rw [sm_basis I.bd, ← I.back k hk n (Nat.le_refl _)]
theorem Tab.value (I : Tab m n A cost T B) (h0 : cost n = 0) : sm n (fun d => cost d * vals m n T B d) = - T m n := by
  unfold vals
  rw [sm_basis I.bd, I.zform (Nat.le_refl _), h0]
  grind
theorem vals_nn (hp : ∀ k, k < m → 0 ≤ T k n) (d : Nat) : 0 ≤ vals m n T B d := sm_nn fun k hk => by
  by_cases e : B k = d
  · rw [if_pos e]; exact hp k hk
  · rw [if_neg e]; grind
theorem Tab.vals_at (I : Tab m n A cost T B) {k : Nat} (hk : k < m) : vals m n T B (B k) = T k n := by
  unfold vals
  rw [sm_single hk]
  · rw [if_pos rfl]
  · intro i hi ne
    rw [if_neg fun z => ne (I.inj hi hk z)]
theorem vals_out {d : Nat} (h : ∀ k, k < m → B k = d → T k n = 0) : vals m n T B d = 0 := sm_zero fun k hk => by
  by_cases e : B k = d
  · rw [if_pos e, h k hk e]
  · rw [if_neg e]
end
end BB
namespace BB
/-! ### programs: lines of three kinds -/
inductive LK where
  | least | equal | most
  deriving DecidableEq
structure Lp where
  m : Nat
  cnt : Nat
  ent : Nat → Nat → Rat
  kind : Nat → LK
  right : Nat → Rat
def cntK (no : LK) (kind : Nat → LK) : Nat → Nat
  | 0 => 0
  | k + 1 => cntK no kind k + (if kind k = no then 0 else 1)
theorem cntK_le {no : LK} {kind : Nat → LK} : ∀ {l k : Nat}, k ≤ l → cntK no kind k ≤ cntK no kind l
  | 0, k, h => by
    have : k = 0 := by omega
    subst this; omega
  | l + 1, k, h => by
    by_cases e : k = l + 1
    · subst e; omega
    · have := cntK_le (no := no) (kind := kind) (l := l) (k := k) (by omega)
      simp only [cntK]; omega
theorem cntK_lt {no : LK} {kind : Nat → LK} {k l : Nat} (h : k < l) (hk : kind k ≠ no) : cntK no kind k < cntK no kind l := by
  have h1 := cntK_le (no := no) (kind := kind) (k := k + 1) (l := l) (by omega)
  have h2 : cntK no kind (k + 1) = cntK no kind k + 1 := by
    simp only [cntK, if_neg hk]
  omega
theorem cntK_inj {no : LK} {kind : Nat → LK} {k l : Nat} (hk : kind k ≠ no) (hl : kind l ≠ no) (e : cntK no kind k = cntK no kind l) : k = l := by
  rcases Nat.lt_trichotomy k l with h | h | h
  · have := cntK_lt h hk; omega
  · exact h
  · have := cntK_lt h hl; omega
theorem cntK_max {no : LK} {kind : Nat → LK} : ∀ k, cntK no kind k ≤ k
  | 0 => by simp [cntK]
  | k + 1 => by
    have := cntK_max (no := no) (kind := kind) k
    simp only [cntK]
    by_cases e : kind k = no
    · rw [if_pos e]; omega
    · rw [if_neg e]; omega
namespace Lp
variable (L : Lp)
def sc (k : Nat) : Nat := cntK .equal L.kind k
def hc (k : Nat) : Nat := cntK .most L.kind k
def w : Nat := L.cnt + L.sc L.m
def n : Nat := L.w + L.hc L.m
def sg (k : Nat) : Rat := if L.kind k = .most then 1 else -1
def A (k c : Nat) : Rat := if c < L.cnt then L.ent k c else if c = L.n then L.right k else (if L.kind k ≠ .equal ∧ c = L.cnt + L.sc k then L.sg k else 0) + (if L.kind k ≠ .most ∧ c = L.w + L.hc k then 1 else 0)
def u (k : Nat) : Nat := if L.kind k = .most then L.cnt + L.sc k else L.w + L.hc k
/-- values that fit -/
structure Fits (x : Nat → Rat) : Prop where
  nn : ∀ c, c < L.cnt → 0 ≤ x c
  least : ∀ k, k < L.m → L.kind k = .least → L.right k ≤ sm L.cnt (fun c => L.ent k c * x c)
  equal : ∀ k, k < L.m → L.kind k = .equal → sm L.cnt (fun c => L.ent k c * x c) = L.right k
  most : ∀ k, k < L.m → L.kind k = .most → sm L.cnt (fun c => L.ent k c * x c) ≤ L.right k
/-- costs of the first phase, of the second -/
def c1 (c : Nat) : Rat := if c < L.w then 0 else if c < L.n then 1 else 0
def c2 (cost : Nat → Rat) (c : Nat) : Rat := if c < L.cnt then cost c else 0
variable {L}
theorem sc_lt {k : Nat} (hk : k < L.m) (h : L.kind k ≠ .equal) : L.sc k < L.sc L.m := cntK_lt hk h
theorem hc_lt {k : Nat} (hk : k < L.m) (h : L.kind k ≠ .most) : L.hc k < L.hc L.m := cntK_lt hk h
theorem le_wn : L.w ≤ L.n := Nat.le_add_right _ _
theorem unitA {k : Nat} (hk : k < L.m) : L.u k < L.n ∧ ∀ l, l < L.m → L.A l (L.u k) = if l = k then 1 else 0 := by
  unfold u
  by_cases e : L.kind k = .most
  · have ne : L.kind k ≠ .equal := by rw [e]; decide
    have h1 := sc_lt hk ne
    rw [if_pos e]
    refine ⟨by unfold n w; omega, fun l hl => ?_⟩
    unfold A
    rw [if_neg (by omega), if_neg (by unfold n w; omega), if_neg (show ¬ (L.kind l ≠ .most ∧ L.cnt + L.sc k = L.w + L.hc l) by
      intro z
      have := z.2
      unfold w at this
      omega)]
    by_cases z : l = k
    · subst z
      rw [if_pos rfl, if_pos ⟨ne, rfl⟩]
      unfold sg
      rw [if_pos e]; grind
    · rw [if_neg z, if_neg (fun y => z (cntK_inj (no := .equal) y.1 ne (by
        have := y.2
        unfold sc at this
        omega)))]
      grind
  · have h1 := hc_lt hk e
    rw [if_neg e]
    refine ⟨by unfold n; omega, fun l hl => ?_⟩
    unfold A
    rw [if_neg (by unfold w; omega), if_neg (by unfold n; omega)]
    have h3 : ¬ (L.kind l ≠ .equal ∧ L.w + L.hc k = L.cnt + L.sc l) := by
      intro z
      have h4 := sc_lt hl z.1
      have := z.2
      unfold w at this
      omega
    rw [if_neg h3]
    by_cases z : l = k
    · subst z
      rw [if_pos rfl, if_pos ⟨e, rfl⟩]; grind
    · rw [if_neg z, if_neg (fun y => z (cntK_inj (no := .most) y.1 e (by
        have := y.2
        unfold hc at this
        omega)))]
      grind
/-- a row's sum -/
theorem row_sum {k : Nat} (hk : k < L.m) (v : Nat → Rat) : sm L.n (fun d => L.A k d * v d) = sm L.cnt (fun c => L.ent k c * v c) + (if L.kind k ≠ .equal then L.sg k * v (L.cnt + L.sc k) else 0) + (if L.kind k ≠ .most then v (L.w + L.hc k) else 0) := by
  have en : L.n = L.cnt + (L.sc L.m + L.hc L.m) := by unfold n w; omega
  have h1 : sm L.cnt (fun d => L.A k d * v d) = sm L.cnt (fun c => L.ent k c * v c) := sm_congr fun c hc => by
    unfold A
    rw [if_pos hc]
  have h2 : sm (L.sc L.m + L.hc L.m) (fun i => L.A k (L.cnt + i) * v (L.cnt + i)) = (if L.kind k ≠ .equal then L.sg k * v (L.cnt + L.sc k) else 0) + (if L.kind k ≠ .most then v (L.w + L.hc k) else 0) := by
    have h3 : sm (L.sc L.m + L.hc L.m) (fun i => L.A k (L.cnt + i) * v (L.cnt + i)) = sm (L.sc L.m + L.hc L.m) (fun i => v (L.cnt + i) * (if L.kind k ≠ .equal ∧ i = L.sc k then L.sg k else 0) + v (L.cnt + i) * (if L.kind k ≠ .most ∧ i = L.sc L.m + L.hc k then 1 else 0)) := sm_congr fun i hi => by
      unfold A
      rw [if_neg (by omega), if_neg (by omega)]
      have e1 : (L.kind k ≠ .equal ∧ L.cnt + i = L.cnt + L.sc k) ↔ (L.kind k ≠ .equal ∧ i = L.sc k) := by constructor <;> (intro ⟨a, b⟩; exact ⟨a, by omega⟩)
      have e2 : (L.kind k ≠ .most ∧ L.cnt + i = L.w + L.hc k) ↔ (L.kind k ≠ .most ∧ i = L.sc L.m + L.hc k) := by
        unfold w
        constructor <;> (intro ⟨a, b⟩; exact ⟨a, by omega⟩)
      simp only [e1, e2]
      grind
    rw [h3, sm_add]
    congr 1
    · by_cases e : L.kind k ≠ .equal
      · rw [if_pos e, sm_single (k := L.sc k) (by have := sc_lt hk e; omega)]
        · rw [if_pos ⟨e, rfl⟩]; grind
        · intro i _ ne
          rw [if_neg fun z => ne z.2]; grind
      · rw [if_neg e]
        exact sm_zero fun i _ => by rw [if_neg fun z => e z.1]; grind
    · by_cases e : L.kind k ≠ .most
      · rw [if_pos e, sm_single (k := L.sc L.m + L.hc k) (by have := hc_lt hk e; omega)]
        · rw [if_pos ⟨e, rfl⟩, show L.cnt + (L.sc L.m + L.hc k) = L.w + L.hc k by unfold w; omega]; grind
        · intro i _ ne
          rw [if_neg fun z => ne z.2]; grind
      · rw [if_neg e]
        exact sm_zero fun i _ => by rw [if_neg fun z => e z.1]; grind
  rw [en, sm_split, h1, h2]
  grind
theorem A_right {k : Nat} : L.A k L.n = L.right k := by
  unfold A
  rw [if_neg (by unfold n w; omega), if_pos rfl]
theorem c1_n : L.c1 L.n = 0 := by
  unfold c1
  rw [if_neg (by have := le_wn (L := L); omega), if_neg (by omega)]
theorem c2_n {cost : Nat → Rat} : L.c2 cost L.n = 0 := by
  unfold c2
  rw [if_neg (by unfold n w; omega)]
theorem c2_sum (cost v : Nat → Rat) : sm L.n (fun d => L.c2 cost d * v d) = sm L.cnt (fun c => cost c * v c) := by
  have en : L.n = L.cnt + (L.sc L.m + L.hc L.m) := by unfold n w; omega
  rw [en, sm_split, sm_congr (n := L.cnt) (g := fun c => cost c * v c) (fun c hc => by unfold c2; rw [if_pos hc]), sm_zero (n := L.sc L.m + L.hc L.m) fun i _ => by
    unfold c2
    rw [if_neg (by omega)]; grind]
  grind
/-- values that fit, with the slacks -/
theorem Fits.ext {x : Nat → Rat} (F : L.Fits x) : ∃ v : Nat → Rat, (∀ d, 0 ≤ d → d < L.n → 0 ≤ v d) ∧ (∀ d, L.w ≤ d → v d = 0) ∧ (∀ k, k < L.m → sm L.n (fun d => L.A k d * v d) = L.A k L.n) := by
  obtain ⟨sv, hsv⟩ : ∃ sv : Nat → Rat, ∀ k, sv k = L.sg k * (L.right k - sm L.cnt (fun c => L.ent k c * x c)) := ⟨_, fun _ => rfl⟩
  have sv0 : ∀ k, k < L.m → L.kind k ≠ .equal → 0 ≤ sv k := fun k hk e => by
    rw [hsv]
    unfold sg
    by_cases z : L.kind k = .most
    · have := F.most k hk z
      rw [if_pos z]; grind
    · have z2 : L.kind k = .least := by
        cases h : L.kind k with
        | least => rfl
        | equal => exact absurd h e
        | most => exact absurd h z
      have := F.least k hk z2
      rw [if_neg z]; grind
  refine ⟨fun d => if d < L.cnt then x d else sm L.m (fun k => if L.kind k ≠ .equal ∧ d = L.cnt + L.sc k then sv k else 0), fun d _ _ => ?_, fun d hd => ?_, fun k hk => ?_⟩
  · show 0 ≤ (if d < L.cnt then x d else _)
    by_cases e : d < L.cnt
    · rw [if_pos e]; exact F.nn d e
    · rw [if_neg e]
      exact sm_nn fun k hk => by
        by_cases z : L.kind k ≠ .equal ∧ d = L.cnt + L.sc k
        · rw [if_pos z]; exact sv0 k hk z.1
        · rw [if_neg z]; grind
  · show (if d < L.cnt then x d else _) = 0
    rw [if_neg (by unfold w at hd; omega)]
    exact sm_zero fun k hk => by
      rw [if_neg fun z => by
        have := sc_lt hk z.1
        have := z.2
        unfold w at hd
        omega]
  · rw [row_sum hk, A_right]
    have e1 : sm L.cnt (fun c => L.ent k c * (if c < L.cnt then x c else sm L.m (fun k => if L.kind k ≠ .equal ∧ c = L.cnt + L.sc k then sv k else 0))) = sm L.cnt (fun c => L.ent k c * x c) := sm_congr fun c hc => by rw [if_pos hc]
    rw [e1, if_neg (show ¬ L.w + L.hc k < L.cnt by unfold w; omega), if_neg (show ¬ L.cnt + L.sc k < L.cnt by omega)]
    have e2 : (if L.kind k ≠ .most then sm L.m (fun l => if L.kind l ≠ .equal ∧ L.w + L.hc k = L.cnt + L.sc l then sv l else 0) else 0) = 0 := by
      by_cases z : L.kind k ≠ .most
      · rw [if_pos z]
        exact sm_zero fun l hl => by
          rw [if_neg fun z => by
            have := sc_lt hl z.1
            have := z.2
            unfold w at this
            omega]
      · rw [if_neg z]
    rw [e2]
    by_cases z : L.kind k ≠ .equal
    · rw [if_pos z, sm_single hk]
      · rw [if_pos ⟨z, rfl⟩, hsv]
        unfold sg
        by_cases y : L.kind k = .most
        · rw [if_pos y]; grind
        · rw [if_neg y]; grind
      · intro l hl ne
        rw [if_neg fun y => ne (cntK_inj (no := .equal) y.1 z (by
          have := y.2
          unfold sc at this
          omega))]
    · rw [if_neg z]
      have z2 : L.kind k = .equal := Classical.byContradiction z
      rw [F.equal k hk z2]; grind
end Lp
end BB
namespace BB
namespace Lp
variable {L : Lp} {cost : Nat → Rat} {T : Nat → Nat → Rat} {B : Nat → Nat}
/-- costs cannot fall without end -/
def Bounded (L : Lp) (cost : Nat → Rat) : Prop := ∀ v : Nat → Rat, (∀ d, d < L.n → 0 ≤ v d) → (∀ k, k < L.m → sm L.n (fun d => L.A k d * v d) = 0) → (∀ d, L.w ≤ d → d < L.n → v d = 0) → 0 ≤ sm L.n (fun d => L.c2 cost d * v d)
/-- helpers stand at 0 -/
def H0 (L : Lp) (T : Nat → Nat → Rat) (B : Nat → Nat) : Prop := ∀ k, k < L.m → L.w ≤ B k → T k L.n = 0
/-- .. and their rows are empty -/
def HZ (L : Lp) (T : Nat → Nat → Rat) (B : Nat → Nat) : Prop := ∀ k, k < L.m → L.w ≤ B k → T k L.n = 0 ∧ ∀ c, c < L.w → T k c = 0
theorem p1_start (hr : ∀ k, k < L.m → 0 ≤ L.right k) : Good L.m L.n L.w L.A L.c1 (recost L.m L.c1 L.A L.u, L.u) := by
  refine ⟨Tab.start (fun k hk => unitA hk) L.c1, fun k hk => ?_⟩
  show 0 ≤ recost L.m L.c1 L.A L.u k L.n
  unfold recost
  rw [if_neg (by omega), A_right]
  exact hr k hk
theorem c1_nn (d : Nat) : 0 ≤ L.c1 d := by
  unfold c1
  by_cases h1 : d < L.w
  · rw [if_pos h1]; grind
  · rw [if_neg h1]
    by_cases h2 : d < L.n
    · rw [if_pos h2]; grind
    · rw [if_neg h2]; grind
theorem p1_leaves (G : Good L.m L.n L.w L.A L.c1 (T, B)) {c : Nat} (E : Enter L.m L.w T c) : ∃ k, k < L.m ∧ 0 < T k c := by
  refine Classical.byContradiction fun no => ?_
  obtain ⟨v, v1, v2, v3, _⟩ := G.tab.ray le_wn E fun k hk h => no ⟨k, hk, h⟩
  have : 0 ≤ sm L.n (fun d => L.c1 d * v d) := sm_nn fun d hd => Rat.mul_nonneg (c1_nn d) (v1 d hd)
  grind
theorem p1_end (G : Good L.m L.n L.w L.A L.c1 (T, B)) (z : ∀ d, d < L.w → 0 ≤ T L.m d) {x : Nat → Rat} (F : L.Fits x) : 0 ≤ T L.m L.n ∧ H0 L T B := by
  obtain ⟨v, v1, v2, v3⟩ := F.ext
  have e := G.tab.weak c1_n v3
  have e0 : sm L.n (fun d => L.c1 d * v d) = 0 := sm_zero fun d hd => by
    unfold c1
    by_cases h1 : d < L.w
    · rw [if_pos h1]; grind
    · rw [v2 d (by omega)]; grind
  have e1 : 0 ≤ sm L.n (fun d => T L.m d * v d) := sm_nn fun d hd => by
    by_cases h1 : d < L.w
    · exact Rat.mul_nonneg (z d h1) (v1 d (by omega) hd)
    · rw [v2 d (by omega)]; grind
  have h1 : 0 ≤ T L.m L.n := by
    show 0 ≤ (T, B).1 L.m L.n
    grind
  refine ⟨h1, fun k hk hb => ?_⟩
  have h2 := G.tab.zform (c := L.n) (Nat.le_refl _)
  rw [c1_n] at h2
  have h3 : (fun l => L.c1 (B l) * T l L.n) k ≤ sm L.m (fun l => L.c1 (B l) * T l L.n) := sm_ge1 hk fun i hi => Rat.mul_nonneg (c1_nn _) (G.pos i hi)
  have h4 : L.c1 (B k) = 1 := by
    unfold c1
    rw [if_neg (by omega), if_pos (G.tab.bd k hk)]
  have h5 : L.c1 (B k) * T k L.n ≤ sm L.m (fun l => L.c1 (B l) * T l L.n) := h3
  rw [h4] at h5
  have h6 : 0 ≤ T k L.n := G.pos k hk
  have h7 : (T, B).1 L.m L.n = T L.m L.n := rfl
  rw [h7] at h2
  grind
/-- a helper taken out -/
theorem wh_step (I : Tab L.m L.n L.A cost T B) (p : ∀ k, k < L.m → 0 ≤ T k L.n) (h : H0 L T B) {k c : Nat} (hk : k < L.m) (hb : L.w ≤ B k) (hc : c < L.w) (ne : T k c ≠ 0) :
    Tab L.m L.n L.A cost (piv T k c) (pivB B k c) ∧ (∀ i, i < L.m → 0 ≤ piv T k c i L.n) ∧ H0 L (piv T k c) (pivB B k c) := by
  have e0 := h k hk hb
  have eq : ∀ i, i < L.m → piv T k c i L.n = T i L.n := fun i hi => by
    unfold piv
    by_cases e : i = k
    · rw [if_pos e, e, e0]; grind
    · rw [if_neg e, e0]; grind
  refine ⟨I.pivot hk (Nat.lt_of_lt_of_le hc le_wn) ne, fun i hi => by rw [eq i hi]; exact p i hi, fun i hi hbi => ?_⟩
  rw [eq i hi]
  unfold pivB at hbi
  by_cases e : i = k
  · rw [e]; exact e0
  · rw [if_neg e] at hbi
    exact h i hi hbi
theorem p2_start (I : Tab L.m L.n L.A cost T B) (p : ∀ k, k < L.m → 0 ≤ T k L.n) (h : HZ L T B) (cost2 : Nat → Rat) : Good L.m L.n L.w L.A cost2 (recost L.m cost2 T B, B) ∧ HZ L (recost L.m cost2 T B) B := by
  have e : ∀ k, k < L.m → ∀ c, recost L.m cost2 T B k c = T k c := fun k hk c => by
    unfold recost
    rw [if_neg (by omega)]
  refine ⟨⟨I.recost cost2, fun k hk => ?_⟩, fun k hk hb => ⟨?_, fun c hc => ?_⟩⟩
  · show 0 ≤ recost L.m cost2 T B k L.n
    rw [e k hk]; exact p k hk
  · rw [e k hk]; exact (h k hk hb).1
  · rw [e k hk]; exact (h k hk hb).2 c hc
theorem p2_step (h : HZ L T B) {T' : Nat → Nat → Rat} {B' : Nat → Nat} (st : Stp L.m L.n L.w (T, B) (T', B')) : HZ L T' B' := by
  obtain ⟨c, r, E, Lv, e⟩ := st
  obtain ⟨rfl, rfl⟩ := Prod.mk.inj e
  have hc : c < L.w := E.1
  intro k hk hb
  have hr : ¬ k = r := fun z => by
    have : pivB B r c k = c := by unfold pivB; rw [if_pos z]
    rw [this] at hb
    omega
  have hbk : L.w ≤ B k := by
    have : pivB B r c k = B k := by unfold pivB; rw [if_neg hr]
    rw [← this]; exact hb
  obtain ⟨a, b⟩ := h k hk hbk
  have zc := b c hc
  refine ⟨?_, fun d hd => ?_⟩
  · show piv T r c k L.n = 0
    unfold piv
    rw [if_neg hr, zc, a]; grind
  · show piv T r c k d = 0
    unfold piv
    rw [if_neg hr, zc, b d hd]; grind
theorem p2_leaves (G : Good L.m L.n L.w L.A (L.c2 cost) (T, B)) (h : HZ L T B) (bd : Bounded L cost) {c : Nat} (E : Enter L.m L.w T c) : ∃ k, k < L.m ∧ 0 < T k c := by
  refine Classical.byContradiction fun no => ?_
  obtain ⟨v, v1, v2, v3, v4⟩ := G.tab.ray le_wn E fun k hk h => no ⟨k, hk, h⟩
  have := bd v v1 v2 fun d hd hn => v4 d hn (by have := E.1; omega) fun k hk e => (h k hk (by
    have e' : B k = d := e
    omega)).2 c E.1
  grind
/-- what is shown of an end -/
structure Sol (L : Lp) (cost : Nat → Rat) (x y : Nat → Rat) (value : Rat) : Prop where
  fits : L.Fits x
  val : value = sm L.cnt (fun c => cost c * x c)
  pos : ∀ k, k < L.m → L.kind k = .least → 0 ≤ y k
  neg : ∀ k, k < L.m → L.kind k = .most → y k ≤ 0
  dual : ∀ c, c < L.cnt → sm L.m (fun k => y k * L.ent k c) ≤ cost c
  gap : sm L.m (fun k => y k * L.right k) = value
def yof (L : Lp) (cost : Nat → Rat) (T : Nat → Nat → Rat) : Nat → Rat := fun k => L.c2 cost (L.u k) - T L.m (L.u k)
theorem c2_u {k : Nat} : L.c2 cost (L.u k) = 0 := by
  unfold c2 u
  by_cases e : L.kind k = .most
  · rw [if_pos e, if_neg (by omega)]
  · rw [if_neg e, if_neg (by unfold w; omega)]
theorem p2_end (G : Good L.m L.n L.w L.A (L.c2 cost) (T, B)) (h : HZ L T B) (z : ∀ d, d < L.w → 0 ≤ T L.m d) : L.Sol cost (vals L.m L.n T B) (L.yof cost T) (sm L.cnt (fun c => cost c * vals L.m L.n T B c)) := by
  have I := G.tab
  have fit : ∀ k, k < L.m → sm L.n (fun d => L.A k d * vals L.m L.n T B d) = L.right k := fun k hk => by
    have := I.fits hk
    rw [A_right] at this
    exact this
  have nn : ∀ d, 0 ≤ vals L.m L.n T B d := vals_nn G.pos
  have out : ∀ d, L.w ≤ d → vals L.m L.n T B d = 0 := fun d hd => vals_out fun k hk e => (h k hk (by omega)).1
  have dl : ∀ c, c ≤ L.n → T L.m c = L.c2 cost c - sm L.m (fun l => L.yof cost T l * L.A l c) := fun c hc => I.dual (fun k hk => unitA hk) hc
  have sl : ∀ k, k < L.m → L.kind k ≠ .equal → L.yof cost T k * L.sg k ≤ 0 := fun k hk ne => by
    have h1 := sc_lt hk ne
    have h2 := z (L.cnt + L.sc k) (by unfold w; omega)
    have h3 := dl (L.cnt + L.sc k) (by unfold n w; omega)
    have h4 : L.c2 cost (L.cnt + L.sc k) = 0 := by unfold c2; rw [if_neg (by omega)]
    have h5 : sm L.m (fun l => L.yof cost T l * L.A l (L.cnt + L.sc k)) = L.yof cost T k * L.A k (L.cnt + L.sc k) := sm_single hk fun l hl nl => by
      have : L.A l (L.cnt + L.sc k) = 0 := by
        unfold A
        rw [if_neg (by omega), if_neg (by unfold n w; omega), if_neg (fun y => nl (cntK_inj (no := .equal) y.1 ne (by
          have := y.2
          unfold sc at this
          omega))), if_neg (fun y => by
          have := y.2
          unfold w at this
          omega)]
        grind
      rw [this]; grind
    have h6 : L.A k (L.cnt + L.sc k) = L.sg k := by
      unfold A
      rw [if_neg (by omega), if_neg (by unfold n w; omega), if_pos ⟨ne, rfl⟩, if_neg (fun y => by
          have := y.2
          unfold w at this
          omega)]
      grind
    rw [h6] at h5
    grind
  have rs : ∀ k, k < L.m → sm L.cnt (fun c => L.ent k c * vals L.m L.n T B c) + (if L.kind k ≠ .equal then L.sg k * vals L.m L.n T B (L.cnt + L.sc k) else 0) = L.right k := fun k hk => by
    have h1 := row_sum hk (vals L.m L.n T B)
    rw [fit k hk, out (L.w + L.hc k) (by omega)] at h1
    have h2 : (if L.kind k ≠ .most then (0 : Rat) else 0) = 0 := by by_cases e : L.kind k ≠ .most <;> simp [e]
    rw [h2] at h1
    grind
  refine ⟨⟨fun c hc => nn c, fun k hk e => ?_, fun k hk e => ?_, fun k hk e => ?_⟩, rfl, fun k hk e => ?_, fun k hk e => ?_, fun c hc => ?_, ?_⟩
  · have h1 := rs k hk
    have h2 := nn (L.cnt + L.sc k)
    rw [if_pos (by rw [e]; decide)] at h1
    unfold sg at h1
    rw [if_neg (by rw [e]; decide)] at h1
    grind
  · have h1 := rs k hk
    rw [if_neg (by rw [e]; decide)] at h1
    grind
  · have h1 := rs k hk
    have h2 := nn (L.cnt + L.sc k)
    rw [if_pos (by rw [e]; decide)] at h1
    unfold sg at h1
    rw [if_pos e] at h1
    grind
  · have h1 := sl k hk (by rw [e]; decide)
    unfold sg at h1
    rw [if_neg (by rw [e]; decide)] at h1
    grind
  · have h1 := sl k hk (by rw [e]; decide)
    unfold sg at h1
    rw [if_pos e] at h1
    grind
  · have h1 := z c (by unfold w; omega)
    have h2 := dl c (by unfold n w; omega)
    have h3 : L.c2 cost c = cost c := by unfold c2; rw [if_pos hc]
    have h4 : sm L.m (fun k => L.yof cost T k * L.ent k c) = sm L.m (fun l => L.yof cost T l * L.A l c) := sm_congr fun l _ => by
      unfold A
      rw [if_pos hc]
    rw [h4]
    grind
  · have h1 := dl L.n (Nat.le_refl _)
    rw [c2_n] at h1
    have h2 := I.value c2_n
    rw [c2_sum] at h2
    have h3 : sm L.m (fun k => L.yof cost T k * L.right k) = sm L.m (fun l => L.yof cost T l * L.A l L.n) := sm_congr fun l _ => by rw [A_right]
    have h4 : (T, B).1 L.m L.n = T L.m L.n := rfl
    have h5 : vals L.m L.n (T, B).1 (T, B).2 = vals L.m L.n T B := rfl
    rw [h4, h5] at h2
    rw [h3]
    grind
end Lp
end BB
namespace BB
abbrev Sml (x : Rat) : Prop := Bd 2000 2000 x
namespace Lp
/-- factors that make a program whole -/
structure Scld (L : Lp) (D : Nat → Int) (E : Int) : Prop where
  m6 : L.m ≤ 6
  nz : ∀ i, i < L.m → D i ≠ 0 ∧ (D i).natAbs ≤ 2 ^ 120
  ent : ∀ i, i < L.m → ∀ c, c < L.cnt → ∃ z : Int, D i * L.ent i c = (z : Rat) ∧ z.natAbs ≤ 2 ^ 120
  e0 : E ≠ 0
  eb : E.natAbs < 2 ^ 900
  right : ∀ i, i < L.m → ∃ z : Int, E * (D i * L.right i) = (z : Rat) ∧ z.natAbs ≤ 2 ^ 1050
/-- costs that a factor makes whole -/
structure CScl (L : Lp) (cost : Nat → Rat) (dc : Int) : Prop where
  nz : dc ≠ 0
  lt : dc.natAbs < 2 ^ 120
  int : ∀ d, ∃ z : Int, dc * cost d = (z : Rat) ∧ z.natAbs ≤ 2 ^ 120
  bd : ∀ d, Bd 41 41 (cost d)
variable {L : Lp} {cost : Nat → Rat} {T : Nat → Nat → Rat} {B : Nat → Nat} {D : Nat → Int} {E dc : Int}
theorem Scld.scl (S : Scld L D E) : Scl 120 L.m L.n L.A L.u D := by
  refine ⟨S.m6, fun i hi => (S.nz i hi).1, fun i hi c hc => ?_, fun k hk => unitA hk⟩
  have one := S.nz i hi
  unfold A
  by_cases e : c < L.cnt
  · rw [if_pos e]
    exact S.ent i hi c e
  · rw [if_neg e, if_neg (by omega)]
    unfold sg
    by_cases h1 : L.kind i ≠ .equal ∧ c = L.cnt + L.sc i
    · have h2 : ¬ (L.kind i ≠ .most ∧ c = L.w + L.hc i) := fun y => by
        have := sc_lt hi h1.1
        have := h1.2
        have := y.2
        unfold w at this
        omega
      rw [if_pos h1, if_neg h2]
      by_cases h3 : L.kind i = .most
      · rw [if_pos h3]
        exact ⟨D i, by grind, one.2⟩
      · rw [if_neg h3]
        exact ⟨- D i, by rw [Rat.intCast_neg]; grind, by rw [Int.natAbs_neg]; exact one.2⟩
    · rw [if_neg h1]
      by_cases h2 : L.kind i ≠ .most ∧ c = L.w + L.hc i
      · rw [if_pos h2]
        exact ⟨D i, by grind, one.2⟩
      · rw [if_neg h2]
        exact ⟨0, by
          have : ((0 : Int) : Rat) = 0 := rfl
          rw [this]; grind, by simp⟩
theorem Scld.rhs (S : Scld L D E) : ∀ i, i < L.m → ∃ z : Int, E * (D i * L.A i L.n) = (z : Rat) ∧ z.natAbs ≤ 2 ^ 1050 := fun i hi => by
  rw [A_right]
  exact S.right i hi
theorem combo_sml (I : Tab L.m L.n L.A cost T B) (S : Scld L D E) {γ : Nat → Rat} (hd : dc ≠ 0) (hdb : dc.natAbs < 2 ^ 120) (hγ : ∀ l, l < L.m → ∃ z : Int, dc * γ l = (z : Rat) ∧ z.natAbs ≤ 2 ^ 120) {c : Nat} (hc : c ≤ L.n) : Bd 1797 1765 (sm L.m (fun l => γ l * T l c)) := by
  by_cases e : c = L.n
  · subst e
    exact (combo_rhs I S.scl hd hdb hγ S.e0 S.eb S.rhs).mono (by omega) (by omega)
  · exact (combo_col I S.scl hd hdb hγ (show c < L.n by omega)).mono (by omega) (by omega)
theorem ent_sml (I : Tab L.m L.n L.A cost T B) (S : Scld L D E) {k c : Nat} (hk : k < L.m) (hc : c ≤ L.n) : Bd 1797 1765 (T k c) := by
  have h := combo_sml I S (dc := 1) (by decide) (by decide +kernel) (γ := fun l => if l = k then 1 else 0) (fun l _ => unit_int 120 k l) hc
  rw [sm_unit hk (fun l => T l c)] at h
  exact h
/-- the reduced costs, in part -/
def part (cost : Nat → Rat) (T : Nat → Nat → Rat) (B : Nat → Nat) (j c : Nat) : Rat := cost c - sm j (fun l => cost (B l) * T l c)
theorem part_succ (j c : Nat) : part cost T B (j + 1) c = part cost T B j c - cost (B j) * T j c := by
  unfold part
  rw [sm_succ]; grind
theorem part_zero (c : Nat) : part cost T B 0 c = cost c := by
  unfold part sm
  grind
theorem part_sml {cost0 : Nat → Rat} (I : Tab L.m L.n L.A cost0 T B) (S : Scld L D E) (C : CScl L cost dc) {j c : Nat} (hj : j ≤ L.m) (hc : c ≤ L.n) : Sml (part cost T B j c) := by
  have h := combo_sml I S C.nz C.lt (γ := fun l => if l < j then cost (B l) else 0) (fun l _ => by
    by_cases e : l < j
    · simp only [if_pos e]; exact C.int _
    · simp only [if_neg e]
      exact ⟨0, by
        have : ((0 : Int) : Rat) = 0 := rfl
        rw [this]; grind, by simp⟩) hc
  have e : sm L.m (fun l => (if l < j then cost (B l) else 0) * T l c) = sm j (fun l => cost (B l) * T l c) := by
    rw [sm_ext hj fun i h1 _ => by rw [if_neg (by omega)]; grind]
    exact sm_congr fun i hi => by rw [if_pos hi]
  rw [e] at h
  exact ((C.bd c).sub h (e := 1838) (by omega) (by omega)).mono (by omega) (by omega)
theorem z_sml (I : Tab L.m L.n L.A cost T B) (S : Scld L D E) (C : CScl L cost dc) {c : Nat} (hc : c ≤ L.n) : Sml (T L.m c) := by
  rw [I.zform hc]
  exact part_sml I S C (j := L.m) (Nat.le_refl _) hc
/-- the sum of what the first columns cost -/
theorem dot_sml {cost0 : Nat → Rat} (I : Tab L.m L.n L.A cost0 T B) (S : Scld L D E) (C : CScl L cost dc) {j : Nat} (hj : j ≤ L.n) : Bd 1797 1765 (sm j (fun c => cost c * vals L.m L.n T B c)) := by
  have h := combo_sml I S C.nz C.lt (γ := fun l => if B l < j then cost (B l) else 0) (fun l _ => by
    by_cases e : B l < j
    · simp only [if_pos e]; exact C.int _
    · simp only [if_neg e]
      exact ⟨0, by
        have : ((0 : Int) : Rat) = 0 := rfl
        rw [this]; grind, by simp⟩) (c := L.n) (Nat.le_refl _)
  have e : sm L.m (fun l => (if B l < j then cost (B l) else 0) * T l L.n) = sm j (fun c => cost c * vals L.m L.n T B c) := by
    have h1 := sm_basis I.bd (fun c => if c < j then cost c else 0) (fun l => T l L.n)
    rw [← h1]
    unfold vals
    rw [sm_ext hj fun i h1 _ => by rw [if_neg (by omega)]; grind]
    exact sm_congr fun i hi => by rw [if_pos hi]
  rw [e] at h
  exact h
theorem vals_sml {cost0 : Nat → Rat} (I : Tab L.m L.n L.A cost0 T B) (S : Scld L D E) (d : Nat) : Bd 1797 1765 (vals L.m L.n T B d) := by
  by_cases e : ∃ k, k < L.m ∧ B k = d
  · obtain ⟨k, hk, rfl⟩ := e
    rw [I.vals_at hk]
    exact ent_sml I S hk (Nat.le_refl _)
  · rw [vals_out fun k hk z => absurd ⟨k, hk, z⟩ e]
    exact Bd.zero.mono (by omega) (by omega)
theorem yof_sml (I : Tab L.m L.n L.A (L.c2 cost) T B) (S : Scld L D E) (C : CScl L (L.c2 cost) dc) {k : Nat} (hk : k < L.m) : Sml (L.yof cost T k) := by
  unfold yof
  rw [c2_u]
  have h := z_sml I S C (c := L.u k) (by have := (unitA hk).1; omega)
  have e : (0 : Rat) - T L.m (L.u k) = - T L.m (L.u k) := by grind
  rw [e]
  exact h.neg
theorem c1_scl : CScl L L.c1 1 := by
  refine ⟨by decide, by decide +kernel, fun d => ?_, fun d => ?_⟩
  · unfold c1
    by_cases h1 : d < L.w
    · rw [if_pos h1]; exact ⟨0, Rat.mul_zero _, by simp⟩
    · rw [if_neg h1]
      by_cases h2 : d < L.n
      · rw [if_pos h2]; exact ⟨1, Rat.mul_one _, by decide +kernel⟩
      · rw [if_neg h2]; exact ⟨0, Rat.mul_zero _, by simp⟩
  · unfold c1
    by_cases h1 : d < L.w
    · rw [if_pos h1]; exact Bd.zero.mono (by omega) (by omega)
    · rw [if_neg h1]
      by_cases h2 : d < L.n
      · rw [if_pos h2]; exact Bd.one.mono (by omega) (by omega)
      · rw [if_neg h2]; exact Bd.zero.mono (by omega) (by omega)
theorem c2_scl (hd : dc ≠ 0) (hl : dc.natAbs < 2 ^ 120) (h : ∀ c, c < L.cnt → (∃ z : Int, dc * cost c = (z : Rat) ∧ z.natAbs ≤ 2 ^ 120) ∧ Bd 41 41 (cost c)) : CScl L (L.c2 cost) dc := by
  refine ⟨hd, hl, fun d => ?_, fun d => ?_⟩
  · unfold c2
    by_cases e : d < L.cnt
    · rw [if_pos e]; exact (h d e).1
    · rw [if_neg e]
      exact ⟨0, by
        have : ((0 : Int) : Rat) = 0 := rfl
        rw [this]; grind, by simp⟩
  · unfold c2
    by_cases e : d < L.cnt
    · rw [if_pos e]; exact (h d e).2
    · rw [if_neg e]; exact Bd.zero.mono (by omega) (by omega)
end Lp
/-! ### factors for rows -/
theorem int_mul_abs {D z : Int} {x : Rat} {a b : Nat} (e : D * x = (z : Rat)) (hD : D.natAbs ≤ 2 ^ a) (hx : x.num.natAbs ≤ 2 ^ b) : z.natAbs ≤ 2 ^ (a + b) := by
  have h1 : D * x.num = z * (x.den : Int) := by
    have h2 : ((D * x.num : Int) : Rat) = ((z * (x.den : Int) : Int) : Rat) := by
      rw [Rat.intCast_mul, Rat.intCast_mul, ← e, ← num_over_den x]; grind
    exact Rat.intCast_inj.mp h2
  have h2 : D.natAbs * x.num.natAbs = z.natAbs * x.den := by
    have := congrArg Int.natAbs h1
    rw [Int.natAbs_mul, Int.natAbs_mul, Int.natAbs_natCast] at this
    exact this
  have h3 : z.natAbs ≤ z.natAbs * x.den := Nat.le_mul_of_pos_right _ x.den_pos
  rw [Nat.pow_add]
  have h4 : D.natAbs * x.num.natAbs ≤ 2 ^ a * 2 ^ b := Nat.mul_le_mul hD hx
  omega
theorem clear {x : Nat → Rat} {a b : Nat} : ∀ g, (∀ k, k < g → Bd a b (x k)) → ∃ D : Int, D ≠ 0 ∧ D.natAbs ≤ 2 ^ (b * g) ∧ ∀ k, k < g → ∃ z : Int, D * x k = (z : Rat) ∧ z.natAbs ≤ 2 ^ (b * g + a)
  | 0, _ => ⟨1, by decide, by simp, fun k hk => by omega⟩
  | g + 1, h => by
    obtain ⟨D, h0, h1, h2⟩ := clear g fun k hk => h k (by omega)
    have hg := h g (by omega)
    have hD : (D * ((x g).den : Int)).natAbs ≤ 2 ^ (b * (g + 1)) := by
      rw [Int.natAbs_mul, Int.natAbs_natCast, Nat.mul_succ, Nat.pow_add]
      exact Nat.mul_le_mul h1 (Nat.le_of_lt hg.den)
    have key : ∀ k, k < g + 1 → ∃ z : Int, (D * ((x g).den : Int) : Int) * x k = (z : Rat) := fun k hk => by
      by_cases e : k = g
      · subst e
        exact ⟨D * (x k).num, by rw [Rat.intCast_mul, Rat.intCast_mul, ← num_over_den (x k)]; grind⟩
      · obtain ⟨z, e1, _⟩ := h2 k (by omega)
        exact ⟨z * ((x g).den : Int), by rw [Rat.intCast_mul, Rat.intCast_mul, ← e1]; grind⟩
    refine ⟨D * ((x g).den : Int), Int.mul_ne_zero h0 (den_ne _), hD, fun k hk => ?_⟩
    obtain ⟨z, e⟩ := key k hk
    exact ⟨z, e, int_mul_abs e hD (Nat.le_of_lt (h k hk).num)⟩
end BB
namespace BB
/-! ### what leads to what -/
inductive Rch (n : Nat) (st : Nat → Nat → Option Bool) (i : Nat) : Nat → Bool → Prop
  | base : Rch n st i i false
  | step {j k : Nat} {s o : Bool} : Rch n st i j s → k < n → st j k = some o → Rch n st i k (s || o)
section
variable {n : Nat} {st : Nat → Nat → Option Bool} {i j k : Nat} {s t : Bool}
theorem Rch.trans (h : Rch n st i j s) (g : Rch n st j k t) : Rch n st i k (s || t) := by
  induction g with
  | base => rw [Bool.or_false]; exact h
  | step _ hk e ih => rw [← Bool.or_assoc]; exact ih.step hk e
theorem Rch.lt (hi : i < n) (h : Rch n st i j s) : j < n := by
  cases h with
  | base => exact hi
  | step _ hk _ => exact hk
open Classical in
noncomputable def led (n : Nat) (st : Nat → Nat → Option Bool) (i j : Nat) : Option Bool := if Rch n st i j true then some true else if Rch n st i j false then some false else none
theorem led_true : led n st i j = some true ↔ Rch n st i j true := by
  unfold led
  by_cases h : Rch n st i j true
  · rw [if_pos h]; exact ⟨fun _ => h, fun _ => rfl⟩
  · rw [if_neg h]
    constructor
    · intro z
      split at z <;> cases z
    · intro z; exact absurd z h
theorem led_none : led n st i j = none ↔ ∀ s, ¬ Rch n st i j s := by
  unfold led
  by_cases h : Rch n st i j true
  · rw [if_pos h]
    exact ⟨fun z => (nomatch z), fun z => absurd h (z true)⟩
  · rw [if_neg h]
    by_cases g : Rch n st i j false
    · rw [if_pos g]
      exact ⟨fun z => (nomatch z), fun z => absurd g (z false)⟩
    · rw [if_neg g]
      exact ⟨fun _ s => by cases s <;> assumption, fun _ => rfl⟩
theorem led_some (h : led n st i j ≠ none) : ∃ s, Rch n st i j s := Classical.byContradiction fun z => h (led_none.mpr fun s q => z ⟨s, q⟩)
theorem led_of (h : Rch n st i j s) : led n st i j ≠ none := fun z => led_none.mp z s h
theorem led_self : led n st i i ≠ none := led_of .base
theorem led_trans (h : led n st i j ≠ none) (g : led n st j k ≠ none) : led n st i k ≠ none := by
  obtain ⟨s, a⟩ := led_some h
  obtain ⟨t, b⟩ := led_some g
  exact led_of (a.trans b)
theorem led_step (hj : j < n) (h : st i j ≠ none) : led n st i j ≠ none := by
  cases e : st i j with
  | none => exact absurd e h
  | some o => exact led_of (Rch.base.step hj e)
/-- what holds the start and is closed holds all that is reached -/
theorem Rch.sub {S : Nat → Bool → Prop} (h0 : S i false) (hc : ∀ j s k o, S j s → k < n → st j k = some o → S k (s || o)) (h : Rch n st i k s) : S k s := by
  induction h with
  | base => exact h0
  | step _ hk e ih => exact hc _ _ _ _ ih hk e
/-- told by a row that is closed -/
theorem led_row {T : Nat → Option Bool} (h : ∀ k s, T k = some s → Rch n st i k s) (h0 : T i ≠ none) (hc : ∀ j a k o, T j = some a → k < n → st j k = some o → T k = some true ∨ T k = some (a || o)) : T k = led n st i k := by
  have all : ∀ k s, Rch n st i k s → T k ≠ none ∧ (s = true → T k = some true) := fun k s r => by
    induction r with
    | base => exact ⟨h0, fun z => by cases z⟩
    | step _ hk e ih =>
      rename_i j' k' s' o' _
      obtain ⟨a, b⟩ := ih
      cases ej : T j' with
      | none => exact absurd ej a
      | some u =>
        rcases hc j' u k' o' ej hk e with q | q
        · rw [q]; exact ⟨fun z => (nomatch z), fun _ => rfl⟩
        · rw [q]
          refine ⟨fun z => (by cases z), fun z => ?_⟩
          cases s' with
          | true =>
            have := b rfl
            rw [ej] at this
            cases this
            rfl
          | false =>
            have : o' = true := by simpa using z
            rw [this, Bool.or_true]
  cases e : T k with
  | none => exact (led_none.mpr fun s r => (all k s r).1 e).symm
  | some s =>
    cases s with
    | true => exact (led_true.mpr (h k true e)).symm
    | false =>
      have r := h k false e
      have nt : ¬ Rch n st i k true := fun z => by
        have := (all k true z).2 rfl
        rw [e] at this; cases this
      unfold led
      rw [if_neg nt, if_pos r]
end
/-! ### the steps of a book -/
/-- the last of the links that tell of a step -/
def lkf (lk : Nat → Nat × Nat × Bool) (i j : Nat) (z : Option Bool) : Nat → Option Bool
  | 0 => z
  | t + 1 => if (lk t).1 = i ∧ (lk t).2.1 = j then some (decide (lkf lk i j z t = some true) || (lk t).2.2) else lkf lk i j z t
/-! ### sweeps -/
def rlx (st : Nat → Nat → Option Bool) (j k : Nat) (T : Nat → Option Bool) : Nat → Option Bool := fun x => if x = k ∧ T j ≠ none ∧ st j k ≠ none ∧ T k ≠ some true then some (decide (T j = some true) || decide (st j k = some true)) else T x
def swk (st : Nat → Nat → Option Bool) (j : Nat) (T : Nat → Option Bool) : Nat → Nat → Option Bool
  | 0 => T
  | k + 1 => rlx st j k (swk st j T k)
def swj (st : Nat → Nat → Option Bool) (n : Nat) (T : Nat → Option Bool) : Nat → Nat → Option Bool
  | 0 => T
  | j + 1 => swk st j (swj st n T j) n
def swt (st : Nat → Nat → Option Bool) (n : Nat) (T : Nat → Option Bool) : Nat → Nat → Option Bool
  | 0 => T
  | t + 1 => swj st n (swt st n T t) n
def lvl : Option Bool → Nat
  | none => 0
  | some false => 1
  | some true => 2
def pot (T : Nat → Option Bool) : Nat → Nat
  | 0 => 0
  | m + 1 => pot T m + lvl (T m)
section
variable {n : Nat} {st : Nat → Nat → Option Bool} {i j k : Nat} {T : Nat → Option Bool}
theorem rlx_le (x : Nat) : lvl (T x) ≤ lvl (rlx st j k T x) := by
  unfold rlx
  by_cases h : x = k ∧ T j ≠ none ∧ st j k ≠ none ∧ T k ≠ some true
  · rw [if_pos h]
    obtain ⟨rfl, _, _, h⟩ := h
    cases e : T x with
    | none => exact Nat.zero_le _
    | some a =>
      cases a with
      | true => exact absurd e h
      | false => cases (decide (T j = some true) || decide (st j x = some true)) <;> decide
  · rw [if_neg h]; exact Nat.le_refl _
theorem swk_le (m x : Nat) : lvl (T x) ≤ lvl (swk st j T m x) := by
  induction m with
  | zero => exact Nat.le_refl _
  | succ m ih => exact Nat.le_trans ih (rlx_le x)
theorem swj_le (m x : Nat) : lvl (T x) ≤ lvl (swj st n T m x) := by
  induction m with
  | zero => exact Nat.le_refl _
  | succ m ih => exact Nat.le_trans ih (swk_le n x)
theorem swt_le (m x : Nat) : lvl (T x) ≤ lvl (swt st n T m x) := by
  induction m with
  | zero => exact Nat.le_refl _
  | succ m ih => exact Nat.le_trans ih (swj_le n x)
theorem lvl_inj {a b : Option Bool} (h : lvl a = lvl b) : a = b := by
  cases a with
  | none => cases b with
    | none => rfl
    | some b => cases b <;> simp [lvl] at h
  | some a => cases b with
    | none => cases a <;> simp [lvl] at h
    | some b => cases a <;> cases b <;> simp [lvl] at h <;> rfl
theorem pot_le {T' : Nat → Option Bool} (h : ∀ x, lvl (T x) ≤ lvl (T' x)) : ∀ m, pot T m ≤ pot T' m
  | 0 => Nat.le_refl _
  | m + 1 => Nat.add_le_add (pot_le h m) (h m)
theorem pot_lt {T' : Nat → Option Bool} (h : ∀ x, lvl (T x) ≤ lvl (T' x)) {x : Nat} (hx : T x ≠ T' x) : ∀ {m}, x < m → pot T m < pot T' m
  | 0, hm => absurd hm (Nat.not_lt_zero x)
  | m + 1, hm => by
    show pot T m + lvl (T m) < pot T' m + lvl (T' m)
    by_cases e : x = m
    · subst e
      have h1 := pot_le h x
      have h2 := h x
      have h3 : lvl (T x) ≠ lvl (T' x) := fun z => hx (lvl_inj z)
      omega
    · have h1 := pot_lt h hx (show x < m by omega)
      have h2 := h m
      omega
theorem pot_two (m : Nat) : pot T m ≤ 2 * m := by
  induction m with
  | zero => exact Nat.le_refl _
  | succ m ih =>
    have : lvl (T m) ≤ 2 := by
      cases T m with
      | none => exact Nat.zero_le _
      | some a => cases a <;> decide
    show pot T m + lvl (T m) ≤ _
    omega
/-- only places below n are changed -/
theorem rlx_out (hk : k < n) {x : Nat} (hx : n ≤ x) : rlx st j k T x = T x := by
  unfold rlx
  rw [if_neg fun z => by have := z.1; omega]
theorem swk_out {m : Nat} (hm : m ≤ n) {x : Nat} (hx : n ≤ x) : swk st j T m x = T x := by
  induction m with
  | zero => rfl
  | succ m ih =>
    show rlx st j m (swk st j T m) x = T x
    rw [rlx_out (n := n) (by omega) hx, ih (by omega)]
theorem swj_out {m : Nat} {x : Nat} (hx : n ≤ x) : swj st n T m x = T x := by
  induction m with
  | zero => rfl
  | succ m ih =>
    show swk st m (swj st n T m) n x = T x
    rw [swk_out (Nat.le_refl _) hx, ih]
/-- a sweep that changes nothing: nothing to do -/
theorem swj_fix (h : swj st n T n = T) : ∀ j k, j < n → k < n → rlx st j k T = T := fun j k hj hk => by
  have e1 : ∀ m, m ≤ n → swj st n T m = T := fun m hm => by
    funext x
    refine (lvl_inj (Nat.le_antisymm (swj_le m x) ?_)).symm
    have h2 : ∀ d, m + d ≤ n → lvl (swj st n T m x) ≤ lvl (swj st n T (m + d) x) := fun d => by
      induction d with
      | zero => intro _; exact Nat.le_refl _
      | succ d ih => intro hd; exact Nat.le_trans (ih (by omega)) (swk_le (T := swj st n T (m + d)) n x)
    have := h2 (n - m) (by omega)
    rw [show m + (n - m) = n by omega, h] at this
    exact this
  have e2 : swk st j T n = T := by
    have := e1 (j + 1) hj
    have e : swj st n T (j + 1) = swk st j (swj st n T j) n := rfl
    rw [e, e1 j (by omega)] at this
    exact this
  have e3 : ∀ m, m ≤ n → swk st j T m = T := fun m hm => by
    funext x
    refine (lvl_inj (Nat.le_antisymm (swk_le m x) ?_)).symm
    have h2 : ∀ d, m + d ≤ n → lvl (swk st j T m x) ≤ lvl (swk st j T (m + d) x) := fun d => by
      induction d with
      | zero => intro _; exact Nat.le_refl _
      | succ d ih => intro hd; exact Nat.le_trans (ih (by omega)) (rlx_le (T := swk st j T (m + d)) x)
    have := h2 (n - m) (by omega)
    rw [show m + (n - m) = n by omega, e2] at this
    exact this
  have := e3 (k + 1) hk
  have e : swk st j T (k + 1) = rlx st j k (swk st j T k) := rfl
  rw [e, e3 k (by omega)] at this
  exact this
/-- so many sweeps are enough -/
theorem swt_done (hi : i < n) (h0 : T i ≠ none) : swj st n (swt st n T (2 * n)) n = swt st n T (2 * n) := by
  have key : ∀ t, swj st n (swt st n T t) n = swt st n T t ∨ t + 2 ≤ pot (swt st n T (t + 1)) n := fun t => by
    induction t with
    | zero =>
      by_cases h : swj st n (swt st n T 0) n = swt st n T 0
      · exact .inl h
      · right
        obtain ⟨x, hx⟩ : ∃ x, swj st n T n x ≠ T x := Classical.byContradiction fun z => h (funext fun x => Classical.byContradiction fun y => z ⟨x, y⟩)
        have hxn : x < n := Classical.byContradiction fun z => hx (swj_out (by omega))
        have h1 := pot_lt (T := T) (T' := swj st n T n) (fun x => swj_le n x) (fun z => hx z.symm) hxn
        have h2 : 1 ≤ pot T n := by
          have h3 : ∀ m, i < m → 1 ≤ pot T m := fun m => by
            induction m with
            | zero => intro z; omega
            | succ m ih =>
              intro hm
              show 1 ≤ pot T m + lvl (T m)
              by_cases e : i = m
              · subst e
                have : 1 ≤ lvl (T i) := by
                  cases e : T i with
                  | none => exact absurd e h0
                  | some a => cases a <;> decide
                omega
              · have := ih (by omega)
                omega
          exact h3 n hi
        show 0 + 2 ≤ pot (swj st n T n) n
        omega
    | succ t ih =>
      by_cases h : swj st n (swt st n T (t + 1)) n = swt st n T (t + 1)
      · exact .inl h
      · right
        rcases ih with ih | ih
        · have e : swt st n T (t + 1) = swt st n T t := ih
          rw [e] at h
          exact absurd ih h
        · obtain ⟨x, hx⟩ : ∃ x, swj st n (swt st n T (t + 1)) n x ≠ swt st n T (t + 1) x := Classical.byContradiction fun z => h (funext fun x => Classical.byContradiction fun y => z ⟨x, y⟩)
          have hxn : x < n := Classical.byContradiction fun z => hx (swj_out (by omega))
          have h1 := pot_lt (T := swt st n T (t + 1)) (T' := swj st n (swt st n T (t + 1)) n) (fun x => swj_le n x) (fun z => hx z.symm) hxn
          show t + 1 + 2 ≤ pot (swj st n (swt st n T (t + 1)) n) n
          omega
  rcases key (2 * n) with h | h
  · exact h
  · have := pot_two (T := swt st n T (2 * n + 1)) n
    omega
/-- what the sweeps put in is reached -/
def Snd (n : Nat) (st : Nat → Nat → Option Bool) (i : Nat) (T : Nat → Option Bool) : Prop := ∀ k s, T k = some s → Rch n st i k s
theorem Snd.rlx (h : Snd n st i T) (hk : k < n) : Snd n st i (rlx st j k T) := fun x s e => by
  unfold BB.rlx at e
  by_cases c : x = k ∧ T j ≠ none ∧ st j k ≠ none ∧ T k ≠ some true
  · rw [if_pos c] at e
    obtain ⟨rfl, c1, c2, _⟩ := c
    cases e1 : T j with
    | none => exact absurd e1 c1
    | some a =>
      cases e2 : st j x with
      | none => exact absurd e2 c2
      | some o =>
        have := (h j a e1).step hk e2
        rw [e1, e2] at e
        have es : (a || o) = s := by
          have := Option.some.inj e
          cases a <;> cases o <;> simpa using this
        rw [← es]; exact this
  · rw [if_neg c] at e
    exact h x s e
theorem Snd.swk (h : Snd n st i T) {m : Nat} (hm : m ≤ n) : Snd n st i (swk st j T m) := by
  induction m with
  | zero => exact h
  | succ m ih => exact (ih (by omega)).rlx hm
theorem Snd.swj (h : Snd n st i T) {m : Nat} : Snd n st i (swj st n T m) := by
  induction m with
  | zero => exact h
  | succ m ih => exact ih.swk (Nat.le_refl _)
theorem Snd.swt (h : Snd n st i T) {m : Nat} : Snd n st i (swt st n T m) := by
  induction m with
  | zero => exact h
  | succ m ih => exact ih.swj
theorem swt_led (hi : i < n) (k : Nat) : swt st n (fun x => if x = i then some false else none) (2 * n) k = led n st i k := by
  have s0 : Snd n st i (fun x => if x = i then some false else none) := fun k s e => by
    by_cases c : k = i
    · subst c
      simp at e
      subst e
      exact .base
    · simp [c] at e
  have h0 : (fun x => if x = i then some false else none : Nat → Option Bool) i ≠ none := by simp
  have fx := swj_fix (swt_done (T := fun x => if x = i then some false else none) (st := st) hi h0)
  have hs : Snd n st i _ := s0.swt (m := 2 * n)
  refine led_row hs (fun z => ?_) fun j a k o ej hk e => ?_
  · have := swt_le (st := st) (n := n) (T := fun x => if x = i then some false else none) (2 * n) i
    rw [z] at this
    simp [lvl] at this
  · have hj : j < n := (hs j a ej).lt hi
    have := congrFun (fx j k hj hk) k
    unfold rlx at this
    by_cases c : swt st n (fun x => if x = i then some false else none) (2 * n) k = some true
    · exact .inl c
    · right
      rw [if_pos ⟨rfl, by rw [ej]; simp, by rw [e]; simp, c⟩, ej, e] at this
      rw [← this]
      cases a <;> cases o <;> rfl
end
end BB
namespace BB
def sel (p : Nat → Bool) : Nat → List Nat
  | 0 => []
  | k + 1 => sel p k ++ if p k = true then [k] else []
theorem sel_pre {p : Nat → Bool} {k : Nat} : ∀ {n}, k ≤ n → ∃ r, sel p n = sel p k ++ r
  | 0, h => ⟨[], by
    have : k = 0 := by omega
    rw [this, List.append_nil]⟩
  | n + 1, h => by
    by_cases e : k = n + 1
    · exact ⟨[], by rw [e, List.append_nil]⟩
    · obtain ⟨r, hr⟩ := sel_pre (p := p) (k := k) (n := n) (by omega)
      exact ⟨r ++ if p n = true then [n] else [], by
        show sel p n ++ _ = _
        rw [hr, List.append_assoc]⟩
theorem sel_le {p : Nat → Bool} : ∀ n, (sel p n).length ≤ n
  | 0 => Nat.le_refl _
  | n + 1 => by
    have := sel_le (p := p) n
    show (sel p n ++ _).length ≤ _
    rw [List.length_append]
    split
    · show _ + 1 ≤ _; omega
    · show _ + 0 ≤ _; omega
theorem sel_mem {p : Nat → Bool} {x : Nat} : ∀ {n}, x ∈ sel p n ↔ x < n ∧ p x = true
  | 0 => by simp [sel]
  | n + 1 => by
    show x ∈ sel p n ++ _ ↔ _
    rw [List.mem_append, sel_mem]
    by_cases h : p n = true
    · rw [if_pos h]
      constructor
      · rintro (⟨a, b⟩ | a)
        · exact ⟨by omega, b⟩
        · have : x = n := by simpa using a
          subst this
          exact ⟨by omega, h⟩
      · intro ⟨a, b⟩
        by_cases e : x = n
        · right; rw [e]; exact List.mem_cons_self ..
        · left; exact ⟨by omega, b⟩
    · rw [if_neg h]
      constructor
      · rintro (⟨a, b⟩ | a)
        · exact ⟨by omega, b⟩
        · cases a
      · intro ⟨a, b⟩
        have : x ≠ n := fun e => h (by rw [← e]; exact b)
        left; exact ⟨by omega, b⟩
theorem sel_on {p : Nat → Bool} {k : Nat} (h : p k = true) : (sel p (k + 1)).length = (sel p k).length + 1 := by
  show (sel p k ++ _).length = _
  rw [if_pos h, List.length_append]; rfl
theorem sel_off {p : Nat → Bool} {k : Nat} (h : p k = false) : (sel p (k + 1)).length = (sel p k).length := by
  show (sel p k ++ _).length = _
  rw [if_neg (by rw [h]; exact Bool.false_ne_true), List.append_nil]

theorem sel_sum {p : Nat → Bool} (y f : Nat → Rat) : ∀ c, sm c (fun j => (if p j = true then y (sel p j).length else 0) * f j) = sm (sel p c).length (fun k => y k * f ((sel p c).getD k 0))
  | 0 => rfl
  | c + 1 => by
    have ih := sel_sum (p := p) y f c
    rw [sm_succ, ih]
    by_cases h : p c = true
    · rw [if_pos h, sel_on h, sm_succ]
      have e : sel p (c + 1) = sel p c ++ [c] := by
        show sel p c ++ _ = _
        rw [if_pos h]
      congr 1
      · refine sm_congr fun k hk => ?_
        rw [e, List.getD_eq_getElem?_getD, List.getD_eq_getElem?_getD, List.getElem?_append_left hk]
      · rw [e, List.getD_eq_getElem?_getD, List.getElem?_append_right (Nat.le_refl _), Nat.sub_self]
        rfl
    · have hf : p c = false := by cases e : p c <;> simp_all
      rw [if_neg h, sel_off hf, Rat.zero_mul, Rat.add_zero]
      have e : sel p (c + 1) = sel p c := by
        show sel p c ++ _ = _
        rw [if_neg h, List.append_nil]
      rw [e]
theorem sel_at {p : Nat → Bool} {c k : Nat} (h : k < (sel p c).length) : (sel p c).getD k 0 < c ∧ p ((sel p c).getD k 0) = true := by
  rw [List.getD_eq_getElem?_getD, List.getElem?_eq_getElem h]
  exact sel_mem.mp (List.getElem_mem h)
theorem sel_rank {p : Nat → Bool} {c j : Nat} (hj : j < c) (h : p j = true) : (sel p j).length < (sel p c).length ∧ (sel p c).getD (sel p j).length 0 = j := by
  obtain ⟨r, hr⟩ := sel_pre (p := p) (k := j + 1) (n := c) hj
  have e : sel p (j + 1) = sel p j ++ [j] := by
    show sel p j ++ _ = _
    rw [if_pos h]
  rw [e] at hr
  refine ⟨by rw [hr]; simp, ?_⟩
  rw [hr, List.getD_eq_getElem?_getD, List.append_assoc, List.getElem?_append_right (Nat.le_refl _), Nat.sub_self]
  rfl
namespace Lp
variable {L : Lp} {cost : Nat → Rat} {T : Nat → Nat → Rat} {B : Nat → Nat} {D : Nat → Int} {E dc : Int}
/-- the duals have a denominator in common -/
theorem yof_w (I : Tab L.m L.n L.A (L.c2 cost) T B) (S : Scld L D E) (C : CScl L (L.c2 cost) dc) : ∃ (V : Int) (w : Nat → Int), V ≠ 0 ∧ V.natAbs < 2 ^ 865 ∧ ∀ k, k < L.m → (V : Rat) * L.yof cost T k = (w k : Rat) * D k ∧ (w k).natAbs ≤ 2 ^ 744 := by
  obtain ⟨w, w0, wb, we⟩ := combo_w I S.scl C.nz (γ := fun l => L.c2 cost (B l)) fun l _ => C.int _
  refine ⟨w L.m * dc, fun k => - w k, Int.mul_ne_zero w0 C.nz, ?_, fun k hk => ⟨?_, by rw [Int.natAbs_neg]; exact Nat.le_trans (wb k (by omega)) (pow_le2 (show 6 * (120 + 4) ≤ 744 from Nat.le_refl _))⟩⟩
  · rw [Int.natAbs_mul]
    have h1 : (w L.m).natAbs < 2 ^ 745 := by
      have := wb L.m (by omega)
      have h2 : 2 ^ 745 = 2 ^ (6 * (120 + 4)) * 2 := by rw [← Nat.pow_succ]
      have := two_pos (6 * (120 + 4))
      omega
    exact Nat.lt_of_lt_of_le (nlt_mul h1 C.lt) (pow_le2 (by decide))
  · obtain ⟨hu, hu2⟩ := unitA (L := L) hk
    have h1 := we (L.u k) (by omega)
    have h2 := I.zform (c := L.u k) (by omega)
    have h3 : sm L.m (fun i => (w i : Rat) * (D i * L.A i (L.u k))) = (w k : Rat) * D k := by
      rw [sm_single hk]
      · rw [hu2 k hk, if_pos rfl]; grind
      · intro j hj nj
        rw [hu2 j hj, if_neg nj]; grind
    rw [h3] at h1
    have h4 : L.yof cost T k = sm L.m (fun l => L.c2 cost (B l) * T l (L.u k)) := by
      unfold yof
      rw [h2]; grind
    rw [h4, Rat.mul_comm, h1, Rat.intCast_neg]
    grind
theorem val_bd (I : Tab L.m L.n L.A (L.c2 cost) T B) (S : Scld L D E) (C : CScl L (L.c2 cost) dc) {e r : Nat} (hE : E.natAbs < 2 ^ e) (hr : ∀ i, i < L.m → ∃ z : Int, E * (D i * L.right i) = (z : Rat) ∧ z.natAbs ≤ 2 ^ r) :
    Bd (747 + r) (865 + e) (sm L.cnt (fun c => cost c * vals L.m L.n T B c)) := by
  have h := combo_rhs I S.scl C.nz C.lt (γ := fun l => L.c2 cost (B l)) (fun l _ => C.int _) S.e0 hE (fun i hi => by rw [A_right]; exact hr i hi)
  have h1 := I.value c2_n
  have h2 := I.zform (Nat.le_refl L.n)
  rw [c2_sum] at h1
  have h3 : sm L.cnt (fun c => cost c * vals L.m L.n T B c) = sm L.m (fun l => L.c2 cost (B l) * T l L.n) := by
    rw [h1, h2, c2_n]; grind
  rw [h3]
  exact h.mono (by omega) (by omega)
end Lp
end BB
namespace BB
/-! ### the two programs of a need -/
/-- a book's rows: prices pr, what was spent sp, which rows are kept T -/
structure Nd where
  g : Nat
  c : Nat
  pr : Nat → Nat → Rat
  am : Nat → Nat → Rat
  T : Nat → Option Bool
  q : Nat → Rat
namespace Nd
variable (z : Nd)
def p (j : Nat) : Bool := (z.T j).isSome
def rl : List Nat := sel z.p z.c
def sp (j : Nat) : Rat := sm z.g fun k => z.pr j k * z.am j k
def row (k : Nat) : Nat := z.rl.getD k 0
def lp1 : Lp := ⟨z.rl.length, z.g, fun k c => z.pr (z.row k) c, fun _ => .least, fun k => z.sp (z.row k)⟩
def lp2 (v : Rat) : Lp := ⟨z.rl.length + 2, z.g + 1,
  fun k c => if k = 0 then (if c < z.g then z.q c else 0) else if k = 1 then (if c < z.g then 0 else 1) else if c < z.g then z.pr (z.row (k - 2)) c else (if z.T (z.row (k - 2)) = some true then -1 else 0),
  fun k => if k = 0 then .equal else if k = 1 then .most else .least,
  fun k => if k = 0 then v else if k = 1 then 1 else z.sp (z.row (k - 2))⟩
def cost2 (c : Nat) : Rat := if c < z.g then 0 else -1
/-- the weights of the rows by the lines' -/
def pap (y : Nat → Rat) (j : Nat) : Rat := if z.p j = true then y (sel z.p j).length else 0
structure Ok : Prop where
  g : z.g ≤ 4
  g1 : 1 ≤ z.g
  c : z.c ≤ 4
  pr : ∀ i, i < z.c → ∀ k, k < z.g → Bd 40 10 (z.pr i k) ∧ 0 < z.pr i k
  am : ∀ i, i < z.c → ∀ k, k < z.g → Bd 40 10 (z.am i k) ∧ 0 ≤ z.am i k
  sp : ∀ i, i < z.c → 0 < z.sp i
  q : ∀ k, k < z.g → Bd 40 10 (z.q k) ∧ 0 < z.q k
  some : ∃ j, j < z.c ∧ z.p j = true
variable {z : Nd}
theorem rl_len (O : z.Ok) : z.rl.length ≤ 4 := Nat.le_trans (sel_le z.c) O.c
theorem rl_pos (O : z.Ok) : 0 < z.rl.length := by
  obtain ⟨j, hj, h⟩ := O.some
  have := (sel_rank hj h).1
  exact Nat.lt_of_le_of_lt (Nat.zero_le _) this
theorem row_lt {k : Nat} (h : k < z.rl.length) : z.row k < z.c := (sel_at h).1
theorem row_p {k : Nat} (h : k < z.rl.length) : z.p (z.row k) = true := (sel_at h).2
/-! factors -/
theorem facs (O : z.Ok) : ∃ D : Nat → Int, ∀ j, j < z.c → D j ≠ 0 ∧ (D j).natAbs ≤ 2 ^ 80 ∧ (∀ k, k < z.g → ∃ w : Int, D j * z.pr j k = (w : Rat) ∧ w.natAbs ≤ 2 ^ 120) ∧ ∃ w : Int, D j * z.sp j = (w : Rat) ∧ w.natAbs ≤ 2 ^ 162 := by
  have one : ∀ j, j < z.c → ∃ d : Int, d ≠ 0 ∧ d.natAbs ≤ 2 ^ 80 ∧ (∀ k, k < z.g → ∃ w : Int, d * z.pr j k = (w : Rat) ∧ w.natAbs ≤ 2 ^ 120) ∧ ∃ w : Int, d * z.sp j = (w : Rat) ∧ w.natAbs ≤ 2 ^ 162 := fun j hj => by
    obtain ⟨a, a0, a1, a2⟩ := clear z.g fun k hk => (O.pr j hj k hk).1
    obtain ⟨b, b0, b1, b2⟩ := clear z.g fun k hk => (O.am j hj k hk).1
    have g4 : 10 * z.g ≤ 40 := by have := O.g; omega
    have a1' : a.natAbs ≤ 2 ^ 40 := Nat.le_trans a1 (pow_le2 g4)
    have b1' : b.natAbs ≤ 2 ^ 40 := Nat.le_trans b1 (pow_le2 g4)
    refine ⟨a * b, Int.mul_ne_zero a0 b0, ?_, fun k hk => ?_, ?_⟩
    · rw [Int.natAbs_mul, show 80 = 40 + 40 from rfl, Nat.pow_add]
      exact Nat.mul_le_mul a1' b1'
    · obtain ⟨w, e, hw⟩ := a2 k hk
      refine ⟨b * w, by rw [Rat.intCast_mul, Rat.intCast_mul, ← e]; grind, ?_⟩
      rw [Int.natAbs_mul, show 120 = 40 + 80 from rfl, Nat.pow_add]
      exact Nat.mul_le_mul b1' (Nat.le_trans hw (pow_le2 (by omega)))
    · obtain ⟨U, hU⟩ : ∃ U : Nat → Int, ∀ k, k < z.g → a * z.pr j k = (U k : Rat) ∧ (U k).natAbs ≤ 2 ^ 80 := by
        refine ⟨fun k => if h : k < z.g then Classical.choose (a2 k h) else 0, fun k hk => ?_⟩
        simp only [dif_pos hk]
        obtain ⟨x, y⟩ := Classical.choose_spec (a2 k hk)
        exact ⟨x, Nat.le_trans y (pow_le2 (by omega))⟩
      obtain ⟨W, hW⟩ : ∃ W : Nat → Int, ∀ k, k < z.g → b * z.am j k = (W k : Rat) ∧ (W k).natAbs ≤ 2 ^ 80 := by
        refine ⟨fun k => if h : k < z.g then Classical.choose (b2 k h) else 0, fun k hk => ?_⟩
        simp only [dif_pos hk]
        obtain ⟨x, y⟩ := Classical.choose_spec (b2 k hk)
        exact ⟨x, Nat.le_trans y (pow_le2 (by omega))⟩
      refine ⟨smI z.g fun k => U k * W k, ?_, ?_⟩
      · rw [smI_cast]
        unfold sp
        rw [← sm_mul]
        refine sm_congr fun k hk => ?_
        rw [Rat.intCast_mul, Rat.intCast_mul, ← (hU k hk).1, ← (hW k hk).1]
        grind
      · have h1 : (smI z.g fun k => U k * W k).natAbs ≤ z.g * 2 ^ 160 := smI_abs fun k hk => by
          rw [Int.natAbs_mul, show 160 = 80 + 80 from rfl, Nat.pow_add]
          exact Nat.mul_le_mul (hU k hk).2 (hW k hk).2
        refine Nat.le_trans h1 ?_
        rw [show 162 = 2 + 160 from rfl, Nat.pow_add]
        exact Nat.mul_le_mul_right _ O.g
  refine ⟨fun j => if h : j < z.c then Classical.choose (one j h) else 0, fun j hj => ?_⟩
  simp only [dif_pos hj]
  exact Classical.choose_spec (one j hj)
theorem qfac (O : z.Ok) : ∃ d : Int, d ≠ 0 ∧ d.natAbs ≤ 2 ^ 40 ∧ ∀ k, k < z.g → ∃ w : Int, d * z.q k = (w : Rat) ∧ w.natAbs ≤ 2 ^ 80 := by
  obtain ⟨a, a0, a1, a2⟩ := clear z.g fun k hk => (O.q k hk).1
  have g4 : 10 * z.g ≤ 40 := by have := O.g; omega
  exact ⟨a, a0, Nat.le_trans a1 (pow_le2 g4), fun k hk => by
    obtain ⟨w, e, h⟩ := a2 k hk
    exact ⟨w, e, Nat.le_trans h (pow_le2 (by omega))⟩⟩
/-! the first program -/
theorem n1 (O : z.Ok) : z.lp1.n ≤ 12 := by
  have h1 := rl_len O
  have h2 := cntK_max (no := .equal) (kind := z.lp1.kind) z.lp1.m
  have h3 := cntK_max (no := .most) (kind := z.lp1.kind) z.lp1.m
  have e : z.lp1.n = z.g + cntK .equal z.lp1.kind z.lp1.m + cntK .most z.lp1.kind z.lp1.m := rfl
  have em : z.lp1.m = z.rl.length := rfl
  have := O.g
  omega
theorem scld1 (O : z.Ok) {D : Nat → Int} (hD : ∀ j, j < z.c → D j ≠ 0 ∧ (D j).natAbs ≤ 2 ^ 80 ∧ (∀ k, k < z.g → ∃ w : Int, D j * z.pr j k = (w : Rat) ∧ w.natAbs ≤ 2 ^ 120) ∧ ∃ w : Int, D j * z.sp j = (w : Rat) ∧ w.natAbs ≤ 2 ^ 162) :
    Lp.Scld z.lp1 (fun k => D (z.row k)) 1 ∧ ∀ i, i < z.lp1.m → ∃ w : Int, ((1 : Int) : Rat) * (D (z.row i) * z.lp1.right i) = (w : Rat) ∧ w.natAbs ≤ 2 ^ 162 := by
  have rt : ∀ i, i < z.lp1.m → ∃ w : Int, ((1 : Int) : Rat) * (D (z.row i) * z.lp1.right i) = (w : Rat) ∧ w.natAbs ≤ 2 ^ 162 := fun i hi => by
    obtain ⟨w, e, h⟩ := (hD _ (row_lt hi)).2.2.2
    exact ⟨w, by
      have o : ((1 : Int) : Rat) = 1 := rfl
      rw [o, Rat.one_mul]; exact e, h⟩
  refine ⟨⟨?_, fun i hi => ?_, fun i hi c hc => ?_, by decide, (by decide +kernel), fun i hi => ?_⟩, rt⟩
  · have := rl_len O
    show z.rl.length ≤ 6
    omega
  · obtain ⟨a, b, _⟩ := hD _ (row_lt hi)
    exact ⟨a, Nat.le_trans b (pow_le2 (by omega))⟩
  · exact (hD _ (row_lt hi)).2.2.1 c hc
  · obtain ⟨w, e, h⟩ := rt i hi
    exact ⟨w, e, Nat.le_trans h (pow_le2 (by omega))⟩
theorem cscl1 (O : z.Ok) : ∃ dc, Lp.CScl z.lp1 (z.lp1.c2 z.q) dc := by
  obtain ⟨d, d0, d1, d2⟩ := qfac O
  refine ⟨d, Lp.c2_scl d0 (Nat.lt_of_le_of_lt d1 (Nat.pow_lt_pow_right (by omega) (by omega))) fun c hc => ?_⟩
  obtain ⟨w, e, h⟩ := d2 c hc
  exact ⟨⟨w, e, Nat.le_trans h (pow_le2 (by omega))⟩, (O.q c hc).1.mono (by omega) (by omega)⟩
theorem bounded1 (O : z.Ok) : Lp.Bounded z.lp1 z.q := fun v hv _ _ => by
  refine sm_nn fun d hd => ?_
  unfold Lp.c2
  by_cases e : d < z.lp1.cnt
  · rw [if_pos e]
    exact Rat.mul_nonneg (Rat.le_of_lt (O.q d e).2) (hv d hd)
  · rw [if_neg e, Rat.zero_mul]; exact Rat.le_refl
/-- much of the first good is enough -/
theorem fits1 (O : z.Ok) : ∃ x, Lp.Fits z.lp1 x := by
  have hp0 : ∀ j, j < z.c → 0 < z.pr j 0 := fun j hj => (O.pr j hj 0 O.g1).2
  have nn : ∀ j, j < z.c → 0 ≤ z.sp j / z.pr j 0 := fun j hj => div_pos' (Rat.le_of_lt (O.sp j hj)) (hp0 j hj)
  refine ⟨fun c => if c = 0 then sm z.c (fun j => z.sp j / z.pr j 0) else 0, fun c hc => ?_, fun k hk _ => ?_, fun k hk e => (by cases (show LK.least = LK.equal from e)), fun k hk e => (by cases (show LK.least = LK.most from e))⟩
  · by_cases e : c = 0
    · rw [if_pos e]; exact sm_nn nn
    · rw [if_neg e]; exact Rat.le_refl
  · have hr := row_lt hk
    show z.sp (z.row k) ≤ sm z.g (fun c => z.pr (z.row k) c * if c = 0 then sm z.c (fun j => z.sp j / z.pr j 0) else 0)
    rw [sm_single (k := 0) O.g1 fun i hi ne => by rw [if_neg ne, Rat.mul_zero], if_pos rfl]
    have h1 : z.sp (z.row k) / z.pr (z.row k) 0 ≤ sm z.c (fun j => z.sp j / z.pr j 0) := sm_ge1 hr nn
    have h2 := Rat.mul_le_mul_of_nonneg_left h1 (Rat.le_of_lt (hp0 _ hr))
    have h3 : z.pr (z.row k) 0 * (z.sp (z.row k) / z.pr (z.row k) 0) = z.sp (z.row k) := by
      rw [Rat.mul_comm]
      exact Rat.div_mul_cancel (Rat.ne_of_gt (hp0 _ hr))
    rw [h3] at h2
    exact h2
/-- what keeps a row costs something -/
theorem val_pos (O : z.Ok) {x : Nat → Rat} (F : Lp.Fits z.lp1 x) : 0 < sm z.g (fun c => z.q c * x c) := by
  have hm := rl_pos O
  have h1 := F.least 0 hm rfl
  have hr := row_lt hm
  have hs := O.sp _ hr
  have h2 : 0 < sm z.g (fun c => z.pr (z.row 0) c * x c) := Std.lt_of_lt_of_le hs h1
  have h3 : ∃ c, c < z.g ∧ 0 < x c := Classical.byContradiction fun no => by
    have : sm z.g (fun c => z.pr (z.row 0) c * x c) = 0 := sm_zero fun c hc => by
      have h4 := F.nn c hc
      have : x c = 0 := by
        have : ¬ 0 < x c := fun y => no ⟨c, hc, y⟩
        grind
      rw [this, Rat.mul_zero]
    rw [this] at h2
    exact absurd h2 (by grind)
  obtain ⟨c, hc, hx⟩ := h3
  have h4 := sm_ge1 (f := fun c => z.q c * x c) hc fun i hi => Rat.mul_nonneg (Rat.le_of_lt (O.q i hi).2) (F.nn i hi)
  exact Std.lt_of_lt_of_le (Rat.mul_pos (O.q c hc).2 hx) h4
/-! papers -/
/-- a paper that holds: what is told of a need -/
structure Holds (z : Nd) (P : Nat → Rat) (v : Rat) : Prop where
  nn : ∀ j, j < z.c → 0 ≤ P j
  out : ∀ j, j < z.c → z.T j = none → P j = 0
  le : ∀ k, k < z.g → sm z.c (fun j => P j * z.pr j k) ≤ z.q k
  val : v ≤ sm z.c (fun j => P j * z.sp j)
theorem pap_sum (y f : Nat → Rat) : sm z.c (fun j => z.pap y j * f j) = sm z.rl.length (fun k => y k * f (z.row k)) := sel_sum y f z.c
theorem p_none {j : Nat} (h : z.T j = none) : z.p j = false := by unfold p; rw [h]; rfl
theorem p_some {j : Nat} {b : Bool} (h : z.T j = some b) : z.p j = true := by unfold p; rw [h]; rfl
theorem pap_out {y : Nat → Rat} {j : Nat} (h : z.T j = none) : z.pap y j = 0 := by
  unfold pap
  rw [if_neg (by rw [p_none h]; exact Bool.false_ne_true)]
theorem pap_nn {y : Nat → Rat} (h : ∀ k, k < z.rl.length → 0 ≤ y k) {j : Nat} (hj : j < z.c) : 0 ≤ z.pap y j := by
  unfold pap
  by_cases e : z.p j = true
  · rw [if_pos e]; exact h _ (sel_rank hj e).1
  · rw [if_neg e]; exact Rat.le_refl
theorem holds1 {x y : Nat → Rat} {v : Rat} (S : Lp.Sol z.lp1 z.q x y v) : Holds z (z.pap y) v := by
  refine ⟨fun j hj => pap_nn (fun k hk => S.pos k hk rfl) hj, fun j _ h => pap_out h, fun k hk => ?_, ?_⟩
  · rw [pap_sum y (fun j => z.pr j k)]
    exact S.dual k hk
  · rw [pap_sum y z.sp, ← S.gap]
    exact Rat.le_refl
end Nd
end BB
namespace BB
namespace Nd
variable {z : Nd}
/-! ### papers tell the truth -/
theorem swap (P x : Nat → Rat) : sm z.g (fun k => sm z.c (fun j => P j * z.pr j k) * x k) = sm z.c (fun j => P j * sm z.g (fun k => z.pr j k * x k)) := by
  have e1 : sm z.g (fun k => sm z.c (fun j => P j * z.pr j k) * x k) = sm z.g (fun k => sm z.c (fun j => P j * (z.pr j k * x k))) := sm_congr fun k _ => by
    rw [← sm_mulr]
    exact sm_congr fun j _ => by grind
  rw [e1, sm_comm]
  exact sm_congr fun j _ => by rw [sm_mul]
theorem Holds.weak {P : Nat → Rat} {v : Rat} (h : Holds z P v) {x : Nat → Rat} (hx : ∀ k, k < z.g → 0 ≤ x k) (hk : ∀ j, j < z.c → ∀ b, z.T j = some b → z.sp j ≤ sm z.g (fun k => z.pr j k * x k)) : v ≤ sm z.g (fun k => z.q k * x k) := by
  have h1 : sm z.g (fun k => sm z.c (fun j => P j * z.pr j k) * x k) ≤ sm z.g (fun k => z.q k * x k) := sm_le fun k hk' => Rat.mul_le_mul_of_nonneg_right (h.le k hk') (hx k hk')
  rw [swap] at h1
  have h2 : sm z.c (fun j => P j * z.sp j) ≤ sm z.c (fun j => P j * sm z.g (fun k => z.pr j k * x k)) := sm_le fun j hj => by
    cases e : z.T j with
    | none => rw [h.out j hj e, Rat.zero_mul, Rat.zero_mul]; exact Rat.le_refl
    | some b => exact Rat.mul_le_mul_of_nonneg_left (hk j hj b e) (h.nn j hj)
  exact Rat.le_trans h.val (Rat.le_trans h2 h1)
theorem Holds.strict {P : Nat → Rat} {v : Rat} (h : Holds z P v) {x : Nat → Rat} (hx : ∀ k, k < z.g → 0 ≤ x k) (hk : ∀ j, j < z.c → ∀ b, z.T j = some b → z.sp j ≤ sm z.g (fun k => z.pr j k * x k)) {i : Nat} (hi : i < z.c) (ht : z.T i = some true) (hp : 0 < P i)
    (hs : z.sp i < sm z.g (fun k => z.pr i k * x k)) : v < sm z.g (fun k => z.q k * x k) := by
  have h1 : sm z.g (fun k => sm z.c (fun j => P j * z.pr j k) * x k) ≤ sm z.g (fun k => z.q k * x k) := sm_le fun k hk' => Rat.mul_le_mul_of_nonneg_right (h.le k hk') (hx k hk')
  rw [swap] at h1
  have h2 : sm z.c (fun j => P j * z.sp j) < sm z.c (fun j => P j * sm z.g (fun k => z.pr j k * x k)) := sm_lt1 hi (fun j hj => by
    cases e : z.T j with
    | none => rw [h.out j hj e, Rat.zero_mul, Rat.zero_mul]; exact Rat.le_refl
    | some b => exact Rat.mul_le_mul_of_nonneg_left (hk j hj b e) (h.nn j hj)) (Rat.mul_lt_mul_of_pos_left hs hp)
  exact Std.lt_of_le_of_lt h.val (Std.lt_of_lt_of_le h2 h1)
theorem sel_idx {p : Nat → Bool} : ∀ {c k : Nat}, k < (sel p c).length → (sel p ((sel p c).getD k 0)).length = k
  | 0, k, h => absurd h (Nat.not_lt_zero k)
  | c + 1, k, h => by
    by_cases hp : p c = true
    · have e : sel p (c + 1) = sel p c ++ [c] := by
        show sel p c ++ _ = _
        rw [if_pos hp]
      rw [sel_on hp] at h
      rw [e]
      by_cases hk : k < (sel p c).length
      · have : (sel p c ++ [c]).getD k 0 = (sel p c).getD k 0 := by
          rw [List.getD_eq_getElem?_getD, List.getD_eq_getElem?_getD, List.getElem?_append_left hk]
        rw [this]
        exact sel_idx hk
      · have ek : k = (sel p c).length := by omega
        have : (sel p c ++ [c]).getD k 0 = c := by
          rw [ek, List.getD_eq_getElem?_getD, List.getElem?_append_right (Nat.le_refl _), Nat.sub_self]
          rfl
        rw [this, ek]
    · have e : sel p (c + 1) = sel p c := by
        show sel p c ++ _ = _
        rw [if_neg hp, List.append_nil]
      rw [e] at h ⊢
      exact sel_idx h
theorem sel_rank_row {i : Nat} (hi : i < z.rl.length) : (sel z.p (z.row i)).length = i := sel_idx hi
/-! ### the second program -/
theorem n2 (O : z.Ok) {v : Rat} : (z.lp2 v).n ≤ 17 := by
  have h1 := rl_len O
  have h2 := cntK_max (no := .equal) (kind := (z.lp2 v).kind) (z.lp2 v).m
  have h3 := cntK_max (no := .most) (kind := (z.lp2 v).kind) (z.lp2 v).m
  have e : (z.lp2 v).n = (z.g + 1) + cntK .equal (z.lp2 v).kind (z.lp2 v).m + cntK .most (z.lp2 v).kind (z.lp2 v).m := rfl
  have em : (z.lp2 v).m = z.rl.length + 2 := rfl
  have := O.g
  omega
theorem int0 {x : Rat} (h : x = 0) (b : Nat) : ∃ w : Int, x = (w : Rat) ∧ w.natAbs ≤ 2 ^ b := ⟨0, h, Nat.zero_le _⟩
theorem scld2 (O : z.Ok) {D : Nat → Int} (hD : ∀ j, j < z.c → D j ≠ 0 ∧ (D j).natAbs ≤ 2 ^ 80 ∧ (∀ k, k < z.g → ∃ w : Int, D j * z.pr j k = (w : Rat) ∧ w.natAbs ≤ 2 ^ 120) ∧ ∃ w : Int, D j * z.sp j = (w : Rat) ∧ w.natAbs ≤ 2 ^ 162)
    {d : Int} (d0 : d ≠ 0) (d1 : d.natAbs ≤ 2 ^ 40) (d2 : ∀ k, k < z.g → ∃ w : Int, d * z.q k = (w : Rat) ∧ w.natAbs ≤ 2 ^ 80) {v : Rat} (hv : Bd 909 866 v) :
    Lp.Scld (z.lp2 v) (fun k => if k = 0 then d else if k = 1 then 1 else D (z.row (k - 2))) (v.den : Int) := by
  have i1 : ((1 : Int) : Rat) = 1 := rfl
  refine ⟨by have := rl_len O; show z.rl.length + 2 ≤ 6; omega, fun i hi => ?_, fun i hi c hc => ?_, den_ne v, ?_, fun i hi => ?_⟩
  · by_cases e0 : i = 0
    · simp only [if_pos e0]
      exact ⟨d0, Nat.le_trans d1 (pow_le2 (by omega))⟩
    · simp only [if_neg e0]
      by_cases e1 : i = 1
      · simp only [if_pos e1]
        exact ⟨by decide, two_pos 120⟩
      · simp only [if_neg e1]
        have hi' : i < z.rl.length + 2 := hi
        obtain ⟨a, b, _⟩ := hD _ (row_lt (k := i - 2) (by omega))
        exact ⟨a, Nat.le_trans b (pow_le2 (by omega))⟩
  · show ∃ w : Int, ((if i = 0 then d else if i = 1 then 1 else D (z.row (i - 2)) : Int) : Rat) * (if i = 0 then (if c < z.g then z.q c else 0) else if i = 1 then (if c < z.g then 0 else 1) else if c < z.g then z.pr (z.row (i - 2)) c else (if z.T (z.row (i - 2)) = some true then -1 else 0)) = (w : Rat) ∧ w.natAbs ≤ 2 ^ 120
    by_cases e0 : i = 0
    · rw [if_pos e0, if_pos e0]
      by_cases hc : c < z.g
      · rw [if_pos hc]
        obtain ⟨w, e, h⟩ := d2 c hc
        exact ⟨w, e, Nat.le_trans h (pow_le2 (by omega))⟩
      · rw [if_neg hc]; exact int0 (Rat.mul_zero _) _
    · rw [if_neg e0, if_neg e0]
      by_cases e1 : i = 1
      · rw [if_pos e1, if_pos e1]
        by_cases hc : c < z.g
        · rw [if_pos hc]; exact int0 (Rat.mul_zero _) _
        · rw [if_neg hc]; exact ⟨1, by rw [i1, Rat.mul_one], two_pos 120⟩
      · rw [if_neg e1, if_neg e1]
        have hi' : i < z.rl.length + 2 := hi
        obtain ⟨a, b, f, _⟩ := hD _ (row_lt (k := i - 2) (by omega))
        by_cases hc : c < z.g
        · rw [if_pos hc]; exact f c hc
        · rw [if_neg hc]
          by_cases ht : z.T (z.row (i - 2)) = some true
          · rw [if_pos ht]
            exact ⟨- D (z.row (i - 2)), by rw [Rat.intCast_neg]; grind, by rw [Int.natAbs_neg]; exact Nat.le_trans b (pow_le2 (by omega))⟩
          · rw [if_neg ht]; exact int0 (Rat.mul_zero _) _
  · rw [Int.natAbs_natCast]
    exact Nat.lt_of_lt_of_le hv.den (pow_le2 (by omega))
  · show ∃ w : Int, ((v.den : Int) : Rat) * (((if i = 0 then d else if i = 1 then 1 else D (z.row (i - 2)) : Int) : Rat) * (if i = 0 then v else if i = 1 then 1 else z.sp (z.row (i - 2)))) = (w : Rat) ∧ w.natAbs ≤ 2 ^ 1050
    have dl := Nat.le_of_lt hv.den
    by_cases e0 : i = 0
    · rw [if_pos e0, if_pos e0]
      refine ⟨d * v.num, by rw [Rat.intCast_mul, ← num_over_den v]; grind, ?_⟩
      rw [Int.natAbs_mul]
      refine Nat.le_trans (Nat.mul_le_mul d1 (Nat.le_of_lt hv.num)) ?_
      rw [← Nat.pow_add]
      exact pow_le2 (by omega)
    · rw [if_neg e0, if_neg e0]
      by_cases e1 : i = 1
      · rw [if_pos e1, if_pos e1]
        refine ⟨(v.den : Int), by rw [i1]; grind, ?_⟩
        rw [Int.natAbs_natCast]
        exact Nat.le_trans dl (pow_le2 (by omega))
      · rw [if_neg e1, if_neg e1]
        have hi' : i < z.rl.length + 2 := hi
        obtain ⟨_, _, _, w, e, h⟩ := hD _ (row_lt (k := i - 2) (by omega))
        refine ⟨(v.den : Int) * w, by rw [Rat.intCast_mul, ← e], ?_⟩
        rw [Int.natAbs_mul, Int.natAbs_natCast]
        refine Nat.le_trans (Nat.mul_le_mul dl h) ?_
        rw [← Nat.pow_add]
        exact pow_le2 (by omega)
theorem cscl2 {v : Rat} : Lp.CScl (z.lp2 v) ((z.lp2 v).c2 z.cost2) 1 := by
  refine Lp.c2_scl (by decide) (Nat.one_lt_two_pow (by omega)) fun c hc => ?_
  have i1 : ((1 : Int) : Rat) = 1 := rfl
  unfold cost2
  by_cases e : c < z.g
  · rw [if_pos e]
    exact ⟨int0 (Rat.mul_zero _) _, Bd.zero.mono (by omega) (by omega)⟩
  · rw [if_neg e]
    exact ⟨⟨-1, by rw [i1, Rat.one_mul]; rfl, Nat.le_trans (show (-1 : Int).natAbs ≤ 1 by decide) (two_pos 120)⟩, Bd.one.neg.mono (by omega) (by omega)⟩
theorem cost2_sum (x : Nat → Rat) : sm (z.g + 1) (fun c => z.cost2 c * x c) = - x z.g := by
  rw [sm_succ, sm_zero fun c hc => by unfold cost2; rw [if_pos hc, Rat.zero_mul]]
  unfold cost2
  rw [if_neg (Nat.lt_irrefl _)]
  grind
theorem most_row (x : Nat → Rat) {v : Rat} : sm (z.g + 1) (fun c => (z.lp2 v).ent 1 c * x c) = x z.g := by
  rw [sm_succ, sm_zero fun c hc => by
    show (if c < z.g then (0 : Rat) else 1) * x c = 0
    rw [if_pos hc, Rat.zero_mul]]
  show 0 + (if z.g < z.g then (0 : Rat) else 1) * x z.g = _
  rw [if_neg (Nat.lt_irrefl _)]
  grind
theorem bounded2 {v : Rat} : Lp.Bounded (z.lp2 v) z.cost2 := fun u hu hA _ => by
  have hm : 1 < (z.lp2 v).m := by show 1 < z.rl.length + 2; omega
  have h1 := hA 1 hm
  rw [Lp.row_sum hm] at h1
  have k1 : (z.lp2 v).kind 1 = .most := rfl
  rw [k1, if_pos (by decide), if_neg (by simp)] at h1
  have sg1 : (z.lp2 v).sg 1 = 1 := by unfold Lp.sg; rw [k1, if_pos rfl]
  rw [sg1] at h1
  have e1 : sm (z.lp2 v).cnt (fun c => (z.lp2 v).ent 1 c * u c) = u z.g := most_row u
  rw [e1] at h1
  have wn := Lp.le_wn (L := z.lp2 v)
  have sc1 := Lp.sc_lt (L := z.lp2 v) hm (by rw [k1]; decide)
  have ew : (z.lp2 v).w = (z.lp2 v).cnt + (z.lp2 v).sc (z.lp2 v).m := rfl
  have u1 := hu z.g (by
    have : (z.lp2 v).cnt = z.g + 1 := rfl
    omega)
  have u2 := hu ((z.lp2 v).cnt + (z.lp2 v).sc 1) (by omega)
  rw [Lp.c2_sum]
  have e2 : sm (z.lp2 v).cnt (fun c => z.cost2 c * u c) = - u z.g := cost2_sum u
  rw [e2]
  grind
theorem fits2 {x : Nat → Rat} (F : Lp.Fits z.lp1 x) {v : Rat} (hv : v = sm z.g (fun c => z.q c * x c)) : Lp.Fits (z.lp2 v) (fun c => if c < z.g then x c else 0) := by
  have low : ∀ f : Nat → Rat, sm z.g (fun c => f c * if c < z.g then x c else 0) = sm z.g (fun c => f c * x c) := fun f => sm_congr fun c hc => by rw [if_pos hc]
  refine ⟨fun c hc => ?_, fun k hk e => ?_, fun k hk e => ?_, fun k hk e => ?_⟩
  · by_cases h : c < z.g
    · rw [if_pos h]; exact F.nn c h
    · rw [if_neg h]; exact Rat.le_refl
  · have e' : (if k = 0 then LK.equal else if k = 1 then LK.most else LK.least) = LK.least := e
    have e0 : ¬ k = 0 := fun y => by rw [if_pos y] at e'; cases e'
    have e1 : ¬ k = 1 := fun y => by rw [if_neg e0, if_pos y] at e'; cases e'
    have hk' : k < z.rl.length + 2 := hk
    have := F.least (k - 2) (by show k - 2 < z.rl.length; omega) rfl
    show (if k = 0 then v else if k = 1 then 1 else z.sp (z.row (k - 2))) ≤ sm (z.g + 1) _
    rw [if_neg e0, if_neg e1, sm_succ]
    have e2 : sm z.g (fun c => (z.lp2 v).ent k c * if c < z.g then x c else 0) = sm z.g (fun c => z.pr (z.row (k - 2)) c * x c) := sm_congr fun c hc => by
      show (if k = 0 then (if c < z.g then z.q c else 0) else if k = 1 then (if c < z.g then 0 else 1) else if c < z.g then z.pr (z.row (k - 2)) c else (if z.T (z.row (k - 2)) = some true then -1 else 0)) * (if c < z.g then x c else 0) = _
      rw [if_neg e0, if_neg e1, if_pos hc, if_pos hc]
    rw [e2, if_neg (Nat.lt_irrefl _), Rat.mul_zero, Rat.add_zero]
    exact this
  · have e' : (if k = 0 then LK.equal else if k = 1 then LK.most else LK.least) = LK.equal := e
    have e0 : k = 0 := Classical.byContradiction fun y => by
      rw [if_neg y] at e'
      split at e' <;> cases e'
    subst e0
    show sm (z.g + 1) (fun c => (if c < z.g then z.q c else 0) * if c < z.g then x c else 0) = v
    rw [sm_succ, if_neg (Nat.lt_irrefl _), Rat.zero_mul, Rat.add_zero, hv]
    exact sm_congr fun c hc => by rw [if_pos hc, if_pos hc]
  · have e' : (if k = 0 then LK.equal else if k = 1 then LK.most else LK.least) = LK.most := e
    have e1 : k = 1 := Classical.byContradiction fun y => by
      by_cases e0 : k = 0
      · rw [if_pos e0] at e'; cases e'
      · rw [if_neg e0, if_neg y] at e'; cases e'
    subst e1
    have : sm (z.g + 1) (fun c => (z.lp2 v).ent 1 c * if c < z.g then x c else 0) = if z.g < z.g then x z.g else 0 := most_row fun c => if c < z.g then x c else 0
    show sm (z.g + 1) _ ≤ (1 : Rat)
    rw [this, if_neg (Nat.lt_irrefl _)]
    decide
/-- the second program tells that the need is only near -/
theorem near (O : z.Ok) {x1 : Nat → Rat} (F : Lp.Fits z.lp1 x1) {v : Rat} (hv : v = sm z.g (fun c => z.q c * x1 c)) {x y : Nat → Rat} {val : Rat} (S : Lp.Sol (z.lp2 v) z.cost2 x y val) (h0 : ¬ val < 0) :
    y 0 < 0 ∧ Holds z (fun j => 1 / (- y 0) * z.pap (fun k => y (2 + k)) j) v ∧ ∃ j, j < z.c ∧ z.T j = some true ∧ 0 < 1 / (- y 0) * z.pap (fun k => y (2 + k)) j := by
  have em : (z.lp2 v).m = 2 + z.rl.length := by show z.rl.length + 2 = _; omega
  have split : ∀ f : Nat → Rat, sm (z.lp2 v).m f = f 0 + f 1 + sm z.rl.length (fun i => f (2 + i)) := fun f => by
    rw [em, sm_split]
    show 0 + f 0 + f 1 + _ = _
    rw [Rat.zero_add]
  have k2 : ∀ i, (2 + i) - 2 = i := fun i => by omega
  have n0 : ∀ i, ¬ 2 + i = 0 := fun i => by omega
  have n1 : ∀ i, ¬ 2 + i = 1 := fun i => by omega
  have x0 : 0 ≤ x z.g := S.fits.nn z.g (by show z.g < z.g + 1; omega)
  have v1 : val = - x z.g := by rw [S.val]; exact cost2_sum x
  have val0 : val = 0 := by grind
  have yn : ∀ i, i < z.rl.length → 0 ≤ y (2 + i) := fun i hi => S.pos (2 + i) (by rw [em]; omega) (by
    show (if 2 + i = 0 then LK.equal else if 2 + i = 1 then LK.most else LK.least) = LK.least
    rw [if_neg (n0 i), if_neg (n1 i)])
  have y1 : y 1 ≤ 0 := S.neg 1 (by rw [em]; omega) rfl
  have dual : ∀ c, c < z.g → y 0 * z.q c + sm z.rl.length (fun i => y (2 + i) * z.pr (z.row i) c) ≤ 0 := fun c hc => by
    have h := S.dual c (by show c < z.g + 1; omega)
    rw [split] at h
    have e0 : (z.lp2 v).ent 0 c = z.q c := by
      show (if c < z.g then z.q c else 0) = _
      rw [if_pos hc]
    have e1 : (z.lp2 v).ent 1 c = 0 := by
      show (if c < z.g then (0 : Rat) else 1) = 0
      rw [if_pos hc]
    have e2 : sm z.rl.length (fun i => y (2 + i) * (z.lp2 v).ent (2 + i) c) = sm z.rl.length (fun i => y (2 + i) * z.pr (z.row i) c) := sm_congr fun i hi => by
      congr 1
      show (if 2 + i = 0 then (if c < z.g then z.q c else 0) else if 2 + i = 1 then (if c < z.g then 0 else 1) else if c < z.g then z.pr (z.row (2 + i - 2)) c else (if z.T (z.row (2 + i - 2)) = some true then -1 else 0)) = _
      rw [if_neg (n0 i), if_neg (n1 i), if_pos hc, k2]
    have ec : z.cost2 c = 0 := if_pos hc
    rw [e0, e1, e2, ec, Rat.mul_zero, Rat.add_zero] at h
    exact h
  have dualg : y 1 + sm z.rl.length (fun i => y (2 + i) * (if z.T (z.row i) = some true then -1 else 0)) ≤ -1 := by
    have h := S.dual z.g (by show z.g < z.g + 1; omega)
    rw [split] at h
    have e0 : (z.lp2 v).ent 0 z.g = 0 := by
      show (if z.g < z.g then z.q z.g else 0) = _
      rw [if_neg (Nat.lt_irrefl _)]
    have e1 : (z.lp2 v).ent 1 z.g = 1 := by
      show (if z.g < z.g then (0 : Rat) else 1) = 1
      rw [if_neg (Nat.lt_irrefl _)]
    have e2 : sm z.rl.length (fun i => y (2 + i) * (z.lp2 v).ent (2 + i) z.g) = sm z.rl.length (fun i => y (2 + i) * (if z.T (z.row i) = some true then -1 else 0)) := sm_congr fun i hi => by
      congr 1
      show (if 2 + i = 0 then (if z.g < z.g then z.q z.g else 0) else if 2 + i = 1 then (if z.g < z.g then 0 else 1) else if z.g < z.g then z.pr (z.row (2 + i - 2)) z.g else (if z.T (z.row (2 + i - 2)) = some true then -1 else 0)) = _
      rw [if_neg (n0 i), if_neg (n1 i), if_neg (Nat.lt_irrefl _), k2]
    have ec : z.cost2 z.g = -1 := if_neg (Nat.lt_irrefl _)
    rw [e0, e1, e2, ec] at h
    grind
  have gap : y 0 * v + y 1 + sm z.rl.length (fun i => y (2 + i) * z.sp (z.row i)) = 0 := by
    have h := S.gap
    rw [split] at h
    have e0 : (z.lp2 v).right 0 = v := rfl
    have e1 : (z.lp2 v).right 1 = 1 := rfl
    have e2 : sm z.rl.length (fun i => y (2 + i) * (z.lp2 v).right (2 + i)) = sm z.rl.length (fun i => y (2 + i) * z.sp (z.row i)) := sm_congr fun i hi => by
      congr 1
      show (if 2 + i = 0 then v else if 2 + i = 1 then 1 else z.sp (z.row (2 + i - 2))) = _
      rw [if_neg (n0 i), if_neg (n1 i), k2]
    rw [e0, e1, e2, Rat.mul_one, val0] at h
    exact h
  have pn : ∀ i, i < z.rl.length → ∀ c, c < z.g → 0 < z.pr (z.row i) c := fun i hi c hc => (O.pr _ (row_lt hi) c hc).2
  have y0 : y 0 < 0 := Classical.byContradiction fun no => by
    have y0' : 0 ≤ y 0 := by grind
    have h1 := dual 0 O.g1
    have q0 := (O.q 0 O.g1).2
    have t1 : 0 ≤ y 0 * z.q 0 := Rat.mul_nonneg y0' (Rat.le_of_lt q0)
    have t2 : 0 ≤ sm z.rl.length (fun i => y (2 + i) * z.pr (z.row i) 0) := sm_nn fun i hi => Rat.mul_nonneg (yn i hi) (Rat.le_of_lt (pn i hi 0 O.g1))
    have t3 : y 0 * z.q 0 = 0 := by grind
    have y00 : y 0 = 0 := by
      rcases Rat.mul_eq_zero.mp t3 with h | h
      · exact h
      · rw [h] at q0; exact absurd q0 (by grind)
    have t4 : sm z.rl.length (fun i => y (2 + i) * z.pr (z.row i) 0) = 0 := by grind
    have yz : ∀ i, i < z.rl.length → y (2 + i) = 0 := fun i hi => by
      have := sm_ge1 (f := fun i => y (2 + i) * z.pr (z.row i) 0) hi fun j hj => Rat.mul_nonneg (yn j hj) (Rat.le_of_lt (pn j hj 0 O.g1))
      rw [t4] at this
      have h2 := Rat.mul_nonneg (yn i hi) (Rat.le_of_lt (pn i hi 0 O.g1))
      have h3 : y (2 + i) * z.pr (z.row i) 0 = 0 := Rat.le_antisymm this h2
      rcases Rat.mul_eq_zero.mp h3 with h | h
      · exact h
      · have := pn i hi 0 O.g1
        rw [h] at this; exact absurd this (by grind)
    have s1 : sm z.rl.length (fun i => y (2 + i) * (if z.T (z.row i) = some true then -1 else 0)) = 0 := sm_zero fun i hi => by rw [yz i hi, Rat.zero_mul]
    have s2 : sm z.rl.length (fun i => y (2 + i) * z.sp (z.row i)) = 0 := sm_zero fun i hi => by rw [yz i hi, Rat.zero_mul]
    rw [s1] at dualg
    rw [s2, y00] at gap
    grind
  -- weak duality against the first program
  have wk : sm z.rl.length (fun i => y (2 + i) * z.sp (z.row i)) ≤ - y 0 * v := by
    have a1 : sm z.rl.length (fun i => y (2 + i) * z.sp (z.row i)) ≤ sm z.rl.length (fun i => y (2 + i) * sm z.g (fun c => z.pr (z.row i) c * x1 c)) := sm_le fun i hi => Rat.mul_le_mul_of_nonneg_left (F.least i hi rfl) (yn i hi)
    have a2 : sm z.rl.length (fun i => y (2 + i) * sm z.g (fun c => z.pr (z.row i) c * x1 c)) = sm z.g (fun c => sm z.rl.length (fun i => y (2 + i) * z.pr (z.row i) c) * x1 c) := by
      have e1 : sm z.rl.length (fun i => y (2 + i) * sm z.g (fun c => z.pr (z.row i) c * x1 c)) = sm z.rl.length (fun i => sm z.g (fun c => y (2 + i) * z.pr (z.row i) c * x1 c)) := sm_congr fun i _ => by
        rw [← sm_mul]
        exact sm_congr fun c _ => by grind
      rw [e1, sm_comm]
      exact sm_congr fun c _ => by rw [sm_mulr]
    have a3 : sm z.g (fun c => sm z.rl.length (fun i => y (2 + i) * z.pr (z.row i) c) * x1 c) ≤ sm z.g (fun c => (- y 0 * z.q c) * x1 c) := sm_le fun c hc => Rat.mul_le_mul_of_nonneg_right (by
      have := dual c hc
      grind) (F.nn c hc)
    have a4 : sm z.g (fun c => (- y 0 * z.q c) * x1 c) = - y 0 * v := by
      rw [hv, ← sm_mul]
      exact sm_congr fun c _ => by grind
    rw [a2] at a1
    rw [a4] at a3
    exact Rat.le_trans a1 a3
  have y10 : y 1 = 0 := by grind
  have ny : 0 < - y 0 := by grind
  have nyz : - y 0 ≠ 0 := by grind
  have inv : 0 < 1 / (- y 0) := by
    rw [Rat.div_def, Rat.one_mul]
    exact Rat.inv_pos.mpr ny
  have cancel : 1 / (- y 0) * (- y 0) = 1 := Rat.div_mul_cancel nyz
  have psum : ∀ f : Nat → Rat, sm z.c (fun j => 1 / (- y 0) * z.pap (fun k => y (2 + k)) j * f j) = 1 / (- y 0) * sm z.rl.length (fun k => y (2 + k) * f (z.row k)) := fun f => by
    rw [← pap_sum (fun k => y (2 + k)) f, ← sm_mul]
    exact sm_congr fun j _ => by grind
  refine ⟨y0, ⟨fun j hj => Rat.mul_nonneg (Rat.le_of_lt inv) (pap_nn yn hj), fun j _ h => by
    show 1 / (- y 0) * z.pap (fun k => y (2 + k)) j = 0
    rw [pap_out h, Rat.mul_zero], fun k hk => ?_, ?_⟩, ?_⟩
  · show sm z.c (fun j => 1 / (- y 0) * z.pap (fun k => y (2 + k)) j * z.pr j k) ≤ z.q k
    rw [psum fun j => z.pr j k]
    have h1 : sm z.rl.length (fun i => y (2 + i) * z.pr (z.row i) k) ≤ - y 0 * z.q k := by
      have := dual k hk
      grind
    have h2 := Rat.mul_le_mul_of_nonneg_left h1 (Rat.le_of_lt inv)
    rw [← Rat.mul_assoc, cancel, Rat.one_mul] at h2
    exact h2
  · show v ≤ sm z.c (fun j => 1 / (- y 0) * z.pap (fun k => y (2 + k)) j * z.sp j)
    rw [psum z.sp]
    have h1 : sm z.rl.length (fun i => y (2 + i) * z.sp (z.row i)) = - y 0 * v := by grind
    rw [h1, ← Rat.mul_assoc, cancel, Rat.one_mul]
    exact Rat.le_refl
  · have ex : ∃ i, i < z.rl.length ∧ z.T (z.row i) = some true ∧ 0 < y (2 + i) := Classical.byContradiction fun no => by
      have s1 : sm z.rl.length (fun i => y (2 + i) * (if z.T (z.row i) = some true then -1 else 0)) = 0 := sm_zero fun i hi => by
        by_cases e : z.T (z.row i) = some true
        · have : y (2 + i) = 0 := by
            have h1 := yn i hi
            have h2 : ¬ 0 < y (2 + i) := fun h => no ⟨i, hi, e, h⟩
            grind
          rw [this, Rat.zero_mul]
        · rw [if_neg e, Rat.mul_zero]
      rw [s1, y10] at dualg
      grind
    obtain ⟨i, hi, ht, hy⟩ := ex
    refine ⟨z.row i, row_lt hi, ht, Rat.mul_pos inv ?_⟩
    unfold pap
    rw [if_pos (row_p hi)]
    have : (sel z.p (z.row i)).length = i := sel_rank_row hi
    rw [this]
    exact hy
end Nd
end BB
namespace BB
/-! ### sizes of papers -/
theorem Bd.of_int {x : Rat} {V W : Int} {a b : Nat} (h : V ≠ 0) (e : V * x = (W : Rat)) (ha : W.natAbs < 2 ^ a) (hb : V.natAbs < 2 ^ b) : Bd a b x := Bd.quot h (by rw [Rat.mul_comm]; exact e) ha hb
theorem lt_of_le2 {x a b : Nat} (h : x ≤ 2 ^ a) (hab : a < b) : x < 2 ^ b := Nat.lt_of_le_of_lt h (Nat.pow_lt_pow_right (by omega) hab)
namespace Nd
variable {z : Nd}
/-- what a paper's sums keep -/
structure PB (z : Nd) (P : Nat → Rat) : Prop where
  p : ∀ j, j < z.c → Bd 1500 1500 (P j)
  t : ∀ t, t ≤ z.c → Bd 1500 1500 (sm t fun j => P j * z.sp j)
  s : ∀ t, t ≤ z.c → ∀ k, k < z.g → Bd 1500 1500 (sm t fun j => P j * z.pr j k)
theorem pb_of (O : z.Ok) {D : Nat → Int} (hD : ∀ j, j < z.c → D j ≠ 0 ∧ (D j).natAbs ≤ 2 ^ 80 ∧ (∀ k, k < z.g → ∃ w : Int, D j * z.pr j k = (w : Rat) ∧ w.natAbs ≤ 2 ^ 120) ∧ ∃ w : Int, D j * z.sp j = (w : Rat) ∧ w.natAbs ≤ 2 ^ 162)
    {P : Nat → Rat} {V : Int} (h0 : V ≠ 0) (hV : V.natAbs < 2 ^ 865) (hP : ∀ j, j < z.c → ∃ w : Int, V * P j = (w : Rat) * D j ∧ w.natAbs ≤ 2 ^ 744) : PB z P := by
  have sums : ∀ (f : Nat → Rat) (b : Nat), (∀ j, j < z.c → ∃ w : Int, D j * f j = (w : Rat) ∧ w.natAbs ≤ 2 ^ b) → ∀ t, t ≤ z.c → Bd (b + 747) 865 (sm t fun j => P j * f j) := fun f b hf t ht => by
    have ex : ∀ j, j < t → ∃ w : Int, V * (P j * f j) = (w : Rat) ∧ w.natAbs ≤ 2 ^ (744 + b) := fun j hj => by
      obtain ⟨w, e, h⟩ := hP j (by omega)
      obtain ⟨u, e2, h2⟩ := hf j (by omega)
      refine ⟨w * u, ?_, ?_⟩
      · rw [Rat.intCast_mul, ← e2, ← Rat.mul_assoc, e]
        grind
      · rw [Int.natAbs_mul, Nat.pow_add]
        exact Nat.mul_le_mul h h2
    obtain ⟨W, hW⟩ : ∃ W : Nat → Int, ∀ j, j < t → V * (P j * f j) = (W j : Rat) ∧ (W j).natAbs ≤ 2 ^ (744 + b) := by
      refine ⟨fun j => if h : j < t then Classical.choose (ex j h) else 0, fun j hj => ?_⟩
      simp only [dif_pos hj]
      exact Classical.choose_spec (ex j hj)
    refine Bd.of_int (W := smI t W) h0 ?_ ?_ hV
    · rw [smI_cast, ← sm_mul]
      exact sm_congr fun j hj => (hW j hj).1
    · have h1 : (smI t W).natAbs ≤ t * 2 ^ (744 + b) := smI_abs fun j hj => (hW j hj).2
      have h2 : t * 2 ^ (744 + b) ≤ 4 * 2 ^ (744 + b) := Nat.mul_le_mul_right _ (Nat.le_trans ht O.c)
      have h3 : 4 * 2 ^ (744 + b) = 2 ^ (744 + b + 2) := by rw [Nat.pow_add (m := 744 + b) (n := 2)]; omega
      exact lt_of_le2 (a := 744 + b + 2) (by omega) (by omega)
  refine ⟨fun j hj => ?_, fun t ht => (sums z.sp 162 (fun j hj => (hD j hj).2.2.2) t ht).mono (by omega) (by omega), fun t ht k hk => (sums (fun j => z.pr j k) 120 (fun j hj => (hD j hj).2.2.1 k hk) t ht).mono (by omega) (by omega)⟩
  obtain ⟨w, e, h⟩ := hP j hj
  obtain ⟨_, d1, _⟩ := hD j hj
  refine (Bd.of_int (W := w * D j) (a := 825) (b := 865) h0 (by rw [Rat.intCast_mul]; exact e) ?_ hV).mono (by omega) (by omega)
  rw [Int.natAbs_mul]
  refine lt_of_le2 (a := 744 + 80) ?_ (by omega)
  rw [Nat.pow_add]
  exact Nat.mul_le_mul h d1
/-- the first program's paper -/
theorem pb1 (O : z.Ok) {D : Nat → Int} (hD : ∀ j, j < z.c → D j ≠ 0 ∧ (D j).natAbs ≤ 2 ^ 80 ∧ (∀ k, k < z.g → ∃ w : Int, D j * z.pr j k = (w : Rat) ∧ w.natAbs ≤ 2 ^ 120) ∧ ∃ w : Int, D j * z.sp j = (w : Rat) ∧ w.natAbs ≤ 2 ^ 162)
    {y : Nat → Rat} {V : Int} {w : Nat → Int} (h0 : V ≠ 0) (hV : V.natAbs < 2 ^ 865) (hy : ∀ k, k < z.rl.length → (V : Rat) * y k = (w k : Rat) * D (z.row k) ∧ (w k).natAbs ≤ 2 ^ 744) : PB z (z.pap y) := by
  refine pb_of O hD h0 hV fun j hj => ?_
  unfold pap
  by_cases e : z.p j = true
  · rw [if_pos e]
    obtain ⟨a, b⟩ := sel_rank hj e
    have := hy _ a
    have er : z.row (sel z.p j).length = j := b
    rw [er] at this
    exact ⟨_, this⟩
  · rw [if_neg e]
    have i0 : ((0 : Int) : Rat) = 0 := rfl
    exact ⟨0, by rw [i0, Rat.mul_zero, Rat.zero_mul], Nat.zero_le _⟩
/-- the second's -/
theorem pb2 (O : z.Ok) {D : Nat → Int} (hD : ∀ j, j < z.c → D j ≠ 0 ∧ (D j).natAbs ≤ 2 ^ 80 ∧ (∀ k, k < z.g → ∃ w : Int, D j * z.pr j k = (w : Rat) ∧ w.natAbs ≤ 2 ^ 120) ∧ ∃ w : Int, D j * z.sp j = (w : Rat) ∧ w.natAbs ≤ 2 ^ 162)
    {y : Nat → Rat} {V d : Int} {w : Nat → Int} (h0 : V ≠ 0) (d1 : d.natAbs ≤ 2 ^ 40) (hy : ∀ k, k < z.rl.length + 2 → (V : Rat) * y k = (w k : Rat) * ((if k = 0 then d else if k = 1 then 1 else D (z.row (k - 2)) : Int) : Rat) ∧ (w k).natAbs ≤ 2 ^ 744) (hy0 : y 0 ≠ 0) :
    PB z (fun j => 1 / (- y 0) * z.pap (fun k => y (2 + k)) j) := by
  obtain ⟨e0, b0⟩ := hy 0 (by omega)
  rw [if_pos rfl] at e0
  have vz : (V : Rat) ≠ 0 := fun h => h0 (Rat.intCast_inj.mp h)
  have nz : w 0 * d ≠ 0 := fun h => by
    have : ((w 0 * d : Int) : Rat) = 0 := by rw [h]; rfl
    rw [Rat.intCast_mul, ← e0] at this
    rcases Rat.mul_eq_zero.mp this with x | x
    · exact vz x
    · exact hy0 x
  have nyz : - y 0 ≠ 0 := fun h => hy0 (by grind)
  have cancel : 1 / (- y 0) * (- y 0) = 1 := Rat.div_mul_cancel nyz
  refine pb_of O hD (V := - (w 0 * d)) (Int.neg_ne_zero.mpr nz) ?_ fun j hj => ?_
  · rw [Int.natAbs_neg, Int.natAbs_mul]
    refine lt_of_le2 (a := 744 + 40) ?_ (by omega)
    rw [Nat.pow_add]
    exact Nat.mul_le_mul b0 d1
  · have key : ((- (w 0 * d) : Int) : Rat) = (V : Rat) * (- y 0) := by
      rw [Rat.intCast_neg, Rat.intCast_mul, ← e0]; grind
    have k2 : ∀ x : Rat, ((- (w 0 * d) : Int) : Rat) * (1 / (- y 0) * x) = V * x := fun x => by
      rw [key]
      have : (V : Rat) * (- y 0) * (1 / (- y 0) * x) = V * ((1 / (- y 0) * (- y 0)) * x) := by grind
      rw [this, cancel, Rat.one_mul]
    rw [k2]
    unfold pap
    by_cases e : z.p j = true
    · rw [if_pos e]
      obtain ⟨a, b⟩ := sel_rank hj e
      obtain ⟨e1, b1⟩ := hy (2 + (sel z.p j).length) (by
        have a' : (sel z.p j).length < z.rl.length := a
        omega)
      rw [if_neg (by omega), if_neg (by omega), show 2 + (sel z.p j).length - 2 = (sel z.p j).length by omega] at e1
      have er : z.row (sel z.p j).length = j := b
      rw [er] at e1
      exact ⟨_, e1, b1⟩
    · rw [if_neg e]
      have i0 : ((0 : Int) : Rat) = 0 := rfl
      exact ⟨0, by rw [i0, Rat.mul_zero, Rat.zero_mul], Nat.zero_le _⟩
end Nd
end BB
namespace BB
open PySem PySem.Spec PyProof.Rows L2
/-! ### what stands for what: predicates of heap and value that stay while the heap grows -/
structure Rp where
  p : Hp → V → Prop
  mono : ∀ {H H' : Hp} {v : V}, Same H H' → p H v → p H' v
theorem seqT {K : PySem.W.Frag} {H H' : Hp} {a : Addr} {xs : List V} (e : Same H H') (h : SqT K H a xs) : SqT K H' a xs := by
  rcases h with (h | ⟨o, h⟩) | h
  · exact .inl (.inl (e _ _ h))
  · exact .inl (.inr ⟨o, e _ _ h⟩)
  · exact .inr h
/-- the heap without the places N -/
def hid (H : Hp) (N : List Addr) : Hp := fun b => if b ∈ N then none else H b
theorem hid_same {H H' : Hp} {N : List Addr} (s : Same H H') : Same (hid H N) (hid H' N) := fun b o e => by
  unfold hid at e ⊢
  by_cases z : b ∈ N
  · rw [if_pos z] at e; cases e
  · rw [if_neg z] at e ⊢; exact s b o e
theorem hid_sub {H : Hp} {N : List Addr} : Same (hid H N) H := fun b o e => by
  unfold hid at e
  by_cases z : b ∈ N
  · rw [if_pos z] at e; cases e
  · rw [if_neg z] at e; exact e
theorem hid_le {H : Hp} {N N' : List Addr} (h : ∀ a, a ∈ N → a ∈ N') : Same (hid H N') (hid H N) := fun b o e => by
  unfold hid at e ⊢
  by_cases z : b ∈ N'
  · rw [if_pos z] at e; cases e
  · rw [if_neg z] at e
    rw [if_neg fun y => z (h b y)]; exact e
theorem hid_out {H : Hp} {N : List Addr} {p : Addr} {o : HO} (h : p ∉ N) (e : H p = some o) : hid H N p = some o := by
  unfold hid
  rw [if_neg h]; exact e
theorem hid_upd {H : Hp} {N : List Addr} {p : Addr} {o : HO} (h : p ∈ N) : hid (upd H p o) N = hid H N := by
  funext b
  unfold hid
  by_cases z : b ∈ N
  · rw [if_pos z, if_pos z]
  · rw [if_neg z, if_neg z, upd_ne fun y => z (by rw [y]; exact h)]
theorem same_new {H : Hp} {p : Addr} {o : HO} (h : H p = none) : Same H (upd H p o) := fun b x e => by
  rw [upd_ne (ne_of_none e h)]
  exact e
/-- a new place: what is seen ahead of it is seen behind it, the place left out -/
theorem hid_fresh {H H' : Hp} {N : List Addr} {p : Addr} (s : Same H H') (h : H p = none) : Same (hid H N) (hid H' (p :: N)) := fun b o e => by
  unfold hid at e ⊢
  by_cases z : b ∈ N
  · rw [if_pos z] at e; cases e
  · rw [if_neg z] at e
    have ne : b ≠ p := ne_of_none e h
    rw [if_neg fun y => (List.mem_cons.mp y).elim ne z]
    exact s b o e
def It (i : Int) : Rp := ⟨fun _ v => v = .int i, fun _ h => h⟩
abbrev Nt (n : Nat) : Rp := It (n : Int)
def Bo (b : Bool) : Rp := ⟨fun _ v => v = .bl b, fun _ h => h⟩
def No : Rp := ⟨fun _ v => v = .non, fun _ h => h⟩
def Sr (z : Str) : Rp := ⟨fun _ v => v = .str z, fun _ h => h⟩
def Pt (a : Addr) : Rp := ⟨fun _ v => v = .ref a, fun _ h => h⟩
def Ay : Rp := ⟨fun _ _ => True, fun _ h => h⟩
/-- values one by one -/
def AL : List Rp → Hp → List V → Prop
  | [], _, vs => vs = []
  | R :: Rs, H, vs => ∃ v r, vs = v :: r ∧ R.p H v ∧ AL Rs H r
theorem AL.mono {H H' : Hp} (s : Same H H') : ∀ {Rs : List Rp} {vs : List V}, AL Rs H vs → AL Rs H' vs
  | [], _, h => h
  | R :: _, _, ⟨v, r, e, h, t⟩ => ⟨v, r, e, R.mono s h, AL.mono s t⟩
theorem AL.length {H : Hp} : ∀ {Rs : List Rp} {vs : List V}, AL Rs H vs → vs.length = Rs.length
  | [], _, h => by rw [show _ = [] from h]; rfl
  | _ :: _, _, ⟨v, r, e, _, t⟩ => by rw [e, List.length_cons, List.length_cons, AL.length t]
theorem AL.get {H : Hp} : ∀ {Rs : List Rp} {vs : List V} {i : Nat} {R : Rp}, AL Rs H vs → Rs[i]? = some R → ∃ v, vs[i]? = some v ∧ R.p H v
  | [], _, _, _, _, e => by simp at e
  | _ :: _, _, 0, _, ⟨v, r, e, h, _⟩, q => by
    have : _ = _ := Option.some.inj q
    subst this
    exact ⟨v, by rw [e]; rfl, h⟩
  | _ :: _, _, i + 1, R, ⟨v, r, e, _, t⟩, q => by
    obtain ⟨u, h1, h2⟩ := AL.get (i := i) t (by simpa using q)
    exact ⟨u, by rw [e]; simpa using h1, h2⟩
/-- a tuple, a list of n items -/
def Tp (K : PySem.W.Frag) (Rs : List Rp) : Rp := ⟨fun H v => ∃ a vs, v = .ref a ∧ SqT K H a vs ∧ AL Rs H vs, fun s ⟨a, vs, e, h, q⟩ => ⟨a, vs, e, seqT s h, q.mono s⟩⟩
def Li (n : Nat) (R : Nat → Rp) : Rp := ⟨fun H v => ∃ a vs, v = .ref a ∧ H a = some (.lst vs) ∧ vs.length = n ∧ ∀ k x, vs[k]? = some x → (R k).p H x,
  fun s ⟨a, vs, e, h, l, q⟩ => ⟨a, vs, e, s _ _ h, l, fun k x z => (R k).mono s (q k x z)⟩⟩
/-- a fraction -/
def Fr (K : PySem.W.Frag) (x : Rat) : Rp := Tp K [It x.num, It (x.den : Int)]
/-- some datum with P -/
def Exr {α : Type} (P : α → Prop) (R : α → Rp) : Rp := ⟨fun H v => ∃ z, P z ∧ (R z).p H v, fun s ⟨z, h, q⟩ => ⟨z, h, (R z).mono s q⟩⟩
/-- a number or None -/
def On (o : Option Nat) : Rp := match o with
  | none => No
  | some n => Nt n
/-- True, False or None -/
def Ob (o : Option Bool) : Rp := match o with
  | none => No
  | some b => Bo b
/-! ### where one stands -/
abbrev Mt : Type := List (Addr × Nat × (Nat → Rp))
abbrev adr (M : Mt) : List Addr := M.map (·.1)
/-- H0: the heap at the def's entry; N: places not to be seen; M: lists of one's own that change; Γ: the slots -/
structure Sta where
  H0 : Hp
  N : List Addr
  M : Mt
  Γ : List (Option Rp)
def Sta.hd (S : Sta) : List Addr := adr S.M ++ S.N
abbrev Sta.set (S : Sta) (i : Nat) (R : Rp) : Sta := { S with Γ := S.Γ.set i (some R) }
def LM (M : Mt) (G H : Hp) : Prop := ∀ q ∈ M, ∃ vs, H q.1 = some (.lst vs) ∧ vs.length = q.2.1 ∧ ∀ k x, vs[k]? = some x → (q.2.2 k).p G x
structure Stt (S : Sta) (σ : L2.St) (H : Hp) : Prop where
  same : Same S.H0 H
  nold : ∀ a ∈ S.N, S.H0 a ≠ none
  mnew : ∀ q ∈ S.M, S.H0 q.1 = none
  mem : LM S.M (hid H S.hd) H
  len : σ.length = S.Γ.length
  sl : ∀ (i : Nat) (R : Rp), S.Γ[i]? = some (some R) → ∃ v, σ[i]? = some (some v) ∧ R.p (hid H S.hd) v
  nd : (adr S.M).Nodup
section
variable {S S' : Sta} {σ : L2.St} {H H' : Hp}
theorem Stt.mono (h : Stt S σ H) (s : Same H H') : Stt S σ H' :=
  ⟨h.same.trans s, h.nold, h.mnew, fun q hq => by
    obtain ⟨vs, e, l, f⟩ := h.mem q hq
    exact ⟨vs, s _ _ e, l, fun k x z => (q.2.2 k).mono (hid_same s) (f k x z)⟩, h.len, fun i R e => by
    obtain ⟨v, e1, e2⟩ := h.sl i R e
    exact ⟨v, e1, R.mono (hid_same s) e2⟩, h.nd⟩
/-- the hidden places are all in use -/
theorem Stt.used (h : Stt S σ H) : ∀ a ∈ S.hd, H a ≠ none := fun a ha z => by
  rcases List.mem_append.mp ha with m | m
  · obtain ⟨q, hq, e⟩ := List.mem_map.mp m
    obtain ⟨vs, e2, _⟩ := h.mem q hq
    rw [e, z] at e2; cases e2
  · cases e : S.H0 a with
    | none => exact h.nold a m e
    | some o =>
      have := h.same a o e
      rw [z] at this; cases this
theorem Stt.set (h : Stt S σ H) {i : Nat} {R : Rp} {v : V} (r : R.p (hid H S.hd) v) : Stt (S.set i R) (σ.set i (some v)) H :=
  ⟨h.same, h.nold, h.mnew, h.mem, by rw [List.length_set, List.length_set]; exact h.len, fun j R' e => by
    by_cases z : i = j
    · subst z
      by_cases y : i < S.Γ.length
      · rw [List.getElem?_set_self y] at e
        have e1 : R = R' := Option.some.inj (Option.some.inj e)
        subst e1
        exact ⟨v, by rw [List.getElem?_set_self (by rw [h.len]; exact y)], r⟩
      · rw [List.getElem?_eq_none (by rw [List.length_set]; omega)] at e; cases e
    · rw [List.getElem?_set_ne z] at e
      obtain ⟨u, e1, e2⟩ := h.sl j R' e
      exact ⟨u, by rw [List.getElem?_set_ne z]; exact e1, e2⟩, h.nd⟩
/-- a slot forgotten -/
theorem Stt.drop (h : Stt S σ H) {i : Nat} : Stt { S with Γ := S.Γ.set i none } (σ.set i none) H :=
  ⟨h.same, h.nold, h.mnew, h.mem, by rw [List.length_set, List.length_set]; exact h.len, fun j R' e => by
    by_cases z : i = j
    · subst z
      by_cases y : i < S.Γ.length
      · rw [List.getElem?_set_self y] at e
        cases Option.some.inj e
      · rw [List.getElem?_eq_none (by rw [List.length_set]; omega)] at e; cases e
    · rw [List.getElem?_set_ne z] at e
      obtain ⟨u, e1, e2⟩ := h.sl j R' e
      exact ⟨u, by rw [List.getElem?_set_ne z]; exact e1, e2⟩, h.nd⟩
/-- less known of the slots -/
theorem Stt.weak (h : Stt S σ H) {Γ' : List (Option Rp)} (hl : Γ'.length = S.Γ.length) (hw : ∀ (i : Nat) (R' : Rp), Γ'[i]? = some (some R') → ∃ R : Rp, S.Γ[i]? = some (some R) ∧ ∀ H v, R.p H v → R'.p H v) : Stt { S with Γ := Γ' } σ H :=
  ⟨h.same, h.nold, h.mnew, h.mem, by rw [h.len, hl], fun i R' e => by
    obtain ⟨R, e1, f⟩ := hw i R' e
    obtain ⟨v, e2, e3⟩ := h.sl i R e1
    exact ⟨v, e2, f _ _ e3⟩, h.nd⟩
end
/-! ### expressions -/
def EV (S : Sta) (te : TE) (R : Rp) : Prop := ∀ σ H, Stt S σ H → ∀ Q : VK, (∀ v H', Same H H' → R.p (hid H' S.hd) v → Q v H') → te σ H Q
/-- a new list -/
def EVN (S : Sta) (te : TE) (n : Nat) (R : Nat → Rp) : Prop := ∀ σ H, Stt S σ H → ∀ Q : VK, (∀ p vs H', Same H H' → H p = none → H' p = some (.lst vs) → vs.length = n → (∀ k x, vs[k]? = some x → (R k).p (hid H' (p :: S.hd)) x) → Q (.ref p) H') → te σ H Q
def EVA (S : Sta) (ta : TA) (Rs : List Rp) : Prop := ∀ σ H, Stt S σ H → ∀ Q : List V → Hp → Prop, (∀ vs H', Same H H' → AL Rs (hid H' S.hd) vs → Q vs H') → ta σ H Q
def ET (S : Sta) (tt : TT) (b : Bool) : Prop := ∀ σ H, Stt S σ H → ∀ Q : Bool → Hp → Prop, (∀ H', Same H H' → Q b H') → tt σ H Q
/-- an operation on two values, on one, a call on values -/
def OT (r : R2) (R1 R2' R : Rp) : Prop := ∀ (H : Hp) (N : List Addr) (x y : V) (Q : VK), (∀ a ∈ N, H a ≠ none) → R1.p (hid H N) x → R2'.p (hid H N) y → (∀ v H', Same H H' → R.p (hid H' N) v → Q v H') → r x y H Q
def UT (r : V → Hp → VK → Prop) (R1 R : Rp) : Prop := ∀ (H : Hp) (N : List Addr) (x : V) (Q : VK), (∀ a ∈ N, H a ≠ none) → R1.p (hid H N) x → (∀ v H', Same H H' → R.p (hid H' N) v → Q v H') → r x H Q
def CT (r : List V → Hp → VK → Prop) (Rs : List Rp) (R : Rp) : Prop := ∀ (H : Hp) (N : List Addr) (xs : List V) (Q : VK), (∀ a ∈ N, H a ≠ none) → AL Rs (hid H N) xs → (∀ v H', Same H H' → R.p (hid H' N) v → Q v H') → r xs H Q
section
variable {S : Sta} {te ta tb : TE} {R R1 R2' R' : Rp} {i : Nat}
theorem ev_var (h : S.Γ[i]? = some (some R)) : EV S (tVar i) R := fun σ H st Q q => by
  obtain ⟨v, e, r⟩ := st.sl i R h
  exact ⟨v, e, q v H (Same.refl H) r⟩
theorem ev_c {v : V} (h : ∀ H, R.p H v) : EV S (tC v) R := fun σ H _ Q q => q v H (Same.refl H) (h _)
theorem ev_sub (h : EV S te R) (w : ∀ H v, R.p H v → R'.p H v) : EV S te R' := fun σ H st Q q => h σ H st Q fun v H' s r => q v H' s (w _ _ r)
theorem ev_eq (h : EV S te R) (e : R = R') : EV S te R' := e ▸ h
theorem ev_int {j : Int} : EV S (tC (.int j)) (It j) := ev_c fun _ => rfl
theorem ev_bl {b : Bool} : EV S (tC (.bl b)) (Bo b) := ev_c fun _ => rfl
theorem ev_non : EV S (tC .non) No := ev_c fun _ => rfl
theorem ev_str {z : Str} : EV S (tC (.str z)) (Sr z) := ev_c fun _ => rfl
theorem ev_op {r : R2} (ho : OT r R1 R2' R) (ha : EV S ta R1) (hb : EV S tb R2') : EV S (tOp r ta tb) R := fun σ H st Q q =>
  ha σ H st _ fun x H1 s1 r1 => hb σ H1 (st.mono s1) _ fun y H2 s2 r2 => ho H2 S.hd x y Q ((st.mono s1).mono s2).used (R1.mono (hid_same s2) r1) r2 fun v H3 s3 r3 => q v H3 ((s1.trans s2).trans s3) r3
theorem ev_un {r : V → Hp → VK → Prop} (ho : UT r R1 R) (ha : EV S ta R1) : EV S (tUn r ta) R := fun σ H st Q q =>
  ha σ H st _ fun x H1 s1 r1 => ho H1 S.hd x Q (st.mono s1).used r1 fun v H3 s3 r3 => q v H3 (s1.trans s3) r3
theorem eva_nil : EVA S tNil [] := fun σ H _ Q q => q [] H (Same.refl H) rfl
theorem eva_cons {t : TA} {Rs : List Rp} (ha : EV S ta R) (hr : EVA S t Rs) : EVA S (tCons ta t) (R :: Rs) := fun σ H st Q q =>
  ha σ H st _ fun x H1 s1 r1 => hr σ H1 (st.mono s1) _ fun xs H2 s2 r2 => q (x :: xs) H2 (s1.trans s2) ⟨x, xs, rfl, R.mono (hid_same s2) r1, r2⟩
theorem ev_cb {r : List V → Hp → VK → Prop} {t : TA} {Rs : List Rp} (ho : CT r Rs R) (ha : EVA S t Rs) : EV S (tCB r t) R := fun σ H st Q q =>
  ha σ H st _ fun xs H1 s1 r1 => ho H1 S.hd xs Q (st.mono s1).used r1 fun v H3 s3 r3 => q v H3 (s1.trans s3) r3
theorem ev_tup {K : PySem.W.Frag} {t : TA} {Rs : List Rp} (ha : EVA S t Rs) (hl : Rs.length ≤ 1000 := by exact Nat.le_of_ble_eq_true rfl) : EV S (tTup t) (Tp K Rs) := fun σ H st Q q =>
  ha σ H st _ fun xs H1 s1 r1 => ⟨by rw [r1.length]; exact Nat.le_of_lt (small1000 hl), fun p hp => by
    have np : p ∉ S.hd := fun z => (st.mono s1).used p z hp
    have s2 : Same H1 (upd H1 p (.tup xs)) := same_new hp
    exact q _ _ (s1.trans s2) ⟨p, xs, rfl, .inl (.inl (hid_out np upd_same)), r1.mono (hid_same s2)⟩⟩
theorem EVN.ev {n : Nat} {f : Nat → Rp} (h : EVN S te n f) : EV S te (Li n f) := fun σ H st Q q =>
  h σ H st Q fun p vs H' s hp e l f => q _ _ s ⟨p, vs, rfl, hid_out (fun z => st.used p z hp) e, l, fun k x z => (_ : Rp).mono (hid_le fun a ha => List.mem_cons_of_mem _ ha) (f k x z)⟩
theorem evn_lst {t : TA} {Rs : List Rp} (ha : EVA S t Rs) (hl : Rs.length ≤ 1000 := by exact Nat.le_of_ble_eq_true rfl) : EVN S (tLst t) Rs.length (fun k => Rs.getD k Ay) := fun σ H st Q q =>
  ha σ H st _ fun xs H1 s1 r1 => ⟨by rw [r1.length]; exact Nat.le_of_lt (small1000 hl), fun p hp => by
    have s2 : Same H1 (upd H1 p (.lst xs)) := same_new hp
    have hp0 : H p = none := s1.free hp
    refine q p xs _ (s1.trans s2) hp0 upd_same r1.length fun k x e => ?_
    have hk : k < Rs.length := by rw [← r1.length]; exact (List.getElem?_eq_some_iff.mp e).1
    obtain ⟨v, e1, e2⟩ := r1.get (i := k) (R := Rs[k]) (List.getElem?_eq_getElem hk)
    rw [e] at e1
    cases e1
    have : Rs.getD k Ay = Rs[k] := by simp [List.getD, List.getElem?_eq_getElem hk]
    show (Rs.getD k Ay).p _ x
    rw [this]
    exact (Rs[k]).mono (hid_fresh s2 hp) e2⟩
theorem evn_eq {n m : Nat} {f g : Nat → Rp} (h : EVN S te n f) (e : n = m) (w : ∀ k, k < n → f k = g k) : EVN S te m g := fun σ H st Q q =>
  h σ H st Q fun p vs H' s hp e1 l r => q p vs H' s hp e1 (by rw [l, e]) fun k x z => by
    rw [← w k (by rw [← l]; exact (List.getElem?_eq_some_iff.mp z).1)]
    exact r k x z
/-- tests -/
theorem et_test {b : Bool} (h : EV S te (Bo b)) : ET S (tTest te) b := fun σ H st Q q => h σ H st _ fun v H' s r => ⟨b, r, q H' s⟩
theorem et_B {b : Bool} (h : EV S te (Bo b)) : ET S (tB te) b := fun σ H st Q q => h σ H st _ fun v H' s r => ⟨b, r, q H' s⟩
theorem et_and {t u : TT} {a b : Bool} (h1 : ET S t a) (h2 : a = true → ET S u b) : ET S (tAnd t u) (a && b) := fun σ H st Q q => h1 σ H st _ fun H1 s1 => by
  cases a with
  | true => exact h2 rfl σ H1 (st.mono s1) Q fun H2 s2 => q H2 (s1.trans s2)
  | false => exact q H1 s1
theorem et_or {t u : TT} {a b : Bool} (h1 : ET S t a) (h2 : a = false → ET S u b) : ET S (tOr t u) (a || b) := fun σ H st Q q => h1 σ H st _ fun H1 s1 => by
  cases a with
  | true => exact q H1 s1
  | false => exact h2 rfl σ H1 (st.mono s1) Q fun H2 s2 => q H2 (s1.trans s2)
theorem et_not {t : TT} {a : Bool} (h1 : ET S t a) : ET S (tNot t) (!a) := fun σ H st Q q => h1 σ H st _ fun H1 s1 => q H1 s1
theorem et_eq {t : TT} {a b : Bool} (h : ET S t a) (e : a = b) : ET S t b := e ▸ h
theorem ev_if {t : TT} {b : Bool} (ht : ET S t b) (h1 : b = true → EV S ta R) (h2 : b = false → EV S tb R) : EV S (tIf t ta tb) R := fun σ H st Q q => ht σ H st _ fun H1 s1 => by
  cases b with
  | true => exact h1 rfl σ H1 (st.mono s1) Q fun v H2 s2 r => q v H2 (s1.trans s2) r
  | false => exact h2 rfl σ H1 (st.mono s1) Q fun v H2 s2 r => q v H2 (s1.trans s2) r
theorem ev_andV {a b : Bool} (h1 : EV S ta (Bo a)) (h2 : a = true → EV S tb (Bo b)) : EV S (tAndV ta tb) (Bo (a && b)) := fun σ H st Q q => h1 σ H st _ fun v H1 s1 r => ⟨a, r, by
  cases a with
  | true => exact h2 rfl σ H1 (st.mono s1) Q fun v H2 s2 r => q v H2 (s1.trans s2) r
  | false => exact q _ H1 s1 rfl⟩
theorem ev_orV {a b : Bool} (h1 : EV S ta (Bo a)) (h2 : a = false → EV S tb (Bo b)) : EV S (tOrV ta tb) (Bo (a || b)) := fun σ H st Q q => h1 σ H st _ fun v H1 s1 r => ⟨a, r, by
  cases a with
  | true => exact q _ H1 s1 rfl
  | false => exact h2 rfl σ H1 (st.mono s1) Q fun v H2 s2 r => q v H2 (s1.trans s2) r⟩
theorem ev_notV {a : Bool} (h1 : EV S ta (Bo a)) : EV S (tNotV ta) (Bo (!a)) := fun σ H st Q q => h1 σ H st _ fun v H1 s1 r => ⟨a, r, q _ H1 s1 rfl⟩
end
/-! ### operations by what they stand for -/
theorem ot_I0 {g : Int → Int → Int} {i j : Int} : OT (rI0 fun i j => .int (g i j)) (It i) (It j) (It (g i j)) := fun H N x y Q _ rx ry q => ⟨i, j, rx, ry, q _ H (Same.refl H) rfl⟩
theorem ot_B0 {g : Int → Int → Bool} {i j : Int} : OT (rI0 fun i j => .bl (g i j)) (It i) (It j) (Bo (g i j)) := fun H N x y Q _ rx ry q => ⟨i, j, rx, ry, q _ H (Same.refl H) rfl⟩
theorem ot_I {C : Int → Int → Prop} {g : Int → Int → Int} {i j : Int} (h : C i j) : OT (rI C fun i j => .int (g i j)) (It i) (It j) (It (g i j)) := fun H N x y Q _ rx ry q => ⟨i, j, rx, ry, h, q _ H (Same.refl H) rfl⟩
theorem ut_neg {i : Int} : UT (rU fun i => .int (-i)) (It i) (It (-i)) := fun H N x Q _ rx q => ⟨i, rx, q _ H (Same.refl H) rfl⟩
theorem ot_eqI {i j : Int} : OT rEq (It i) (It j) (Bo (decide (i = j))) := fun H N x y Q _ rx ry q => by
  cases rx; cases ry
  exact ⟨rfl, q _ H (Same.refl H) (by
    show V.bl _ = V.bl _
    congr 1
    exact decide_eq_decide.mpr ⟨fun z => by cases z; rfl, fun z => by rw [z]⟩)⟩
theorem ot_neI {i j : Int} : OT rNe (It i) (It j) (Bo (!decide (i = j))) := fun H N x y Q _ rx ry q => by
  cases rx; cases ry
  exact ⟨rfl, q _ H (Same.refl H) (by
    show V.bl _ = V.bl _
    congr 2
    exact decide_eq_decide.mpr ⟨fun z => by cases z; rfl, fun z => by rw [z]⟩)⟩
theorem ot_eqS {i j : Str} : OT rEq (Sr i) (Sr j) (Bo (decide (i = j))) := fun H N x y Q _ rx ry q => by
  cases rx; cases ry
  exact ⟨rfl, q _ H (Same.refl H) (by
    show V.bl _ = V.bl _
    congr 1
    exact decide_eq_decide.mpr ⟨fun z => by cases z; rfl, fun z => by rw [z]⟩)⟩
theorem ot_neS {i j : Str} : OT rNe (Sr i) (Sr j) (Bo (!decide (i = j))) := fun H N x y Q _ rx ry q => by
  cases rx; cases ry
  exact ⟨rfl, q _ H (Same.refl H) (by
    show V.bl _ = V.bl _
    congr 2
    exact decide_eq_decide.mpr ⟨fun z => by cases z; rfl, fun z => by rw [z]⟩)⟩
/-- is None -/
abbrev rIsNn : R2 := fun x y H Q => y = .non ∧ Q (.bl (decide (x = .non))) H
abbrev rNotNn : R2 := fun x y H Q => y = .non ∧ Q (.bl (!decide (x = .non))) H
theorem ot_isN {R : Rp} {b : Bool} (h : ∀ H v, R.p H v → (decide (v = .non)) = b) : OT rIsNn R No (Bo b) := fun H N x y Q _ rx ry q => ⟨ry, q _ H (Same.refl H) (by rw [h _ _ rx]; rfl)⟩
theorem ot_notN {R : Rp} {b : Bool} (h : ∀ H v, R.p H v → (decide (v = .non)) = b) : OT rNotNn R No (Bo (!b)) := fun H N x y Q _ rx ry q => ⟨ry, q _ H (Same.refl H) (by rw [h _ _ rx]; rfl)⟩
theorem on_none {o : Option Nat} (H : Hp) (v : V) (h : (On o).p H v) : decide (v = .non) = o.isNone := by
  cases o with
  | none => rw [show v = .non from h]; rfl
  | some n => rw [show v = .int n from h]; rfl
theorem ob_none {o : Option Bool} (H : Hp) (v : V) (h : (Ob o).p H v) : decide (v = .non) = o.isNone := by
  cases o with
  | none => rw [show v = .non from h]; rfl
  | some n => rw [show v = .bl n from h]; rfl
theorem ref_none {v : V} {a : Addr} (h : v = .ref a) : decide (v = .non) = false := by rw [h]; rfl
theorem tp_none {K : PySem.W.Frag} {Rs : List Rp} (H : Hp) (v : V) (h : (Tp K Rs).p H v) : decide (v = .non) = false := by
  obtain ⟨a, _, e, _⟩ := h
  exact ref_none e
/-- items -/
theorem ot_ixT {K : PySem.W.Frag} {Rs : List Rp} {k : Nat} {R : Rp} {i : Int} (hi : i = (k : Int)) (h : Rs[k]? = some R) : OT (rIxT K) (Tp K Rs) (It i) R := fun H N x y Q _ ⟨a, vs, e, hs, hl⟩ ry q => by
  obtain ⟨v, e1, e2⟩ := hl.get h
  exact ⟨a, vs, i, v, e, ry, seqT hid_sub hs, by rw [hi]; exact atI_nat e1, q v H (Same.refl H) e2⟩
theorem ot_ixL {K : PySem.W.Frag} {n : Nat} {R : Nat → Rp} {k : Nat} {i : Int} (hi : i = (k : Int)) (h : k < n) : OT (rIxL K) (Li n R) (It i) (R k) := fun H N x y Q _ ⟨a, vs, e, hs, hl, f⟩ ry q => by
  have e1 : vs[k]? = some (vs[k]'(by omega)) := List.getElem?_eq_getElem (by omega)
  exact ⟨a, vs, i, _, e, ry, .inl (.inl (hid_sub _ _ hs)), by rw [hi]; exact atI_nat e1, q _ H (Same.refl H) (f k _ e1)⟩
theorem atI_neg {xs : List V} {k : Nat} {v : V} (hk : 0 < k) (hl : k ≤ xs.length) (h : xs[xs.length - k]? = some v) : atI xs (-(k : Int)) = some v := by
  unfold atI ixN
  rw [if_neg (by omega), if_pos (by omega)]
  have : (-(k : Int) + (xs.length : Int)).toNat = xs.length - k := by omega
  rw [this]
  exact h
theorem ot_ixLast {K : PySem.W.Frag} {n : Nat} {R : Nat → Rp} : OT (rIxL K) (Li (n + 1) R) (It (-1)) (R n) := fun H N x y Q _ ⟨a, vs, e, hs, hl, f⟩ ry q => by
  have e1 : vs[n]? = some (vs[n]'(by omega)) := List.getElem?_eq_getElem (by omega)
  exact ⟨a, vs, -1, _, e, ry, .inl (.inl (hid_sub _ _ hs)), atI_neg (k := 1) (by omega) (by omega) (by rw [show vs.length - 1 = n by omega]; exact e1), q _ H (Same.refl H) (f n _ e1)⟩
abbrev rLenQ (K : PySem.W.Frag) : List V → Hp → VK → Prop := fun xs H Q => ∃ p ys, xs = [.ref p] ∧ (SqL K H p ys ∨ SqT K H p ys) ∧ Q (.int ys.length) H
theorem ct_len {K : PySem.W.Frag} {n : Nat} {R : Nat → Rp} : CT (rLenQ K) [Li n R] (Nt n) := fun H N xs Q _ ⟨v, r, e, ⟨a, vs, e1, hs, hl, _⟩, e2⟩ q => by
  subst e1 e2 e
  exact ⟨a, vs, rfl, .inl (.inl (.inl (hid_sub _ _ hs))), q _ H (Same.refl H) (by rw [hl]; rfl)⟩
theorem ct_lenT {K : PySem.W.Frag} {Rs : List Rp} : CT (rLenQ K) [Tp K Rs] (Nt Rs.length) := fun H N xs Q _ ⟨v, r, e, ⟨a, vs, e1, hs, hl⟩, e2⟩ q => by
  subst e1 e2 e
  exact ⟨a, vs, rfl, .inr (seqT hid_sub hs), q _ H (Same.refl H) (by rw [hl.length]; rfl)⟩
abbrev rInt1 : List V → Hp → VK → Prop := fun xs H Q => (∃ i, xs = [.int i] ∧ Q (.int i) H) ∨ ∃ k, xs = [.bl k] ∧ Q (.int (if k then 1 else 0)) H
theorem ct_int {i : Int} : CT rInt1 [It i] (It i) := fun H N xs Q _ ⟨v, r, e, e1, e2⟩ q => by
  have e1' : v = .int i := e1
  have e2' : r = [] := e2
  subst e1' e2' e
  exact .inl ⟨i, rfl, q _ H (Same.refl H) rfl⟩
abbrev rListQ (K : PySem.W.Frag) : List V → Hp → VK → Prop := fun xs H Q => ∃ p ys, xs = [.ref p] ∧ (SqL K H p ys ∨ SqT K H p ys) ∧ ∀ l, H l = none → Q (.ref l) (upd H l (.lst ys))
theorem evn_list {S : Sta} {K : PySem.W.Frag} {te : TE} {n : Nat} {R : Nat → Rp} (h : EV S te (Li n R)) : EVN S (tCB (rListQ K) (tCons te tNil)) n R := fun σ H st Q q =>
  h σ H st _ fun v H1 s1 ⟨a, vs, e1, hs, hl, f⟩ => by
    subst e1
    refine ⟨a, vs, rfl, .inl (.inl (.inl (hid_sub _ _ hs))), fun p hp => ?_⟩
    have s2 : Same H1 (upd H1 p (.lst vs)) := same_new hp
    exact q p vs _ (s1.trans s2) (s1.free hp) upd_same hl fun k x z => (R k).mono (hid_fresh s2 hp) (f k x z)
def glue (n : Nat) (R R' : Nat → Rp) : Nat → Rp := fun k => if k < n then R k else R' (k - n)
theorem evn_cat {S : Sta} {ta tb : TE} {n m : Nat} {R R' : Nat → Rp} (ha : EV S ta (Li n R)) (hb : EV S tb (Li m R')) (hl : n + m ≤ 1000) : EVN S (tOp rCat ta tb) (n + m) (glue n R R') := fun σ H st Q q =>
  ha σ H st _ fun v H1 s1 r1 => hb σ H1 (st.mono s1) _ fun u H2 s2 ⟨b, us, e2, hs2, hl2, f2⟩ => by
    obtain ⟨a, vs, e1, hs1, hl1, f1⟩ := (Li n R).mono (hid_same s2) r1
    refine ⟨a, b, vs, us, e1, e2, hid_sub _ _ hs1, hid_sub _ _ hs2, by rw [hl1, hl2]; exact Nat.le_of_lt (small1000 hl), fun p hp => ?_⟩
    have s3 : Same H2 (upd H2 p (.lst (vs ++ us))) := same_new hp
    refine q p _ _ ((s1.trans s2).trans s3) ((s1.trans s2).free hp) upd_same (by rw [List.length_append, hl1, hl2]) fun k x z => ?_
    unfold glue
    by_cases e : k < n
    · rw [if_pos e]
      rw [List.getElem?_append_left (by omega)] at z
      exact (R k).mono (hid_fresh s3 hp) (f1 k x z)
    · rw [if_neg e]
      rw [List.getElem?_append_right (by omega), hl1] at z
      exact (R' (k - n)).mono (hid_fresh s3 hp) (f2 _ x z)
/-! ### calls -/
def spR {α : Type} (pre : α → List Rp) (side : α → Prop) (post : α → Rp) : Sp := fun vs H Q _ => ∃ (x : α) (N : List Addr), (∀ a ∈ N, H a ≠ none) ∧ side x ∧ AL (pre x) (hid H N) vs ∧ ∀ v H', Same H H' → (post x).p (hid H' N) v → Q v H'
theorem ev_call {S : Sta} {α : Type} {pre : α → List Rp} {side : α → Prop} {post : α → Rp} {E : XK} {t : TA} (x : α) (ha : EVA S t (pre x)) (hs : side x) : EV S (tCall (spR pre side post) [] E t) (post x) := fun σ H st Q q =>
  ha σ H st _ fun vs H1 s1 r1 => ⟨x, S.hd, (st.mono s1).used, hs, by rw [List.append_nil]; exact r1, fun v H2 s2 r2 => q v H2 (s1.trans s2) r2⟩
/-! ### comprehensions -/
abbrev Sta.lc (S : Sta) (D : Addr) (k : Nat) (R : Nat → Rp) (i : Nat) (Rx : Rp) : Sta := { S with M := (D, k, R) :: S.M, Γ := (S.Γ.set i none).set i (some Rx) }
theorem wipe1 (σ : L2.St) (i : Nat) (x : V) : wipe ((wipe σ [i]).set i (some x)) [i] = wipe σ [i] := by
  show ((σ.set i none).set i (some x)).set i none = σ.set i none
  rw [List.set_set, List.set_set]
/-- the new list grows by an item -/
theorem Stt.grow {S : Sta} {σ : L2.St} {H H4 : Hp} {D : Addr} {k : Nat} {R : Nat → Rp} {acc : List V} {y : V} (st : Stt S σ H) (hD0 : H D = none) (s : Same H H4) (h : H4 D = some (.lst acc)) (hl : acc.length = k) (f : ∀ j x, acc[j]? = some x → (R j).p (hid H4 (D :: S.hd)) x)
    (r : (R k).p (hid H4 (D :: S.hd)) y) : (acc ++ [y]).length = k + 1 ∧ ∀ j x, (acc ++ [y])[j]? = some x → (R j).p (hid (upd H4 D (.lst (acc ++ [y]))) (D :: S.hd)) x := by
  refine ⟨by rw [List.length_append, hl]; rfl, fun j x z => ?_⟩
  rw [hid_upd (List.mem_cons_self ..)]
  by_cases e : j < k
  · rw [List.getElem?_append_left (by omega)] at z
    exact f j x z
  · rw [List.getElem?_append_right (by omega), hl] at z
    have : j = k := by
      have := (List.getElem?_eq_some_iff.mp z).1
      simp at this
      omega
    subst this
    have e2 : y = x := by simpa using z
    rw [← e2]; exact r
theorem Stt.inlc {S : Sta} {σ : L2.St} {H H3 : Hp} {D : Addr} {k i : Nat} {R : Nat → Rp} {Rx : Rp} {x : V} {acc : List V} (st : Stt S σ H) (hD0 : H D = none) (s : Same H H3) (h : H3 D = some (.lst acc)) (hl : acc.length = k) (f : ∀ j x, acc[j]? = some x → (R j).p (hid H3 (D :: S.hd)) x)
    (rx : Rx.p (hid H3 (D :: S.hd)) x) : Stt (S.lc D k R i Rx) ((wipe σ [i]).set i (some x)) H3 := by
  have hd : (S.lc D k R i Rx).hd = D :: S.hd := rfl
  have kp : Same (hid H S.hd) (hid H3 (D :: S.hd)) := hid_fresh s hD0
  have base : Stt { S with M := (D, k, R) :: S.M } σ H3 :=
    ⟨st.same.trans s, st.nold, fun q hq => by
      rcases List.mem_cons.mp hq with e | e
      · subst e
        exact st.same.free hD0
      · exact st.mnew q e, fun q hq => by
      rcases List.mem_cons.mp hq with e | e
      · subst e
        exact ⟨acc, h, hl, f⟩
      · obtain ⟨vs, e1, e2, e3⟩ := st.mem q e
        exact ⟨vs, s _ _ e1, e2, fun k x z => (q.2.2 k).mono kp (e3 k x z)⟩, st.len, fun j R' e => by
      obtain ⟨v, e1, e2⟩ := st.sl j R' e
      exact ⟨v, e1, R'.mono kp e2⟩, by
      show (D :: adr S.M).Nodup
      refine List.nodup_cons.mpr ⟨fun z => ?_, st.nd⟩
      exact st.used D (List.mem_append_left _ z) hD0⟩
  exact (base.drop (i := i)).set rx
theorem evn_lcR {S : Sta} {ta : TA} {n i : Nat} {te : TE} {R : Nat → Rp} (hn : EVA S ta [Nt n]) (hl : n ≤ 1000) (he : ∀ D k, k < n → EV (S.lc D k R i (Nt k)) te (R k)) : EVN S (tLc (iRng1 ta) (gName i) tYes te [i]) n R := fun σ H st Q q =>
  hn σ H st _ fun vs H1 s1 ⟨v, r, e, ev, er⟩ => by
    have ev' : v = .int (n : Int) := ev
    have er' : r = [] := er
    subst ev' er' e
    refine ⟨(n : Int), rfl, by omega, by omega, fun D hD => ?_⟩
    have st1 := st.mono s1
    rw [Int.toNat_natCast]
    refine lc_range (fun k H' => Same H1 H' ∧ ∃ acc, H' D = some (.lst acc) ∧ acc.length = k ∧ ∀ j x, acc[j]? = some x → (R j).p (hid H' (D :: S.hd)) x) ⟨same_new hD, [], upd_same, rfl, fun j x z => by simp at z⟩ (fun k H' hk ⟨s2, acc, e1, e2, e3⟩ => ?_) fun H' ⟨s2, acc, e1, e2, e3⟩ => ?_
    · refine ⟨wipe1 σ i _, ?_⟩
      show te _ H' _
      refine he D k hk _ H' (st1.inlc hD s2 e1 e2 e3 (by show V.int (0 + (k : Int)) = V.int k; rw [Int.zero_add])) _ fun y H4 s4 r4 => ?_
      have kp : Same (hid H' (D :: S.hd)) (hid H4 (D :: S.hd)) := hid_same s4
      refine ⟨acc, s4 _ _ e1, by rw [e2]; exact small1000 (by omega), fun b o z => ?_, _, upd_same, ?_⟩
      · rw [upd_ne (ne_of_none z hD)]
        exact s4 _ _ (s2 _ _ z)
      · exact st1.grow hD (s2.trans s4) (s4 _ _ e1) e2 (fun j x z => (R j).mono kp (e3 j x z)) r4
    · exact q D acc H' (s1.trans s2) (s1.free hD) e1 e2 e3
theorem evn_lcL {S : Sta} {K : PySem.W.Frag} {tl : TE} {n i : Nat} {te : TE} {R0 R : Nat → Rp} (hn : EV S tl (Li n R0)) (hl : n ≤ 1000) (he : ∀ D k, k < n → EV (S.lc D k R i (R0 k)) te (R k)) : EVN S (tLc (iList K tl) (gName i) tYes te [i]) n R := fun σ H st Q q =>
  hn σ H st _ fun v H1 s1 ⟨a, vs, e, hs, hlv, f⟩ => by
    subst e
    refine ⟨a, rfl, ⟨vs, .inl (.inl (hid_sub _ _ hs))⟩, fun D hD => ?_⟩
    have st1 := st.mono s1
    have ha : H1 a = some (.lst vs) := hid_sub _ _ hs
    refine lc_list (xs := vs) (fun k H' => Same H1 H' ∧ ∃ acc, H' D = some (.lst acc) ∧ acc.length = k ∧ ∀ j x, acc[j]? = some x → (R j).p (hid H' (D :: S.hd)) x) ⟨same_new hD, [], upd_same, rfl, fun j x z => by simp at z⟩ (fun k H' _ ⟨s2, _⟩ => .inl (.inl (s2 _ _ ha))) (fun k x H' hk ⟨s2, acc, e1, e2, e3⟩ => ?_) fun H' ⟨s2, acc, e1, e2, e3⟩ => ?_
    · refine ⟨wipe1 σ i _, ?_⟩
      show te _ H' _
      have hkn : k < n := by rw [← hlv]; exact (List.getElem?_eq_some_iff.mp hk).1
      refine he D k hkn _ H' (st1.inlc hD s2 e1 e2 e3 ((R0 k).mono (hid_fresh s2 hD) (f k x hk))) _ fun y H4 s4 r4 => ?_
      have kp : Same (hid H' (D :: S.hd)) (hid H4 (D :: S.hd)) := hid_same s4
      refine ⟨acc, s4 _ _ e1, by rw [e2]; exact small1000 (by omega), fun b o z => ?_, _, upd_same, ?_⟩
      · rw [upd_ne (ne_of_none z hD)]
        exact s4 _ _ (s2 _ _ z)
      · exact st1.grow hD (s2.trans s4) (s4 _ _ e1) e2 (fun j x z => (R j).mono kp (e3 j x z)) r4
    · rw [hlv] at e2
      exact q D acc H' (s1.trans s2) (s1.free hD) e1 e2 e3
end BB
namespace BB
open PySem PySem.Spec PyProof.Rows L2
/-! ### statements -/
def Go (S : Sta) (P : L2.St → Hp → Prop) : Prop := ∀ σ H, Stt S σ H → P σ H
/-- what may be handed back -/
def RT (rt : VK) (H0 : Hp) (N : List Addr) (R : Rp) : Prop := ∀ v H, Same H0 H → R.p (hid H N) v → rt v H
theorem RT.base {rt : VK} {H0 G : Hp} {N : List Addr} {R : Rp} (h : RT rt H0 N R) (s : Same H0 G) : RT rt G N R := fun v H s2 r => h v H (s.trans s2) r
section
variable {S : Sta} {te ta tb : TE} {R R' : Rp} {i j : Nat} {nx : L2.St → Hp → Prop} {rt : VK} {bk ct : L2.St → Hp → Prop} {t u : TS}
theorem go_seq {D : Ends} (h : Go S (t { D with nx := u D })) : Go S (tSeq t u D) := h
theorem go_next (h : Go S nx) : Go S (tNext ⟨nx, rt, bk, ct⟩) := h
theorem go_set (h : EV S te R) (k : Go (S.set i R) nx) : Go S (tAsg te (gName i) ⟨nx, rt, bk, ct⟩) := fun σ H st =>
  h σ H st _ fun v H1 s r => k _ _ ((st.mono s).set r)
theorem go_ret (h : EV S te R) (r : RT rt S.H0 S.N R) : Go S (tRet te ⟨nx, rt, bk, ct⟩) := fun σ H st =>
  h σ H st _ fun v H1 s q => r v H1 (st.same.trans s) (R.mono (hid_le fun a ha => List.mem_append_right _ ha) q)
theorem go_back {H0 : Hp} {N : List Addr} {M : Mt} {Γ : List (Option Rp)} (r : RT rt H0 N R) (h : EV ⟨H0, N, M, Γ⟩ te R) : Go ⟨H0, N, M, Γ⟩ (tRet te ⟨nx, rt, bk, ct⟩) := go_ret h r
theorem go_if {c : TT} {b : Bool} (h : ET S c b) (h1 : b = true → Go S (t ⟨nx, rt, bk, ct⟩)) (h2 : b = false → Go S (u ⟨nx, rt, bk, ct⟩)) : Go S (tIfS c t u ⟨nx, rt, bk, ct⟩) := fun σ H st =>
  h σ H st _ fun H1 s => by
    cases b with
    | true => exact h1 rfl σ H1 (st.mono s)
    | false => exact h2 rfl σ H1 (st.mono s)
/-- both ways go on from J -/
theorem go_ifj {c : TT} {b : Bool} (J : Sta) (h : ET S c b) (h1 : b = true → ∀ nx, Go J nx → Go S (t ⟨nx, rt, bk, ct⟩)) (h2 : b = false → ∀ nx, Go J nx → Go S (u ⟨nx, rt, bk, ct⟩)) (k : Go J nx) : Go S (tIfS c t u ⟨nx, rt, bk, ct⟩) := go_if h (fun e => h1 e nx k) fun e => h2 e nx k
theorem go_drop (h : EV S te R) (k : Go S nx) : Go S (tDrop te ⟨nx, rt, bk, ct⟩) := fun σ H st => h σ H st _ fun v H1 s _ => k σ H1 (st.mono s)
theorem go_weak {P : L2.St → Hp → Prop} {Γ' : List (Option Rp)} (hl : Γ'.length = S.Γ.length) (hw : ∀ (i : Nat) (R' : Rp), Γ'[i]? = some (some R') → ∃ R : Rp, S.Γ[i]? = some (some R) ∧ ∀ H v, R.p H v → R'.p H v) (k : Go { S with Γ := Γ' } P) : Go S P :=
  fun σ H st => k σ H (st.weak hl hw)
inductive Wk : List (Option Rp) → List (Option Rp) → Prop
  | nil : Wk [] []
  | keep {o : Option Rp} {Γ Γ' : List (Option Rp)} : Wk Γ Γ' → Wk (o :: Γ) (o :: Γ')
  | drop {o : Option Rp} {Γ Γ' : List (Option Rp)} : Wk Γ Γ' → Wk (o :: Γ) (none :: Γ')
  | sub {R R' : Rp} {Γ Γ' : List (Option Rp)} : (∀ H v, R.p H v → R'.p H v) → Wk Γ Γ' → Wk (some R :: Γ) (some R' :: Γ')
theorem Wk.len {Γ Γ' : List (Option Rp)} (h : Wk Γ Γ') : Γ'.length = Γ.length := by
  induction h with
  | nil => rfl
  | keep _ ih => simp [ih]
  | drop _ ih => simp [ih]
  | sub _ _ ih => simp [ih]
theorem Wk.at {Γ Γ' : List (Option Rp)} (h : Wk Γ Γ') : ∀ (i : Nat) (R' : Rp), Γ'[i]? = some (some R') → ∃ R : Rp, Γ[i]? = some (some R) ∧ ∀ H v, R.p H v → R'.p H v := by
  induction h with
  | nil => intro i R' e; simp at e
  | keep _ ih =>
    intro i R' e
    cases i with
    | zero => exact ⟨R', e, fun _ _ h => h⟩
    | succ i => exact ih i R' (by simpa using e)
  | drop _ ih =>
    intro i R' e
    cases i with
    | zero => simp at e
    | succ i => exact ih i R' (by simpa using e)
  | sub f _ ih =>
    intro i R' e
    cases i with
    | zero =>
      have e2 := Option.some.inj (Option.some.inj e)
      subst e2
      exact ⟨_, rfl, f⟩
    | succ i => exact ih i R' (by simpa using e)
theorem Stt.wk {σ : L2.St} {H : Hp} {H0 : Hp} {N : List Addr} {M : Mt} {Γ Γ' : List (Option Rp)} (st : Stt ⟨H0, N, M, Γ⟩ σ H) (h : Wk Γ Γ') : Stt ⟨H0, N, M, Γ'⟩ σ H := Stt.weak st h.len h.at
/-- a slot's datum opened -/
theorem go_open {P : L2.St → Hp → Prop} {α : Type} {A : α → Prop} {f : α → Rp} (h : S.Γ[i]? = some (some (Exr A f))) (k : ∀ z, A z → Go (S.set i (f z)) P) : Go S P := fun σ H st => by
  obtain ⟨v, e, z, a, r⟩ := st.sl i _ h
  have e2 : σ.set i (some v) = σ := by
    have hl : i < σ.length := (List.getElem?_eq_some_iff.mp e).1
    have := (List.getElem?_eq_some_iff.mp e).2
    rw [← this, List.set_getElem_self]
  have q := st.set (i := i) (R := f z) r
  rw [e2] at q
  exact k z a σ H q
/-- the base moved up -/
theorem Stt.rebase {σ : L2.St} {H : Hp} (st : Stt S σ H) : Stt { S with H0 := hid H (adr S.M) } σ H ∧ Same S.H0 (hid H (adr S.M)) := by
  have ne : ∀ b o, S.H0 b = some o → b ∉ adr S.M := fun b o e z => by
    obtain ⟨q, hq, e2⟩ := List.mem_map.mp z
    have := st.mnew q hq
    rw [e2, e] at this; cases this
  refine ⟨⟨hid_sub, fun a ha z => ?_, fun q hq => ?_, st.mem, st.len, st.sl, st.nd⟩, fun b o e => hid_out (ne b o e) (st.same _ _ e)⟩
  · cases e : S.H0 a with
    | none => exact st.nold a ha e
    | some o =>
      have z' : hid H (adr S.M) a = none := z
      rw [hid_out (ne a o e) (st.same _ _ e)] at z'; cases z'
  · show hid H (adr S.M) q.1 = none
    unfold hid
    rw [if_pos (List.mem_map.mpr ⟨q, hq, rfl⟩)]
/-! ### targets -/
def GT (S : Sta) (g : TG) (R : Rp) (S' : Sta) : Prop := ∀ x σ H (Q : L2.St → Hp → Prop), Stt S σ H → R.p (hid H S.hd) x → (∀ σ', Stt S' σ' H → Q σ' H) → g x σ H Q
def GL (S : Sta) (g : TGs) (Rs : List Rp) (S' : Sta) : Prop := ∀ xs σ H (Q : L2.St → Hp → Prop), Stt S σ H → AL Rs (hid H S.hd) xs → (∀ σ', Stt S' σ' H → Q σ' H) → g xs σ H Q
theorem gt_name : GT S (gName i) R (S.set i R) := fun x σ H Q st r q => q _ (st.set r)
theorem gl_nil : GL S gNil [] S := fun xs σ H Q st r q => ⟨r, q σ st⟩
theorem gl_cons {S' : Sta} {gs : TGs} {Rs : List Rp} (h : GL (S.set i R) gs Rs S') : GL S (gCons (gName i) gs) (R :: Rs) S' := fun xs σ H Q st ⟨v, r, e, a, b⟩ q =>
  ⟨v, r, e, h r _ H Q (st.set a) b q⟩
theorem gt_tup {K : PySem.W.Frag} {S' : Sta} {gs : TGs} {Rs : List Rp} {n : Nat} (hn : Rs.length = n) (h : GL S gs Rs S') : GT S (gTup K n gs) (Tp K Rs) S' := fun x σ H Q st ⟨a, vs, e, b, c⟩ q =>
  ⟨a, vs, e, seqT hid_sub b, by rw [c.length, hn], h vs σ H Q st c q⟩
theorem go_asg {S' : Sta} {g : TG} (h : EV S te R) (hg : GT S g R S') (k : Go S' nx) : Go S (tAsg te g ⟨nx, rt, bk, ct⟩) := fun σ H st =>
  h σ H st _ fun v H1 s r => hg v σ H1 _ (st.mono s) r fun σ' st' => k σ' H1 st'
theorem go_par {R1 R2' : Rp} {t : TA} (h : EVA S t [R1, R2']) (k : Go ((S.set i R1).set j R2') nx) : Go S (tPar i j t ⟨nx, rt, bk, ct⟩) := fun σ H st =>
  h σ H st _ fun vs H1 s ⟨v, r, e, a, w, r2, e2, b, e3⟩ => by
    have e3' : r2 = [] := e3
    subst e3' e2 e
    exact ⟨v, w, rfl, k _ _ (((st.mono s).set a).set b)⟩
/-! ### lists of one's own -/
theorem go_new {n : Nat} {f : Nat → Rp} (h : EVN S te n f) (k : ∀ p, Go { S with M := (p, n, f) :: S.M, Γ := S.Γ.set i (some (Pt p)) } nx) : Go S (tAsg te (gName i) ⟨nx, rt, bk, ct⟩) := fun σ H st =>
  h σ H st _ fun p vs H' s hp e l r => k p _ _ (by
    have kp : Same (hid H S.hd) (hid H' (p :: S.hd)) := hid_fresh s hp
    have base : Stt { S with M := (p, n, f) :: S.M } σ H' :=
      ⟨st.same.trans s, st.nold, fun q hq => by
        rcases List.mem_cons.mp hq with e | e
        · subst e
          exact st.same.free hp
        · exact st.mnew q e, fun q hq => by
        rcases List.mem_cons.mp hq with z | z
        · subst z
          exact ⟨vs, e, l, r⟩
        · obtain ⟨ws, e1, e2, e3⟩ := st.mem q z
          exact ⟨ws, s _ _ e1, e2, fun k x z => (q.2.2 k).mono kp (e3 k x z)⟩, st.len, fun j R' e => by
        obtain ⟨v, e1, e2⟩ := st.sl j R' e
        exact ⟨v, e1, R'.mono kp e2⟩, List.nodup_cons.mpr ⟨fun z => st.used p (List.mem_append_left _ z) hp, st.nd⟩⟩
    exact base.set (i := i) (R := Pt p) rfl)
/-- a list changed in its place: M1, the list, M2 -/
theorem Stt.wr {σ : L2.St} {H : Hp} {M1 M2 : Mt} {p : Addr} {n n' : Nat} {f f' : Nat → Rp} {vs' : List V} (hM : S.M = M1 ++ (p, n, f) :: M2) (st : Stt S σ H) (hl : vs'.length = n') (r : ∀ k x, vs'[k]? = some x → (f' k).p (hid H S.hd) x) :
    Stt { S with M := M1 ++ (p, n', f') :: M2 } σ (upd H p (.lst vs')) := by
  have ea : adr (M1 ++ (p, n', f') :: M2) = adr S.M := by rw [hM]; simp [adr]
  have eh : ({ S with M := M1 ++ (p, n', f') :: M2 } : Sta).hd = S.hd := by
    show adr (M1 ++ (p, n', f') :: M2) ++ S.N = adr S.M ++ S.N
    rw [ea]
  have pin : p ∈ S.hd := List.mem_append_left _ (by rw [hM]; simp [adr])
  have e0 : hid (upd H p (.lst vs')) S.hd = hid H S.hd := hid_upd pin
  have hp0 : S.H0 p = none := st.mnew (p, n, f) (by rw [hM]; simp)
  have nd := st.nd
  rw [hM] at nd
  have nd' : (adr M1 ++ p :: adr M2).Nodup := by
    have : adr (M1 ++ (p, n, f) :: M2) = adr M1 ++ p :: adr M2 := by simp [adr]
    rw [← this]; exact nd
  have old : ∀ q, q ∈ M1 ∨ q ∈ M2 → q.1 ≠ p := fun q hq z => by
    have h1 := List.nodup_append.mp nd'
    rcases hq with hq | hq
    · exact h1.2.2 q.1 (List.mem_map.mpr ⟨q, hq, rfl⟩) p (List.mem_cons_self ..) z
    · exact (List.nodup_cons.mp h1.2.1).1 (by rw [← z]; exact List.mem_map.mpr ⟨q, hq, rfl⟩)
  refine ⟨fun b o e => ?_, st.nold, fun q hq => ?_, fun q hq => ?_, st.len, fun i R e => ?_, ?_⟩
  · rw [upd_ne (ne_of_none e hp0)]
    exact st.same _ _ e
  · rcases List.mem_append.mp hq with z | z
    · exact st.mnew q (by rw [hM]; exact List.mem_append_left _ z)
    · rcases List.mem_cons.mp z with z | z
      · rw [z]; exact hp0
      · exact st.mnew q (by rw [hM]; exact List.mem_append_right _ (List.mem_cons_of_mem _ z))
  · rw [eh, e0]
    rcases List.mem_append.mp hq with z | z
    · obtain ⟨ws, e1, e2, e3⟩ := st.mem q (by rw [hM]; exact List.mem_append_left _ z)
      exact ⟨ws, by rw [upd_ne (old q (.inl z))]; exact e1, e2, e3⟩
    · rcases List.mem_cons.mp z with z | z
      · subst z
        exact ⟨vs', upd_same, hl, r⟩
      · obtain ⟨ws, e1, e2, e3⟩ := st.mem q (by rw [hM]; exact List.mem_append_right _ (List.mem_cons_of_mem _ z))
        exact ⟨ws, by rw [upd_ne (old q (.inr z))]; exact e1, e2, e3⟩
  · rw [eh, e0]
    exact st.sl i R e
  · show (adr (M1 ++ (p, n', f') :: M2)).Nodup
    rw [ea]; exact st.nd
def snoc (n : Nat) (f : Nat → Rp) (R : Rp) : Nat → Rp := fun k => if k = n then R else f k
def putAt (j : Nat) (f : Nat → Rp) (R : Rp) : Nat → Rp := fun k => if k = j then R else f k
/-- xs.append(e) -/
theorem go_app {K : PySem.W.Frag} {M1 M2 : Mt} {p : Addr} {n : Nat} {f : Nat → Rp} (hi : S.Γ[i]? = some (some (Pt p))) (hM : S.M = M1 ++ (p, n, f) :: M2) (hl : n ≤ 1000) (h : EV S te R) (k : Go { S with M := M1 ++ (p, n + 1, snoc n f R) :: M2 } nx) :
    Go S (tDrop (tBM K "list" rAppend (tVar i) (tCons te tNil)) ⟨nx, rt, bk, ct⟩) := fun σ H st => by
  obtain ⟨v, e1, e2⟩ := st.sl i _ hi
  have e2' : v = .ref p := e2
  subst e2'
  obtain ⟨vs, a1, a2, a3⟩ := st.mem (p, n, f) (by rw [hM]; simp)
  refine ⟨.ref p, e1, .inl ⟨rfl, vs, .inl (.inl a1)⟩, ?_⟩
  refine h σ H st _ fun y H1 s r => ?_
  have st1 := st.mono s
  have a2' : vs.length = n := a2
  refine ⟨p, vs, y, rfl, rfl, s _ _ a1, by rw [a2']; exact small1000 hl, k _ _ ?_⟩
  refine st1.wr hM (by rw [List.length_append, a2']; rfl) fun j x z => ?_
  show (if j = n then R else f j).p _ x
  by_cases e : j < n
  · rw [List.getElem?_append_left (by omega)] at z
    rw [if_neg (by omega)]
    exact (f j).mono (hid_same s) (a3 j x z)
  · rw [List.getElem?_append_right (by omega), a2'] at z
    have ej : j = n := by
      have := (List.getElem?_eq_some_iff.mp z).1
      simp at this
      omega
    subst ej
    have e2 : y = x := by simpa using z
    rw [if_pos rfl, ← e2]; exact r
/-- xs[j] = e -/
theorem go_put {M1 M2 : Mt} {p : Addr} {n j : Nat} {jz : Int} {f : Nat → Rp} {ti : TE} (hi : S.Γ[i]? = some (some (Pt p))) (hM : S.M = M1 ++ (p, n, f) :: M2) (h : EV S te R) (hj : EV S ti (It jz)) (ej : jz = (j : Int)) (hjn : j < n) (k : Go { S with M := M1 ++ (p, n, putAt j f R) :: M2 } nx) :
    Go S (tAsg te (gSub (tVar i) ti rSetL) ⟨nx, rt, bk, ct⟩) := fun σ H st => by
  refine h σ H st _ fun y H1 s r => ?_
  have st1 := st.mono s
  obtain ⟨v, e1, e2⟩ := st1.sl i _ hi
  have e2' : v = .ref p := e2
  subst e2'
  refine ⟨.ref p, e1, ?_⟩
  refine hj σ H1 st1 _ fun w H2 s2 rw' => ?_
  have st2 := st1.mono s2
  have ew : w = .int jz := rw'
  subst ew
  obtain ⟨vs, a1, a2, a3⟩ := st2.mem (p, n, f) (by rw [hM]; simp)
  have a2' : vs.length = n := a2
  refine ⟨p, vs, jz, j, rfl, rfl, a1, ?_, k _ _ ?_⟩
  · unfold ixN
    rw [ej, if_pos (by omega), if_pos (by omega), Int.toNat_natCast]
  · refine st2.wr hM (by rw [List.length_set, a2']) fun m x z => ?_
    show (if m = j then R else f m).p _ x
    by_cases e : m = j
    · subst e
      rw [List.getElem?_set_self (by omega)] at z
      rw [if_pos rfl, ← Option.some.inj z]
      exact R.mono (hid_same s2) r
    · rw [List.getElem?_set_ne (fun z => e z.symm)] at z
      rw [if_neg e]
      exact a3 m x z
/-- no longer changed: the first of the lists -/
theorem go_freeze {P : L2.St → Hp → Prop} {M2 : Mt} {p : Addr} {n : Nat} {f : Nat → Rp} (hM : S.M = (p, n, f) :: M2) (hi : S.Γ[i]? = some (some (Pt p))) (k : Go { S with M := M2, Γ := S.Γ.set i (some (Li n f)) } P) : Go S P := fun σ H st => by
  have le : Same (hid H S.hd) (hid H (adr M2 ++ S.N)) := hid_le fun a ha => by
    unfold Sta.hd
    rw [hM]
    exact List.mem_cons_of_mem _ ha
  obtain ⟨vs, a1, a2, a3⟩ := st.mem (p, n, f) (by rw [hM]; simp)
  have nd := st.nd
  rw [hM] at nd
  have nd' : (p :: adr M2).Nodup := nd
  have hp0 : S.H0 p = none := st.mnew (p, n, f) (by rw [hM]; simp)
  have base : Stt { S with M := M2 } σ H :=
    ⟨st.same, st.nold, fun q hq => st.mnew q (by rw [hM]; exact List.mem_cons_of_mem _ hq), fun q hq => by
      obtain ⟨ws, e1, e2, e3⟩ := st.mem q (by rw [hM]; exact List.mem_cons_of_mem _ hq)
      exact ⟨ws, e1, e2, fun k x z => (q.2.2 k).mono le (e3 k x z)⟩, st.len, fun j R' e => by
      obtain ⟨v, e1, e2⟩ := st.sl j R' e
      exact ⟨v, e1, R'.mono le e2⟩, (List.nodup_cons.mp nd').2⟩
  obtain ⟨v, e1, e2⟩ := st.sl i _ hi
  have e2' : v = .ref p := e2
  subst e2'
  have r : (Li n f).p (hid H (adr M2 ++ S.N)) (.ref p) := ⟨p, vs, rfl, hid_out (fun z => by
    rcases List.mem_append.mp z with y | y
    · exact (List.nodup_cons.mp nd').1 y
    · exact st.nold p y hp0) a1, a2, fun k x z => (f k).mono le (a3 k x z)⟩
  have q := base.set (i := i) (R := Li n f) (v := .ref p) r
  have e3 : σ.set i (some (.ref p)) = σ := by
    have hl : i < σ.length := (List.getElem?_eq_some_iff.mp e1).1
    have := (List.getElem?_eq_some_iff.mp e1).2
    rw [← this, List.set_getElem_self]
  rw [e3] at q
  exact k σ H q
end
/-! ### reading lists of one's own -/
theorem ev_ixM {S : Sta} {K : PySem.W.Frag} {i k n : Nat} {iz : Int} {p : Addr} {f : Nat → Rp} {ti : TE} (hi : S.Γ[i]? = some (some (Pt p))) (hM : (p, n, f) ∈ S.M) (hk : EV S ti (It iz)) (ek : iz = (k : Int)) (hkn : k < n) : EV S (tOp (rIxL K) (tVar i) ti) (f k) := fun σ H st Q q => by
  obtain ⟨v, e1, e2⟩ := st.sl i _ hi
  have e2' : v = .ref p := e2
  subst e2'
  refine ⟨.ref p, e1, ?_⟩
  refine hk σ H st _ fun w H1 s r => ?_
  have ew : w = .int iz := r
  subst ew
  obtain ⟨vs, a1, a2, a3⟩ := (st.mono s).mem (p, n, f) hM
  have a2' : vs.length = n := a2
  have e : vs[k]? = some (vs[k]'(by omega)) := List.getElem?_eq_getElem (by omega)
  exact ⟨p, vs, iz, _, rfl, rfl, .inl (.inl a1), by rw [ek]; exact atI_nat e, q _ H1 s (a3 k _ e)⟩
theorem ev_lenM {S : Sta} {K : PySem.W.Frag} {i n : Nat} {p : Addr} {f : Nat → Rp} (hi : S.Γ[i]? = some (some (Pt p))) (hM : (p, n, f) ∈ S.M) : EV S (tCB (rLenQ K) (tCons (tVar i) tNil)) (Nt n) := fun σ H st Q q => by
  obtain ⟨v, e1, e2⟩ := st.sl i _ hi
  have e2' : v = .ref p := e2
  subst e2'
  refine ⟨.ref p, e1, ?_⟩
  obtain ⟨vs, a1, a2, a3⟩ := st.mem (p, n, f) hM
  have a2' : vs.length = n := a2
  exact ⟨p, vs, rfl, .inl (.inl (.inl a1)), q _ H (Same.refl H) (by rw [a2']; rfl)⟩
/-! ### loops -/
section
variable {S : Sta} {nx : L2.St → Hp → Prop} {rt : VK} {bk ct : L2.St → Hp → Prop} {x : Nat} {tb : TS} {α : Type}
theorem go_forR {ta : TA} {n : Nat} (I : Nat → α → Sta) (P : Nat → α → Prop) (hn : EVA S ta [Nt n]) (hl : n ≤ 1000000) (h0 : ∃ z, P 0 z ∧ ∀ σ H, Stt S σ H → Stt (I 0 z) σ H)
    (hs : ∀ k z, k < n → P k z → Go ((I k z).set x (Nt k)) (tb ⟨fun σ H => ∃ z, P (k + 1) z ∧ Stt (I (k + 1) z) σ H, rt, nx, fun σ H => ∃ z, P (k + 1) z ∧ Stt (I (k + 1) z) σ H⟩))
    (hd : ∀ z, P n z → Go (I n z) nx) : Go S (tFor (iRng1 ta) (gName x) tb ⟨nx, rt, bk, ct⟩) := fun σ H st => by
  refine hn σ H st _ fun vs H1 s1 ⟨v, r, e, ev, er⟩ => ?_
  have ev' : v = .int (n : Int) := ev
  have er' : r = [] := er
  subst ev' er' e
  refine ⟨(n : Int), rfl, by omega, by omega, ?_⟩
  rw [Int.toNat_natCast]
  refine for_range (fun k σ H => ∃ z, P k z ∧ Stt (I k z) σ H) ?_ (fun k σ2 H2 hk ⟨z, hP, st2⟩ => ?_) fun σ2 H2 ⟨z, hP, st2⟩ => hd z hP σ2 H2 st2
  · obtain ⟨z, hP, f⟩ := h0
    exact ⟨z, hP, f _ _ (st.mono s1)⟩
  · exact hs k z hk hP _ H2 (st2.set (i := x) (R := Nt k) (by show V.int (0 + (k : Int)) = V.int k; rw [Int.zero_add]))
theorem go_forL {K : PySem.W.Frag} {tl : TE} {g : TG} {n : Nat} {R0 : Nat → Rp} (I : Hp → Nat → α → Sta) (S' : Hp → Nat → α → Sta) (P : Nat → α → Prop) (hn : EV S tl (Li n R0)) (hI : ∀ G k z, (I G k z).H0 = G ∧ (I G k z).N = S.N ∧ adr (I G k z).M = adr S.M)
    (h0 : ∀ G, ∃ z, P 0 z ∧ ∀ σ H, Stt { S with H0 := G } σ H → Stt (I G 0 z) σ H) (hg : ∀ G k z, k < n → GT (I G k z) g (R0 k) (S' G k z))
    (hs : ∀ G k z, Same S.H0 G → k < n → P k z → Go (S' G k z) (tb ⟨fun σ H => ∃ z, P (k + 1) z ∧ Stt (I G (k + 1) z) σ H, rt, nx, fun σ H => ∃ z, P (k + 1) z ∧ Stt (I G (k + 1) z) σ H⟩))
    (hd : ∀ G z, Same S.H0 G → P n z → Go (I G n z) nx) : Go S (tFor (iList K tl) g tb ⟨nx, rt, bk, ct⟩) := fun σ H st => by
  refine hn σ H st _ fun v H1 s1 ⟨a, vs, e, hv, hlv, f⟩ => ?_
  subst e
  have st1 := st.mono s1
  obtain ⟨rb, up⟩ := st1.rebase
  refine ⟨a, rfl, ⟨vs, .inl (.inl (hid_sub _ _ hv))⟩, ?_⟩
  have ha : ∀ {k z σ2 H2}, Stt (I (hid H1 (adr S.M)) k z) σ2 H2 → Same (hid H1 S.hd) (hid H2 (I (hid H1 (adr S.M)) k z).hd) := fun {k z σ2 H2} st2 => by
    obtain ⟨i1, i2, i3⟩ := hI (hid H1 (adr S.M)) k z
    have eh : (I (hid H1 (adr S.M)) k z).hd = S.hd := by
      unfold Sta.hd
      rw [i3, i2]
    rw [eh]
    have s2 := st2.same
    rw [i1] at s2
    intro b o q
    have nb : b ∉ S.hd := fun m => by
      have q' : (if b ∈ S.hd then none else H1 b) = some o := q
      rw [if_pos m] at q'; cases q'
    refine hid_out nb (s2 _ _ (hid_out (fun m => nb (List.mem_append_left _ m)) (hid_sub _ _ q)))
  refine for_list (xs := vs) (fun k σ H => ∃ z, P k z ∧ Stt (I (hid H1 (adr S.M)) k z) σ H) ?_ (fun k σ2 H2 _ ⟨z, _, st2⟩ => .inl (.inl (hid_sub _ _ (ha st2 _ _ hv)))) (fun k y σ2 H2 hk ⟨z, hP, st2⟩ => ?_) fun σ2 H2 ⟨z, hP, st2⟩ => ?_
  · obtain ⟨z, hP, f⟩ := h0 (hid H1 (adr S.M))
    exact ⟨z, hP, f _ _ rb⟩
  · have hkn : k < n := by rw [← hlv]; exact (List.getElem?_eq_some_iff.mp hk).1
    exact hg _ k z hkn y σ2 H2 _ st2 ((R0 k).mono (ha st2) (f k y hk)) fun σ3 st3 => hs _ k z up hkn hP σ3 H2 st3
  · rw [hlv] at hP
    rw [hlv] at st2
    exact hd _ z up hP σ2 H2 st2
theorem go_while {c : TT} (I : α → Sta) (P : Nat → α → Prop) (h0 : ∃ m z, P m z ∧ ∀ σ H, Stt S σ H → Stt (I z) σ H)
    (hs : ∀ m z, P m z → ∃ b, ET (I z) c b ∧ (b = true → Go (I z) (tb ⟨fun σ H => ∃ m' z', m' < m ∧ P m' z' ∧ Stt (I z') σ H, rt, nx, fun σ H => ∃ m' z', m' < m ∧ P m' z' ∧ Stt (I z') σ H⟩)) ∧ (b = false → Go (I z) nx)) : Go S (tWhile c tb ⟨nx, rt, bk, ct⟩) := fun σ H st => by
  obtain ⟨m0, z0, hP, f⟩ := h0
  refine ⟨fun m σ H => ∃ z, P m z ∧ Stt (I z) σ H, ⟨m0, z0, hP, f _ _ st⟩, fun m σ2 H2 ⟨z, hP2, st2⟩ => ?_⟩
  obtain ⟨b, hb, ht, hf⟩ := hs m z hP2
  refine hb σ2 H2 st2 _ fun H3 s3 => ?_
  cases b with
  | true =>
    rw [if_pos rfl]
    exact ⟨fun σ H => ∃ m' z', m' < m ∧ P m' z' ∧ Stt (I z') σ H, fun σ' H' ⟨m', z', a, b, c⟩ => ⟨m', a, z', b, c⟩, ht rfl σ2 H3 (st2.mono s3)⟩
  | false =>
    rw [if_neg Bool.false_ne_true]
    exact hf rfl σ2 H3 (st2.mono s3)
end
/-! ### a def keeps its promise -/
theorem start_stt {H : Hp} {N : List Addr} {Rs : List Rp} {vs : List V} {names : List Str} (hN : ∀ a ∈ N, H a ≠ none) (h : AL Rs (hid H N) vs) (hl : Rs.length ≤ names.length) :
    Stt ⟨H, N, [], Rs.map some ++ List.replicate (names.length - Rs.length) none⟩ (L2.start names vs) H := by
  have lv := h.length
  refine ⟨Same.refl H, hN, fun q hq => by simp at hq, fun q hq => by simp at hq, ?_, fun i R e => ?_, by simp⟩
  · unfold L2.start
    simp [lv]
  · have e' : (Rs.map some ++ List.replicate (names.length - Rs.length) none)[i]? = some (some R) := e
    have hi : i < Rs.length := by
      refine Classical.byContradiction fun z => ?_
      rw [List.getElem?_append_right (by simpa using z), List.getElem?_replicate] at e'
      split at e' <;> simp at e'
    rw [List.getElem?_append_left (by simpa using hi), List.getElem?_map] at e'
    have e2 : Rs[i]? = some R := by
      cases q : Rs[i]? with
      | none => rw [q] at e'; cases e'
      | some z => rw [q] at e'; rw [Option.some.inj (Option.some.inj e')]
    obtain ⟨v, a, b⟩ := h.get e2
    refine ⟨v, ?_, b⟩
    unfold L2.start
    rw [List.getElem?_append_left (by simp; omega), List.getElem?_map, a]
    rfl
/-- a def of the top as a caller meets it -/
structure DefOk (P : Program) (w : World) (K : PySem.W.Frag) (mg : Str → Option Value) (base : Heap) (x : Str) (k : Nat) (ps : List Str) (sp : Sp) : Prop where
  ex : ∃ f fd, mg x = some (.ref f) ∧ PySem.W.keepIn K (.ref f) = true ∧ Binds K fd ps [] ∧ FnOk P w K mg base CX0 k f fd ps sp
theorem pe_cd {X : Cx} {x : Str} {k : Nat} {ps : List Str} {sp : Sp} {e : Expr} {es : List Expr} {t : TA} {p pos : Pos} (d : DefOk X.prog X.w X.K X.mg X.base x k ps sp) (hr : Room k X.A) (hg : Gl X x) (ha : PA X (e :: es) t)
    (h1 : (x == ("__debug__" : Str)) = false := by decide) (he : starEach (e :: es) X.env = (false, eval e X.env) :: starEach es X.env := by rfl) (hpl : (backTo pos (starEach es X.env)).any (·.1) = false := by rfl) : PE X (.Call (.Name x p) (e :: es) [] pos) (tCall sp [] E0 t) := by
  obtain ⟨f, fd, hm, hk, hb, F⟩ := d.ex
  exact pe_call F hr hg hm hk hb .nil pass0 ha h1 he hpl
theorem okR {P : Program} {w : World} {K : PySem.W.Frag} {mg : Str → Option Value} {base : Heap} {x qual : Str} {params : Arguments} {body : List Stmt} {scope : Scope} {f : Addr} {fd : FuncData} {names ps : List Str} {k : Nat} {α : Type} {pre : α → List Rp} {side : α → Prop} {post : α → Rp}
    (F : FunD K x qual params body scope [] [] f fd) (sc : FnScope names ps scope) (hm : mg x = some (.ref f)) (hbi : Binds K fd ps []) (hl : ∀ z, (pre z).length = ps.length) (hnl : ps.length ≤ names.length)
    (hbody : ∀ (cdv : Value) (A : Around) (outer : List Env) (s : Shared) (H : Hp) (E : XK), Room k (A.deeper (envOfC qual scope s.heap.objs.size f cdv)) → ∀ z, side z →
      ∃ t, PSs (cxOf CX0 P w K mg base names qual scope f cdv A outer s H E).nox body t ∧ ∀ (H0 : Hp) (N : List Addr) (D : Ends), RT D.rt H0 N (post z) → Go ⟨H0, N, [], (pre z).map some ++ List.replicate (names.length - ps.length) none⟩ (t D)) :
    DefOk P w K mg base x (k + 1) ps (spR pre side post) := by
  refine ⟨f, fd, hm, F.kp, hbi, F.ok sc (fun vs H Q E ⟨z, N, _, _, h, _⟩ => by rw [h.length, hl]) fun cdv A outer s H vs Q E hr ⟨z, N, hN, hs, ha, hq⟩ => ?_⟩
  obtain ⟨t, ht, hgo⟩ := hbody cdv A outer s H E hr z hs
  refine ⟨t, ht.nox, ?_⟩
  have st := start_stt (names := names) hN ha (by rw [hl]; exact hnl)
  rw [hl] at st
  exact hgo H N { nx := fun _ H' => Q .non H', rt := Q } (fun v H' s r => hq v H' s r) _ H st
end BB
namespace BB
open PySem PySem.Spec PyProof.Rows L2
def topS (i : Nat) : Stmt := PySem.Challenge.pw_buybook_k59_whole_need_papers_bound_mone.main.body.getD i (.Pass ⟨0, 0, 0, 0⟩)
/-- what the module's names hold -/
structure Gb (K : PySem.W.Frag) (mg : Str → Option Value) : Prop where
  zero : ∃ z, mg "ZERO" = some (.ref z) ∧ ∀ H, SqT K H z [.int 0, .int 1]
  one : ∃ z, mg "ONE" = some (.ref z) ∧ ∀ H, SqT K H z [.int 1, .int 1]
  gcd : mg "gcd" = some (.builtin "math.gcd")
  len : mg "len" = none
  range : mg "range" = none
  list : mg "list" = none
  int : mg "int" = none
  max : mg "max" = none
  abs : mg "abs" = none
  isinstance : mg "isinstance" = none
  bool : mg "bool" = none
  tuple : mg "tuple" = none
/-- a def of the top as it stands -/
def Def0 (K : PySem.W.Frag) (mg : Str → Option Value) (x : Str) (st : Stmt) (ps : List Str) : Prop :=
  ∃ f fd, FunD K x x (defArgs st) (defBody st) (defScope st) [] [] f fd ∧ mg x = some (.ref f) ∧ Binds K fd ps []
/-! ### the layer's rules with the written part named -/
section
variable {X : Cx} {K : PySem.W.Frag} {e o : Expr} {es : List Expr} {ta te to tl : TE} {t : TA} {f : Str} {pos apos cpos : Pos}
theorem pe_fldK (h : X.K = K) (he : PE X e ta) (hb : attributeBase e f X.env (eval e X.env) = eval e X.env) : PE X (.Attribute e f pos) (tFld K ta f) := h ▸ pe_fld he hb
theorem pi_listK {tg l : Expr} (h : X.K = K) (hl : PE X l tl) : PI X tg l (iList K tl) := h ▸ pi_list hl
theorem pi_tupK {tg l : Expr} (h : X.K = K) (hl : PE X l tl) : PI X tg l (iTup K tl) := h ▸ pi_tup hl
theorem pg_tupK {k n : Nat} {g : TGs} (h : X.K = K) (hc : X.calm = true) (hg : PGs X es g) (hn : (assignEach es X.env).length = n := by rfl) (hst : (assignEach es X.env).findIdx? (·.1) = none := by rfl) : PG X (.Tuple es k pos) (gTup K n g) := h ▸ pg_tup hc hg hn hst
theorem pe_appK (h : X.K = K) (ho : PE X o to) (ha : PA X (e :: es) t)
    (hbase : attributeBase o "append" X.env (eval o X.env) = eval o X.env := by rfl)
    (hfew : ((backTo cpos (starEach (e :: es) X.env)).all (fun x => !x.1) && (backToKw cpos (keywordEach [] X.env)).all (fun x => x.1.isSome)
      && decide ((e :: es).length + ([] : List Keyword).length + (if ([] : List Keyword).isEmpty then 0 else 1) < 30)) = true := by rfl)
    (hline : (apos.endLine == cpos.line) = true := by rfl) (hs : starEach (e :: es) X.env = (false, eval e X.env) :: starEach es X.env := by rfl) (hplain : (backTo cpos (starEach es X.env)).any (·.1) = false := by rfl) :
    PE X (.Call (.Attribute o "append" apos) (e :: es) [] cpos) (tBM K "list" rAppend to t) := h ▸ pe_bm PySem.F.plainAttrs_list PySem.F.slot_list_append PySem.F.type_list_append mt_append ho ha hbase hfew hline hs hplain
theorem pt_truthK (h : X.K = K) (ha : PE X e ta) (he : ∀ whole, isTrue e X.env whole = (do let v ← whole; standAt e.pos; holding [v] (truthy v))) : PT X e (fun σ H Q => ta σ H fun x H' => ∃ k, TruV K x H' k ∧ Q k H') := h ▸ pt_truth ha he
end
section
variable {P : Program} {w : World} {K : PySem.W.Frag} {mg : Str → Option Value} {base : Heap}
theorem okD {x : Str} {st : Stmt} {names ps : List Str} {k : Nat} {α : Type} {pre : α → List Rp} {side : α → Prop} {post : α → Rp}
    (F : Def0 K mg x st ps) (sc : FnScope names ps (defScope st)) (hl : ∀ z, (pre z).length = ps.length) (hnl : ps.length ≤ names.length)
    (hbody : ∀ (f : Addr) (cdv : Value) (A : Around) (outer : List Env) (s : Shared) (H : Hp) (E : XK), Room k (A.deeper (envOfC x (defScope st) s.heap.objs.size f cdv)) → ∀ z, side z →
      ∃ t, PSs (cxOf CX0 P w K mg base names x (defScope st) f cdv A outer s H E).nox (defBody st) t ∧ ∀ (H0 : Hp) (N : List Addr) (D : Ends), RT D.rt H0 N (post z) → Go ⟨H0, N, [], (pre z).map some ++ List.replicate (names.length - ps.length) none⟩ (t D)) :
    DefOk P w K mg base x (k + 1) ps (spR pre side post) := by
  obtain ⟨f, fd, FD, hm, hb⟩ := F
  exact okR FD sc hm hb hl hnl (hbody f)
/-! ### ratio -/
abbrev s_ratio : Stmt := (topS 4)
theorem sc_ratio : FnScope ["p", "q", "common"] ["p", "q"] (defScope s_ratio) := ⟨rfl, rfl, rfl, by decide +kernel, rfl, by decide +kernel, by decide +kernel⟩

def sp_ratio (K : PySem.W.Frag) : Sp := spR (fun z : Int × Int => [It z.1, It z.2]) (fun z => z.2 ≠ 0 ∧ z.2.natAbs < 2 ^ 9000) (fun z => Fr K (Rat.divInt z.1 z.2))
theorem gcd_pos {p q : Int} (h : q ≠ 0) : 0 < Nat.gcd p.natAbs q.natAbs := Nat.gcd_pos_of_pos_right _ (by omega)
theorem gcd_wide {p q : Int} (h : q ≠ 0) (hb : q.natAbs < 2 ^ 9000) : ∀ i : Int, CDivW i ((Nat.gcd p.natAbs q.natAbs : Nat) : Int) := fun i => by
  have h1 := gcd_pos (p := p) h
  refine wide_div (b := 9000) (by omega) ?_ (by decide) (by decide)
  rw [Int.natAbs_natCast]
  exact Nat.lt_of_le_of_lt (Nat.gcd_le_right _ (by omega)) hb
theorem rat_pos {p q : Int} (h : 0 < q) : (Rat.divInt p q).num = p / ((Nat.gcd p.natAbs q.natAbs : Nat) : Int) ∧ ((Rat.divInt p q).den : Int) = q / ((Nat.gcd p.natAbs q.natAbs : Nat) : Int) := by
  have e : q.gcd p = Nat.gcd p.natAbs q.natAbs := by rw [Int.gcd, Nat.gcd_comm]
  refine ⟨?_, ?_⟩
  · rw [Rat.num_divInt, e, Int.sign_eq_one_of_pos h, Int.one_mul]
  · rw [Rat.den_divInt, if_neg (by omega), e]
    have : q = (q.natAbs : Int) := by omega
    rw [this, Int.natAbs_natCast, Int.natCast_ediv]
theorem rat_neg {p q : Int} (h : q < 0) : (Rat.divInt p q).num = (-p) / ((Nat.gcd (-p).natAbs (-q).natAbs : Nat) : Int) ∧ ((Rat.divInt p q).den : Int) = (-q) / ((Nat.gcd (-p).natAbs (-q).natAbs : Nat) : Int) := by
  have := rat_pos (p := -p) (q := -q) (by omega)
  rw [Rat.divInt_neg', Int.neg_neg] at this
  exact this
theorem cr_gcdT {a b : Int} : CT rGcd [It a, It b] (It ((Nat.gcd a.natAbs b.natAbs : Nat) : Int)) := fun H N xs Q _ ⟨v, r, e, e1, v2, r2, e2, e3, e4⟩ q => by
  have a1 : v = .int a := e1
  have a2 : v2 = .int b := e3
  have a3 : r2 = [] := e4
  subst a1 a2 a3 e2 e
  exact ⟨a, b, rfl, q _ H (Same.refl H) rfl⟩
theorem ok_ratio (G : Gb K mg) (F : Def0 K mg "ratio" s_ratio ["p", "q"]) : DefOk P w K mg base "ratio" 1 ["p", "q"] (sp_ratio K) := by
  refine okD F sc_ratio (fun _ => rfl) (by decide) fun f cdv A outer s H E hr z ⟨hz, hzb⟩ => ⟨_, (pss_cons (ps_if (pt_cmpR op_lt (pv 1) pe_int (nomark _)) (pss_cons (ps_set (i := 0) sc_ratio.nd rfl (.inl rfl) (pe_un un_neg (pv 0)))
        (pss_one (ps_set (i := 1) sc_ratio.nd rfl (.inl rfl) (pe_un un_neg (pv 1))))) pss_nil)
        (pss_cons (ps_set (i := 2) sc_ratio.nd rfl (.inl rfl) (pe_callBfun cr_gcd (by rfl) G.gcd (pa_cons (pv 0) (pa_cons (pv 1) pa_nil))))
        (pss_one (ps_ret (pe_tup (pa_cons (pe_op op_fdivW (pv 0) (pv 2)) (pa_cons (pe_op op_fdivW (pv 1) (pv 2)) pa_nil))))))), fun H0 N D rt => ?_⟩
  obtain ⟨p, q⟩ := z
  have rt : RT D.rt H0 N (Fr K (Rat.divInt p q)) := rt
  have fin : ∀ p' q' : Int, (Rat.divInt p q).num = p' / ((Nat.gcd p'.natAbs q'.natAbs : Nat) : Int) → ((Rat.divInt p q).den : Int) = q' / ((Nat.gcd p'.natAbs q'.natAbs : Nat) : Int) → q' ≠ 0 → q'.natAbs < 2 ^ 9000 →
      Go ⟨H0, N, [], [some (It p'), some (It q'), none]⟩ (tSeq (tAsg (tCB rGcd (tCons (tVar 0) (tCons (tVar 1) tNil))) (gName 2)) (tRet (tTup (tCons (tOp (rI CDivW fun i j => .int (i / j)) (tVar 0) (tVar 2)) (tCons (tOp (rI CDivW fun i j => .int (i / j)) (tVar 1) (tVar 2)) tNil)))) D) := fun p' q' e1 e2 h1 h2 => by
    refine go_seq (go_set (ev_cb cr_gcdT (eva_cons (ev_var rfl) (eva_cons (ev_var rfl) eva_nil))) ?_)
    refine go_back rt ?_
    unfold Fr
    rw [e1, e2]
    exact ev_tup (eva_cons (ev_op (ot_I (gcd_wide h1 h2 _)) (ev_var rfl) (ev_var rfl)) (eva_cons (ev_op (ot_I (gcd_wide h1 h2 _)) (ev_var rfl) (ev_var rfl)) eva_nil))
  refine go_seq (go_if (et_test (ev_op (ot_B0 (g := fun i j => decide (i < j))) (ev_var rfl) ev_int)) (fun h => ?_) fun h => ?_)
  · have hq : q < 0 := of_decide_eq_true h
    refine go_seq (go_set (ev_un ut_neg (ev_var rfl)) (go_set (ev_un ut_neg (ev_var rfl)) ?_))
    obtain ⟨a, b⟩ := rat_neg (p := p) hq
    exact fin (-p) (-q) a b (by omega) (by rw [Int.natAbs_neg]; exact hzb)
  · have hq : ¬ q < 0 := of_decide_eq_false h
    have hz' : q ≠ 0 := hz
    obtain ⟨a, b⟩ := rat_pos (p := p) (q := q) (by omega)
    exact fin p q a b hz hzb
/-! ### the four operations -/
theorem num_ne {y : Rat} (h : y ≠ 0) : y.num ≠ 0 := fun z => h (Rat.num_eq_zero.mp z)
theorem rat_add (a b : Rat) : a + b = Rat.divInt (a.num * (b.den : Int) + b.num * (a.den : Int)) ((a.den : Int) * (b.den : Int)) := by
  conv => lhs; rw [← Rat.num_divInt_den a, ← Rat.num_divInt_den b]
  exact Rat.divInt_add_divInt _ _ (den_ne a) (den_ne b)
theorem rat_sub (a b : Rat) : a - b = Rat.divInt (a.num * (b.den : Int) - b.num * (a.den : Int)) ((a.den : Int) * (b.den : Int)) := by
  conv => lhs; rw [← Rat.num_divInt_den a, ← Rat.num_divInt_den b]
  exact Rat.divInt_sub_divInt _ _ (den_ne a) (den_ne b)
theorem rat_mul (a b : Rat) : a * b = Rat.divInt (a.num * b.num) ((a.den : Int) * (b.den : Int)) := by
  conv => lhs; rw [← Rat.num_divInt_den a, ← Rat.num_divInt_den b]
  exact Rat.divInt_mul_divInt _ _
theorem rat_div (a b : Rat) : a / b = Rat.divInt (a.num * (b.den : Int)) ((a.den : Int) * b.num) := by
  conv => lhs; rw [← Rat.num_divInt_den a, ← Rat.num_divInt_den b]
  rw [Rat.div_def, Rat.inv_divInt]
  exact Rat.divInt_mul_divInt _ _
theorem rat_lt (a b : Rat) : a < b ↔ a.num * (b.den : Int) < b.num * (a.den : Int) := Rat.lt_iff _ _
theorem rat_le (a b : Rat) : a ≤ b ↔ a.num * (b.den : Int) ≤ b.num * (a.den : Int) := Rat.le_iff _ _
/-- numbers that the machine multiplies -/
structure Mid (x : Rat) : Prop where
  num : x.num.natAbs < 2 ^ 20000
  den : ((x.den : Int)).natAbs < 2 ^ 20000
theorem Bd.mid {a b : Nat} {x : Rat} (h : Bd a b x) (ha : a ≤ 20000) (hb : b ≤ 20000) : Mid x :=
  ⟨Nat.lt_of_lt_of_le h.num (pow_le2 ha), by rw [Int.natAbs_natCast]; exact Nat.lt_of_lt_of_le h.den (pow_le2 hb)⟩
theorem mulW {i j : Int} (hi : i.natAbs < 2 ^ 20000) (hj : j.natAbs < 2 ^ 20000) : CMulW i j := wide_mul hi hj (by decide) (by decide) (by decide)
structure Ok2 (a b : Rat) : Prop where
  ma : Mid a
  mb : Mid b
  q : ((a.den : Int) * (b.den : Int)).natAbs < 2 ^ 9000
structure OkD (a b : Rat) : Prop where
  ma : Mid a
  mb : Mid b
  nz : b ≠ 0
  q : ((a.den : Int) * b.num).natAbs < 2 ^ 9000
theorem Bd.ok2 {n1 d1 n2 d2 : Nat} {a b : Rat} (h1 : Bd n1 d1 a) (h2 : Bd n2 d2 b) (h : n1 ≤ 20000 ∧ n2 ≤ 20000 ∧ d1 + d2 ≤ 9000) : Ok2 a b :=
  ⟨h1.mid h.1 (by omega), h2.mid h.2.1 (by omega), by
    rw [Int.natAbs_mul, Int.natAbs_natCast, Int.natAbs_natCast]
    exact Nat.lt_of_lt_of_le (nlt_mul h1.den h2.den) (pow_le2 h.2.2)⟩
theorem Bd.okD {n1 d1 n2 d2 : Nat} {a b : Rat} (h1 : Bd n1 d1 a) (h2 : Bd n2 d2 b) (hb : b ≠ 0) (h : n1 ≤ 20000 ∧ d2 ≤ 20000 ∧ d1 + n2 ≤ 9000) : OkD a b :=
  ⟨h1.mid h.1 (by omega), h2.mid (by omega) h.2.1, hb, by
    rw [Int.natAbs_mul, Int.natAbs_natCast]
    exact Nat.lt_of_lt_of_le (nlt_mul h1.den h2.num) (pow_le2 h.2.2)⟩
def sp_add (K : PySem.W.Frag) : Sp := spR (fun z : Rat × Rat => [Fr K z.1, Fr K z.2]) (fun z => Ok2 z.1 z.2) (fun z => Fr K (z.1 + z.2))
def sp_sub (K : PySem.W.Frag) : Sp := spR (fun z : Rat × Rat => [Fr K z.1, Fr K z.2]) (fun z => Ok2 z.1 z.2) (fun z => Fr K (z.1 - z.2))
def sp_mul (K : PySem.W.Frag) : Sp := spR (fun z : Rat × Rat => [Fr K z.1, Fr K z.2]) (fun z => Ok2 z.1 z.2) (fun z => Fr K (z.1 * z.2))
def sp_div (K : PySem.W.Frag) : Sp := spR (fun z : Rat × Rat => [Fr K z.1, Fr K z.2]) (fun z => OkD z.1 z.2) (fun z => Fr K (z.1 / z.2))
def sp_neg (K : PySem.W.Frag) : Sp := spR (fun z : Rat => [Fr K z]) (fun _ => True) (fun z => Fr K (-z))
def sp_less (K : PySem.W.Frag) : Sp := spR (fun z : Rat × Rat => [Fr K z.1, Fr K z.2]) (fun z => Mid z.1 ∧ Mid z.2) (fun z => Bo (decide (z.1 < z.2)))
def sp_at_most (K : PySem.W.Frag) : Sp := spR (fun z : Rat × Rat => [Fr K z.1, Fr K z.2]) (fun z => Mid z.1 ∧ Mid z.2) (fun z => Bo (decide (z.1 ≤ z.2)))
section
variable {S : Sta} {ta tb te : TE} {a b : Rat} {E : XK}
theorem ev_add (ha : EV S ta (Fr K a)) (hb : EV S tb (Fr K b)) (h : Ok2 a b) : EV S (tCall (sp_add K) [] E (tCons ta (tCons tb tNil))) (Fr K (a + b)) := ev_call (a, b) (eva_cons ha (eva_cons hb eva_nil)) h
theorem ev_subq (ha : EV S ta (Fr K a)) (hb : EV S tb (Fr K b)) (h : Ok2 a b) : EV S (tCall (sp_sub K) [] E (tCons ta (tCons tb tNil))) (Fr K (a - b)) := ev_call (a, b) (eva_cons ha (eva_cons hb eva_nil)) h
theorem ev_mul (ha : EV S ta (Fr K a)) (hb : EV S tb (Fr K b)) (h : Ok2 a b) : EV S (tCall (sp_mul K) [] E (tCons ta (tCons tb tNil))) (Fr K (a * b)) := ev_call (a, b) (eva_cons ha (eva_cons hb eva_nil)) h
theorem ev_div (ha : EV S ta (Fr K a)) (hb : EV S tb (Fr K b)) (h : OkD a b) : EV S (tCall (sp_div K) [] E (tCons ta (tCons tb tNil))) (Fr K (a / b)) := ev_call (a, b) (eva_cons ha (eva_cons hb eva_nil)) h
theorem ev_neg (ha : EV S ta (Fr K a)) : EV S (tCall (sp_neg K) [] E (tCons ta tNil)) (Fr K (-a)) := ev_call a (eva_cons ha eva_nil) trivial
theorem ev_less (ha : EV S ta (Fr K a)) (hb : EV S tb (Fr K b)) (h1 : Mid a) (h2 : Mid b) : EV S (tCall (sp_less K) [] E (tCons ta (tCons tb tNil))) (Bo (decide (a < b))) := ev_call (a, b) (eva_cons ha (eva_cons hb eva_nil)) ⟨h1, h2⟩
theorem ev_at_most (ha : EV S ta (Fr K a)) (hb : EV S tb (Fr K b)) (h1 : Mid a) (h2 : Mid b) : EV S (tCall (sp_at_most K) [] E (tCons ta (tCons tb tNil))) (Bo (decide (a ≤ b))) := ev_call (a, b) (eva_cons ha (eva_cons hb eva_nil)) ⟨h1, h2⟩
theorem ev_num (h : EV S te (Fr K a)) : EV S (tOp (rIxT K) te (tC (.int 0))) (It a.num) := ev_op (ot_ixT (k := 0) rfl rfl) h ev_int
theorem ev_den (h : EV S te (Fr K a)) : EV S (tOp (rIxT K) te (tC (.int 1))) (It (a.den : Int)) := ev_op (ot_ixT (k := 1) rfl rfl) h ev_int
theorem ev_imul {i j : Int} (ha : EV S ta (It i)) (hb : EV S tb (It j)) (h : CMulW i j) : EV S (tOp (rI CMulW fun i j => .int (i * j)) ta tb) (It (i * j)) := ev_op (ot_I h) ha hb
theorem ev_iadd {i j : Int} (ha : EV S ta (It i)) (hb : EV S tb (It j)) : EV S (tOp (rI0 fun i j => .int (i + j)) ta tb) (It (i + j)) := ev_op ot_I0 ha hb
theorem ev_isub {i j : Int} (ha : EV S ta (It i)) (hb : EV S tb (It j)) : EV S (tOp (rI0 fun i j => .int (i - j)) ta tb) (It (i - j)) := ev_op ot_I0 ha hb
theorem ev_ilt {i j : Int} (ha : EV S ta (It i)) (hb : EV S tb (It j)) : EV S (tOp (rI0 fun i j => .bl (decide (i < j))) ta tb) (Bo (decide (i < j))) := ev_op (ot_B0 (g := fun i j => decide (i < j))) ha hb
theorem ev_ile {i j : Int} (ha : EV S ta (It i)) (hb : EV S tb (It j)) : EV S (tOp (rI0 fun i j => .bl (decide (i ≤ j))) ta tb) (Bo (decide (i ≤ j))) := ev_op (ot_B0 (g := fun i j => decide (i ≤ j))) ha hb
theorem ev_igt {i j : Int} (ha : EV S ta (It i)) (hb : EV S tb (It j)) : EV S (tOp (rI0 fun i j => .bl (decide (j < i))) ta tb) (Bo (decide (j < i))) := ev_op (ot_B0 (g := fun i j => decide (j < i))) ha hb
theorem ev_ige {i j : Int} (ha : EV S ta (It i)) (hb : EV S tb (It j)) : EV S (tOp (rI0 fun i j => .bl (decide (j ≤ i))) ta tb) (Bo (decide (j ≤ i))) := ev_op (ot_B0 (g := fun i j => decide (j ≤ i))) ha hb
theorem ev_zero (G : Gb K mg) : EV S (tC (.ref G.zero.choose)) (Fr K 0) := ev_c fun H => ⟨_, [.int 0, .int 1], rfl, G.zero.choose_spec.2 H, _, _, rfl, rfl, _, _, rfl, rfl, rfl⟩
theorem ev_one (G : Gb K mg) : EV S (tC (.ref G.one.choose)) (Fr K 1) := ev_c fun H => ⟨_, [.int 1, .int 1], rfl, G.one.choose_spec.2 H, _, _, rfl, rfl, _, _, rfl, rfl, rfl⟩
end
abbrev s_add : Stmt := (topS 5)
theorem sc_add : FnScope ["a", "b"] ["a", "b"] (defScope s_add) := ⟨rfl, rfl, rfl, by decide +kernel, rfl, by decide +kernel, by decide +kernel⟩

abbrev s_sub : Stmt := (topS 6)
theorem sc_sub : FnScope ["a", "b"] ["a", "b"] (defScope s_sub) := ⟨rfl, rfl, rfl, by decide +kernel, rfl, by decide +kernel, by decide +kernel⟩

abbrev s_mul : Stmt := (topS 7)
theorem sc_mul : FnScope ["a", "b"] ["a", "b"] (defScope s_mul) := ⟨rfl, rfl, rfl, by decide +kernel, rfl, by decide +kernel, by decide +kernel⟩

abbrev s_div : Stmt := (topS 8)
theorem sc_div : FnScope ["a", "b"] ["a", "b"] (defScope s_div) := ⟨rfl, rfl, rfl, by decide +kernel, rfl, by decide +kernel, by decide +kernel⟩

abbrev s_neg : Stmt := (topS 9)
theorem sc_neg : FnScope ["a"] ["a"] (defScope s_neg) := ⟨rfl, rfl, rfl, by decide +kernel, rfl, by decide +kernel, by decide +kernel⟩

abbrev s_less : Stmt := (topS 10)
theorem sc_less : FnScope ["a", "b"] ["a", "b"] (defScope s_less) := ⟨rfl, rfl, rfl, by decide +kernel, rfl, by decide +kernel, by decide +kernel⟩

abbrev s_at_most : Stmt := (topS 11)
theorem sc_at_most : FnScope ["a", "b"] ["a", "b"] (defScope s_at_most) := ⟨rfl, rfl, rfl, by decide +kernel, rfl, by decide +kernel, by decide +kernel⟩

theorem ev_ratio {S : Sta} {ta tb : TE} {p q : Int} {E : XK} (ha : EV S ta (It p)) (hb : EV S tb (It q)) (h1 : q ≠ 0) (h2 : q.natAbs < 2 ^ 9000) : EV S (tCall (sp_ratio K) [] E (tCons ta (tCons tb tNil))) (Fr K (Rat.divInt p q)) := ev_call (p, q) (eva_cons ha (eva_cons hb eva_nil)) ⟨h1, h2⟩
theorem ok_add (F : Def0 K mg "add" s_add ["a", "b"]) (d_ratio : DefOk P w K mg base "ratio" 1 ["p", "q"] (sp_ratio K)) : DefOk P w K mg base "add" 2 ["a", "b"] (sp_add K) := by
  refine okD F sc_add (fun _ => rfl) (by decide) fun f cdv A outer s H E hr z h => ⟨_, (pss_one (ps_ret (pe_cd d_ratio (hr.mono (by decide)) (by rfl) (pa_cons (pe_op op_add (pe_op op_mulW (pe_ix (r := rIxT K) ix_tup (pv 0) pe_int (fun _ _ => rfl)) (pe_ix (r := rIxT K) ix_tup (pv 1) pe_int (fun _ _ => rfl))) (pe_op op_mulW (pe_ix (r := rIxT K) ix_tup (pv 1) pe_int (fun _ _ => rfl)) (pe_ix (r := rIxT K) ix_tup (pv 0) pe_int (fun _ _ => rfl)))) (pa_cons (pe_op op_mulW (pe_ix (r := rIxT K) ix_tup (pv 0) pe_int (fun _ _ => rfl)) (pe_ix (r := rIxT K) ix_tup (pv 1) pe_int (fun _ _ => rfl))) pa_nil))))), fun H0 N D rt => ?_⟩
  refine go_ret (R := Fr K (z.1 + z.2)) (ev_eq (ev_ratio (ev_iadd (ev_imul (ev_num (ev_var rfl)) (ev_den (ev_var rfl)) (mulW h.ma.num h.mb.den)) (ev_imul (ev_num (ev_var rfl)) (ev_den (ev_var rfl)) (mulW h.mb.num h.ma.den))) (ev_imul (ev_den (ev_var rfl)) (ev_den (ev_var rfl)) (mulW h.ma.den h.mb.den)) (Int.mul_ne_zero (den_ne _) (den_ne _)) h.q) (by rw [← rat_add])) rt
theorem ok_sub (F : Def0 K mg "sub" s_sub ["a", "b"]) (d_ratio : DefOk P w K mg base "ratio" 1 ["p", "q"] (sp_ratio K)) : DefOk P w K mg base "sub" 2 ["a", "b"] (sp_sub K) := by
  refine okD F sc_sub (fun _ => rfl) (by decide) fun f cdv A outer s H E hr z h => ⟨_, (pss_one (ps_ret (pe_cd d_ratio (hr.mono (by decide)) (by rfl) (pa_cons (pe_op op_sub (pe_op op_mulW (pe_ix (r := rIxT K) ix_tup (pv 0) pe_int (fun _ _ => rfl)) (pe_ix (r := rIxT K) ix_tup (pv 1) pe_int (fun _ _ => rfl))) (pe_op op_mulW (pe_ix (r := rIxT K) ix_tup (pv 1) pe_int (fun _ _ => rfl)) (pe_ix (r := rIxT K) ix_tup (pv 0) pe_int (fun _ _ => rfl)))) (pa_cons (pe_op op_mulW (pe_ix (r := rIxT K) ix_tup (pv 0) pe_int (fun _ _ => rfl)) (pe_ix (r := rIxT K) ix_tup (pv 1) pe_int (fun _ _ => rfl))) pa_nil))))), fun H0 N D rt => ?_⟩
  refine go_ret (R := Fr K (z.1 - z.2)) (ev_eq (ev_ratio (ev_isub (ev_imul (ev_num (ev_var rfl)) (ev_den (ev_var rfl)) (mulW h.ma.num h.mb.den)) (ev_imul (ev_num (ev_var rfl)) (ev_den (ev_var rfl)) (mulW h.mb.num h.ma.den))) (ev_imul (ev_den (ev_var rfl)) (ev_den (ev_var rfl)) (mulW h.ma.den h.mb.den)) (Int.mul_ne_zero (den_ne _) (den_ne _)) h.q) (by rw [← rat_sub])) rt
theorem ok_mul (F : Def0 K mg "mul" s_mul ["a", "b"]) (d_ratio : DefOk P w K mg base "ratio" 1 ["p", "q"] (sp_ratio K)) : DefOk P w K mg base "mul" 2 ["a", "b"] (sp_mul K) := by
  refine okD F sc_mul (fun _ => rfl) (by decide) fun f cdv A outer s H E hr z h => ⟨_, (pss_one (ps_ret (pe_cd d_ratio (hr.mono (by decide)) (by rfl) (pa_cons (pe_op op_mulW (pe_ix (r := rIxT K) ix_tup (pv 0) pe_int (fun _ _ => rfl)) (pe_ix (r := rIxT K) ix_tup (pv 1) pe_int (fun _ _ => rfl))) (pa_cons (pe_op op_mulW (pe_ix (r := rIxT K) ix_tup (pv 0) pe_int (fun _ _ => rfl)) (pe_ix (r := rIxT K) ix_tup (pv 1) pe_int (fun _ _ => rfl))) pa_nil))))), fun H0 N D rt => ?_⟩
  refine go_ret (R := Fr K (z.1 * z.2)) (ev_eq (ev_ratio (ev_imul (ev_num (ev_var rfl)) (ev_num (ev_var rfl)) (mulW h.ma.num h.mb.num)) (ev_imul (ev_den (ev_var rfl)) (ev_den (ev_var rfl)) (mulW h.ma.den h.mb.den)) (Int.mul_ne_zero (den_ne _) (den_ne _)) h.q) (by rw [← rat_mul])) rt
theorem ok_div (F : Def0 K mg "div" s_div ["a", "b"]) (d_ratio : DefOk P w K mg base "ratio" 1 ["p", "q"] (sp_ratio K)) : DefOk P w K mg base "div" 2 ["a", "b"] (sp_div K) := by
  refine okD F sc_div (fun _ => rfl) (by decide) fun f cdv A outer s H E hr z h => ⟨_, (pss_one (ps_ret (pe_cd d_ratio (hr.mono (by decide)) (by rfl) (pa_cons (pe_op op_mulW (pe_ix (r := rIxT K) ix_tup (pv 0) pe_int (fun _ _ => rfl)) (pe_ix (r := rIxT K) ix_tup (pv 1) pe_int (fun _ _ => rfl))) (pa_cons (pe_op op_mulW (pe_ix (r := rIxT K) ix_tup (pv 0) pe_int (fun _ _ => rfl)) (pe_ix (r := rIxT K) ix_tup (pv 1) pe_int (fun _ _ => rfl))) pa_nil))))), fun H0 N D rt => ?_⟩
  refine go_ret (R := Fr K (z.1 / z.2)) (ev_eq (ev_ratio (ev_imul (ev_num (ev_var rfl)) (ev_den (ev_var rfl)) (mulW h.ma.num h.mb.den)) (ev_imul (ev_den (ev_var rfl)) (ev_num (ev_var rfl)) (mulW h.ma.den h.mb.num)) (Int.mul_ne_zero (den_ne _) (num_ne h.nz)) h.q) (by rw [← rat_div])) rt
theorem ok_neg (F : Def0 K mg "neg" s_neg ["a"]) : DefOk P w K mg base "neg" 1 ["a"] (sp_neg K) := by
  refine okD F sc_neg (fun _ => rfl) (by decide) fun f cdv A outer s H E hr z h => ⟨_, (pss_one (ps_ret (pe_tup (pa_cons (pe_un un_neg (pe_ix (r := rIxT K) ix_tup (pv 0) pe_int (fun _ _ => rfl))) (pa_cons (pe_ix (r := rIxT K) ix_tup (pv 0) pe_int (fun _ _ => rfl)) pa_nil))))), fun H0 N D rt => ?_⟩
  refine go_back rt ?_
  unfold Fr
  rw [Rat.neg_num, Rat.neg_den]
  exact ev_tup (eva_cons (ev_un ut_neg (ev_num (ev_var rfl))) (eva_cons (ev_den (ev_var rfl)) eva_nil))
theorem ok_less (F : Def0 K mg "less" s_less ["a", "b"]) : DefOk P w K mg base "less" 1 ["a", "b"] (sp_less K) := by
  refine okD F sc_less (fun _ => rfl) (by decide) fun f cdv A outer s H E hr z h => ⟨_, (pss_one (ps_ret (pe_cmpR op_lt (pe_op op_mulW (pe_ix (r := rIxT K) ix_tup (pv 0) pe_int (fun _ _ => rfl)) (pe_ix (r := rIxT K) ix_tup (pv 1) pe_int (fun _ _ => rfl))) (pe_op op_mulW (pe_ix (r := rIxT K) ix_tup (pv 1) pe_int (fun _ _ => rfl)) (pe_ix (r := rIxT K) ix_tup (pv 0) pe_int (fun _ _ => rfl))) (nomark _)))), fun H0 N D rt => ?_⟩
  exact go_ret (R := Bo (decide (z.1 < z.2))) (ev_eq (ev_ilt (ev_imul (ev_num (ev_var rfl)) (ev_den (ev_var rfl)) (mulW h.1.num h.2.den)) (ev_imul (ev_num (ev_var rfl)) (ev_den (ev_var rfl)) (mulW h.2.num h.1.den))) (by rw [decide_eq_decide.mpr (rat_lt _ _)])) rt
theorem ok_at_most (F : Def0 K mg "at_most" s_at_most ["a", "b"]) : DefOk P w K mg base "at_most" 1 ["a", "b"] (sp_at_most K) := by
  refine okD F sc_at_most (fun _ => rfl) (by decide) fun f cdv A outer s H E hr z h => ⟨_, (pss_one (ps_ret (pe_cmpR op_le (pe_op op_mulW (pe_ix (r := rIxT K) ix_tup (pv 0) pe_int (fun _ _ => rfl)) (pe_ix (r := rIxT K) ix_tup (pv 1) pe_int (fun _ _ => rfl))) (pe_op op_mulW (pe_ix (r := rIxT K) ix_tup (pv 1) pe_int (fun _ _ => rfl)) (pe_ix (r := rIxT K) ix_tup (pv 0) pe_int (fun _ _ => rfl))) (nomark _)))), fun H0 N D rt => ?_⟩
  exact go_ret (R := Bo (decide (z.1 ≤ z.2))) (ev_eq (ev_ile (ev_imul (ev_num (ev_var rfl)) (ev_den (ev_var rfl)) (mulW h.1.num h.2.den)) (ev_imul (ev_num (ev_var rfl)) (ev_den (ev_var rfl)) (mulW h.2.num h.1.den))) (by rw [decide_eq_decide.mpr (rat_le _ _)])) rt
end
end BB
namespace BB
open PySem PySem.Spec PyProof.Rows L2
section
variable {P : Program} {w : World} {K : PySem.W.Frag} {mg : Str → Option Value} {base : Heap}
/-- a list of fractions -/
abbrev Fl (K : PySem.W.Frag) (n : Nat) (f : Nat → Rat) : Rp := Li n fun k => Fr K (f k)
abbrev s_dot : Stmt := (topS 13)
theorem sc_dot : FnScope ["a", "b", "total", "k"] ["a", "b"] (defScope s_dot) := ⟨rfl, rfl, rfl, by decide +kernel, rfl, by decide +kernel, by decide +kernel⟩

structure DotOk (n : Nat) (a b : Nat → Rat) : Prop where
  nb : n ≤ 1000
  m : ∀ k, k < n → Ok2 (a k) (b k)
  s : ∀ k, k < n → Ok2 (sm k fun i => a i * b i) (a k * b k)
def sp_dot (K : PySem.W.Frag) : Sp := spR (fun z : Nat × (Nat → Rat) × (Nat → Rat) => [Fl K z.1 z.2.1, Fl K z.1 z.2.2]) (fun z => DotOk z.1 z.2.1 z.2.2) (fun z => Fr K (sm z.1 fun i => z.2.1 i * z.2.2 i))
theorem ev_dot {S : Sta} {ta tb : TE} {n : Nat} {a b : Nat → Rat} {E : XK} (ha : EV S ta (Fl K n a)) (hb : EV S tb (Fl K n b)) (h : DotOk n a b) : EV S (tCall (sp_dot K) [] E (tCons ta (tCons tb tNil))) (Fr K (sm n fun i => a i * b i)) := ev_call (n, a, b) (eva_cons ha (eva_cons hb eva_nil)) h
theorem ok_dot (G : Gb K mg) (F : Def0 K mg "dot" s_dot ["a", "b"]) (d_add : DefOk P w K mg base "add" 2 ["a", "b"] (sp_add K)) (d_mul : DefOk P w K mg base "mul" 2 ["a", "b"] (sp_mul K)) : DefOk P w K mg base "dot" 3 ["a", "b"] (sp_dot K) := by
  refine okD F sc_dot (fun _ => rfl) (by decide) fun f cdv A outer s H E hr ⟨n, a, b⟩ h => ⟨_, (pss_cons (ps_set (i := 2) sc_dot.nd rfl (.inl rfl) (pe_glob (v := .ref G.zero.choose) rfl G.zero.choose_spec.1 rfl))
        (pss_cons (ps_for PassesOwn.never rfl (pi_range1 (by rfl) G.range (pa_cons (pe_callB (r := rLenQ K) call_len_seq (by rfl) G.len PySem.boot_len (pa_cons (pv 0) pa_nil)) pa_nil)) (pg_name (i := 3) sc_dot.nd rfl (.inl rfl)) (pss_one (ps_set (i := 2) sc_dot.nd rfl (.inl rfl) (pe_cd d_add (hr.mono (by decide)) (by rfl) (pa_cons (pv 2) (pa_cons (pe_cd d_mul (hr.mono (by decide)) (by rfl) (pa_cons (pe_ix (r := rIxL K) ix_list (pv 0) (pv 3) (fun _ _ => rfl)) (pa_cons (pe_ix (r := rIxL K) ix_list (pv 1) (pv 3) (fun _ _ => rfl)) pa_nil))) pa_nil))))))
        (pss_one (ps_ret (pv 2))))), fun H0 N D rt => ?_⟩
  refine go_seq (go_set (ev_zero G) (go_seq ?_))
  refine go_forR (α := Unit) (fun k _ => ⟨H0, N, [], [some (Fl K n a), some (Fl K n b), some (Fr K (sm k fun i => a i * b i)), none]⟩) (fun _ _ => True) (eva_cons (ev_cb ct_len (eva_cons (ev_var rfl) eva_nil)) eva_nil) (by have := h.nb; omega) ⟨(), trivial, fun σ H st => st⟩ (fun k _ hk _ => ?_) fun _ _ => ?_
  · refine go_set (ev_add (ev_var rfl) (ev_mul (ev_op (ot_ixL rfl hk) (ev_var rfl) (ev_var rfl)) (ev_op (ot_ixL rfl hk) (ev_var rfl) (ev_var rfl)) (h.m k hk)) (h.s k hk)) ?_
    exact fun σ H st => ⟨(), trivial, st.wk (by repeat first | exact Wk.nil | refine Wk.keep ?_ | refine Wk.drop ?_)⟩
  · exact go_back rt (ev_var rfl)
abbrev s_scale : Stmt := (topS 14)
theorem sc_scale : FnScope ["k", "a", "x"] ["k", "a"] (defScope s_scale) := ⟨rfl, rfl, rfl, by decide +kernel, rfl, by decide +kernel, by decide +kernel⟩

def sp_scale (K : PySem.W.Frag) : Sp := spR (fun z : Nat × Rat × (Nat → Rat) => [Fr K z.2.1, Fl K z.1 z.2.2]) (fun z => z.1 ≤ 1000 ∧ ∀ i, i < z.1 → Ok2 z.2.1 (z.2.2 i)) (fun z => Fl K z.1 fun i => z.2.1 * z.2.2 i)
theorem ev_scale {S : Sta} {ta tb : TE} {n : Nat} {c : Rat} {a : Nat → Rat} {E : XK} (ha : EV S ta (Fr K c)) (hb : EV S tb (Fl K n a)) (hn : n ≤ 1000) (h : ∀ i, i < n → Ok2 c (a i)) : EV S (tCall (sp_scale K) [] E (tCons ta (tCons tb tNil))) (Fl K n fun i => c * a i) := ev_call (n, c, a) (eva_cons ha (eva_cons hb eva_nil)) ⟨hn, h⟩
theorem ok_scale (F : Def0 K mg "scale" s_scale ["k", "a"]) (d_mul : DefOk P w K mg base "mul" 2 ["a", "b"] (sp_mul K)) : DefOk P w K mg base "scale" 3 ["k", "a"] (sp_scale K) := by
  refine okD F sc_scale (fun _ => rfl) (by decide) fun f cdv A outer s H E hr ⟨n, c, a⟩ h => ⟨_, (pss_one (ps_ret (pe_lc (own := [("x", 2)]) (g := (gName 2)) (tt := tYes) rfl sc_scale.nd (pi_listK (K := K) rfl (pv 1)) (blkOk_by (N := ["k", "a", "x"]) (own := [("x", 2)]) (sc := (defScope s_scale)) (by decide +kernel)) (fun _ _ _ _ _ => (pg_name (i := 2) sc_scale.nd rfl (.inl rfl))) (fun _ _ _ _ _ => pts_nil) (fun _ _ _ _ _ => (pe_cd d_mul (hr.mono (by decide)) (by rfl) (pa_cons (pv 0) (pa_cons (pv 2) pa_nil))))))), fun H0 N D rt => ?_⟩
  exact go_back rt (evn_lcL (ev_var rfl) h.1 fun D k hk => ev_mul (ev_var rfl) (ev_var rfl) (h.2 k hk)).ev
abbrev s_add_scaled : Stmt := (topS 15)
theorem sc_add_scaled : FnScope ["a", "k", "b", "i"] ["a", "k", "b"] (defScope s_add_scaled) := ⟨rfl, rfl, rfl, by decide +kernel, rfl, by decide +kernel, by decide +kernel⟩

structure AscOk (n : Nat) (a : Nat → Rat) (c : Rat) (b : Nat → Rat) : Prop where
  nb : n ≤ 1000
  m : ∀ i, i < n → Ok2 c (b i)
  s : ∀ i, i < n → Ok2 (a i) (c * b i)
def sp_add_scaled (K : PySem.W.Frag) : Sp := spR (fun z : Nat × (Nat → Rat) × Rat × (Nat → Rat) => [Fl K z.1 z.2.1, Fr K z.2.2.1, Fl K z.1 z.2.2.2]) (fun z => AscOk z.1 z.2.1 z.2.2.1 z.2.2.2) (fun z => Fl K z.1 fun i => z.2.1 i + z.2.2.1 * z.2.2.2 i)
theorem ev_add_scaled {S : Sta} {ta tb tc : TE} {n : Nat} {c : Rat} {a b : Nat → Rat} {E : XK} (ha : EV S ta (Fl K n a)) (hc : EV S tc (Fr K c)) (hb : EV S tb (Fl K n b)) (h : AscOk n a c b) :
    EV S (tCall (sp_add_scaled K) [] E (tCons ta (tCons tc (tCons tb tNil)))) (Fl K n fun i => a i + c * b i) := ev_call (n, a, c, b) (eva_cons ha (eva_cons hc (eva_cons hb eva_nil))) h
theorem ok_add_scaled (G : Gb K mg) (F : Def0 K mg "add_scaled" s_add_scaled ["a", "k", "b"]) (d_add : DefOk P w K mg base "add" 2 ["a", "b"] (sp_add K)) (d_mul : DefOk P w K mg base "mul" 2 ["a", "b"] (sp_mul K)) : DefOk P w K mg base "add_scaled" 3 ["a", "k", "b"] (sp_add_scaled K) := by
  refine okD F sc_add_scaled (fun _ => rfl) (by decide) fun f cdv A outer s H E hr ⟨n, a, c, b⟩ h => ⟨_, (pss_one (ps_ret (pe_lc (own := [("i", 3)]) (g := (gName 3)) (tt := tYes) rfl sc_add_scaled.nd (pi_range1 (by rfl) G.range (pa_cons (pe_callB (r := rLenQ K) call_len_seq (by rfl) G.len PySem.boot_len (pa_cons (pv 0) pa_nil)) pa_nil)) (blkOk_by (N := ["a", "k", "b", "i"]) (own := [("i", 3)]) (sc := (defScope s_add_scaled)) (by decide +kernel)) (fun _ _ _ _ _ => (pg_name (i := 3) sc_add_scaled.nd rfl (.inl rfl))) (fun _ _ _ _ _ => pts_nil) (fun _ _ _ _ _ => (pe_cd d_add (hr.mono (by decide)) (by rfl) (pa_cons (pe_ix (r := rIxL K) ix_list (pv 0) (pv 3) (fun _ _ => rfl)) (pa_cons (pe_cd d_mul (hr.mono (by decide)) (by rfl) (pa_cons (pv 1) (pa_cons (pe_ix (r := rIxL K) ix_list (pv 2) (pv 3) (fun _ _ => rfl)) pa_nil))) pa_nil))))))), fun H0 N D rt => ?_⟩
  exact go_back rt (evn_lcR (eva_cons (ev_cb ct_len (eva_cons (ev_var rfl) eva_nil)) eva_nil) h.nb fun D k hk => ev_add (ev_op (ot_ixL rfl hk) (ev_var rfl) (ev_var rfl)) (ev_mul (ev_var rfl) (ev_op (ot_ixL rfl hk) (ev_var rfl) (ev_var rfl)) (h.m k hk)) (h.s k hk)).ev
/-! ### data -/
structure DataV where
  g : Nat
  c : Nat
  l : Nat
  pr : Nat → Nat → Rat
  am : Nat → Nat → Rat
  lk : Nat → Nat × Nat × Bool
abbrev Buy (K : PySem.W.Frag) (g : Nat) (p a : Nat → Rat) : Rp := Tp K [Fl K g p, Fl K g a]
abbrev Lnk (K : PySem.W.Frag) (x : Nat × Nat × Bool) : Rp := Tp K [Nt x.1, Nt x.2.1, Bo x.2.2]
abbrev Buys (K : PySem.W.Frag) (d : DataV) : Rp := Li d.c fun i => Buy K d.g (d.pr i) (d.am i)
abbrev Lnks (K : PySem.W.Frag) (d : DataV) : Rp := Li d.l fun i => Lnk K (d.lk i)
def Dat (K : PySem.W.Frag) (d : DataV) : Rp := ⟨fun H v => ∃ a C dx fs vb vl, v = .ref a ∧ H a = some (.ins C dx fs) ∧ Cls K C ∧ NoAttr K C "buys" ∧ NoAttr K C "links" ∧ fs.lookup ("buys" : Str) = some vb ∧ fs.lookup ("links" : Str) = some vl ∧ (Buys K d).p H vb ∧ (Lnks K d).p H vl,
  fun s ⟨a, C, dx, fs, vb, vl, e, h, c, n1, n2, l1, l2, r1, r2⟩ => ⟨a, C, dx, fs, vb, vl, e, s _ _ h, c, n1, n2, l1, l2, (Buys K d).mono s r1, (Lnks K d).mono s r2⟩⟩
theorem ev_buys {S : Sta} {te : TE} {d : DataV} (h : EV S te (Dat K d)) : EV S (tFld K te "buys") (Buys K d) := fun σ H st Q q =>
  h σ H st _ fun v H1 s1 ⟨a, C, dx, fs, vb, vl, e, h, c, n1, n2, l1, l2, r1, r2⟩ => ⟨a, C, dx, fs, vb, e, hid_sub _ _ h, c, n1, l1, q vb H1 s1 r1⟩
theorem ev_links {S : Sta} {te : TE} {d : DataV} (h : EV S te (Dat K d)) : EV S (tFld K te "links") (Lnks K d) := fun σ H st Q q =>
  h σ H st _ fun v H1 s1 ⟨a, C, dx, fs, vb, vl, e, h, c, n1, n2, l1, l2, r1, r2⟩ => ⟨a, C, dx, fs, vl, e, hid_sub _ _ h, c, n2, l2, q vl H1 s1 r2⟩
abbrev s_cost : Stmt := (topS 18)
theorem sc_cost : FnScope ["prices", "amounts"] ["prices", "amounts"] (defScope s_cost) := ⟨rfl, rfl, rfl, by decide +kernel, rfl, by decide +kernel, by decide +kernel⟩

abbrev s_spent : Stmt := (topS 19)
theorem sc_spent : FnScope ["data", "i", "prices", "amounts"] ["data", "i"] (defScope s_spent) := ⟨rfl, rfl, rfl, by decide +kernel, rfl, by decide +kernel, by decide +kernel⟩

def sp_cost (K : PySem.W.Frag) : Sp := spR (fun z : Nat × (Nat → Rat) × (Nat → Rat) => [Fl K z.1 z.2.1, Fl K z.1 z.2.2]) (fun z => DotOk z.1 z.2.1 z.2.2) (fun z => Fr K (sm z.1 fun i => z.2.1 i * z.2.2 i))
theorem ev_cost {S : Sta} {ta tb : TE} {n : Nat} {a b : Nat → Rat} {E : XK} (ha : EV S ta (Fl K n a)) (hb : EV S tb (Fl K n b)) (h : DotOk n a b) : EV S (tCall (sp_cost K) [] E (tCons ta (tCons tb tNil))) (Fr K (sm n fun i => a i * b i)) := ev_call (n, a, b) (eva_cons ha (eva_cons hb eva_nil)) h
theorem ok_cost (F : Def0 K mg "cost" s_cost ["prices", "amounts"]) (d_dot : DefOk P w K mg base "dot" 3 ["a", "b"] (sp_dot K)) : DefOk P w K mg base "cost" 4 ["prices", "amounts"] (sp_cost K) := by
  refine okD F sc_cost (fun _ => rfl) (by decide) fun f cdv A outer s H E hr ⟨n, a, b⟩ h => ⟨_, (pss_one (ps_ret (pe_cd d_dot (hr.mono (by decide)) (by rfl) (pa_cons (pv 0) (pa_cons (pv 1) pa_nil))))), fun H0 N D rt => ?_⟩
  exact go_back rt (ev_dot (ev_var rfl) (ev_var rfl) h)
def DataV.sp (d : DataV) (i : Nat) : Rat := sm d.g fun k => d.pr i k * d.am i k
def sp_spent (K : PySem.W.Frag) : Sp := spR (fun z : DataV × Nat => [Dat K z.1, Nt z.2]) (fun z => z.2 < z.1.c ∧ DotOk z.1.g (z.1.pr z.2) (z.1.am z.2)) (fun z => Fr K (z.1.sp z.2))
theorem ev_spent {S : Sta} {ta tb : TE} {d : DataV} {i : Nat} {E : XK} (ha : EV S ta (Dat K d)) (hb : EV S tb (Nt i)) (hi : i < d.c) (h : DotOk d.g (d.pr i) (d.am i)) : EV S (tCall (sp_spent K) [] E (tCons ta (tCons tb tNil))) (Fr K (d.sp i)) := ev_call (d, i) (eva_cons ha (eva_cons hb eva_nil)) ⟨hi, h⟩
theorem ok_spent (F : Def0 K mg "spent" s_spent ["data", "i"]) (d_dot : DefOk P w K mg base "dot" 3 ["a", "b"] (sp_dot K)) : DefOk P w K mg base "spent" 4 ["data", "i"] (sp_spent K) := by
  refine okD F sc_spent (fun _ => rfl) (by decide) fun f cdv A outer s H E hr ⟨d, i⟩ h => ⟨_, (pss_cons (ps_asg (pe_ix (r := rIxL K) ix_list (pe_fldK (K := K) rfl (pv 0) rfl) (pv 1) (fun _ _ => rfl)) (pg_tupK (K := K) rfl (by rfl) (pgs_cons (pg_name (i := 2) sc_spent.nd rfl (.inl rfl)) (pgs_cons (pg_name (i := 3) sc_spent.nd rfl (.inl rfl)) pgs_nil))))
        (pss_one (ps_ret (pe_cd d_dot (hr.mono (by decide)) (by rfl) (pa_cons (pv 2) (pa_cons (pv 3) pa_nil)))))), fun H0 N D rt => ?_⟩
  refine go_seq (go_asg (ev_op (ot_ixL rfl h.1) (ev_buys (ev_var rfl)) (ev_var rfl)) (gt_tup rfl (gl_cons (gl_cons gl_nil))) ?_)
  exact go_back rt (ev_dot (ev_var rfl) (ev_var rfl) h.2)
end
end BB
namespace BB
open PySem PySem.Spec PyProof.Rows L2
/-! ### == of fractions, of texts; lists of one's own told otherwise -/
theorem fr_dp {K : PySem.W.Frag} {H : Hp} {N : List Addr} {x : Rat} {v : V} (h : (Fr K x).p (hid H N) v) : Dp K H v (.tuple [.int x.num, .int (x.den : Int)]) := by
  obtain ⟨a, vs, e, hs, v1, r1, e1, h1, v2, r2, e2, h2, e3⟩ := h
  have h1' : v1 = .int x.num := h1
  have h2' : v2 = .int (x.den : Int) := h2
  have e3' : r2 = [] := e3
  subst e e1 e2 e3' h1' h2'
  exact .tup (seqT hid_sub hs) (.cons (.int _) (.cons (.int _) .nil))
theorem fr_eqv (a b : Rat) : PyData.eqv (.tuple [.int a.num, .int (a.den : Int)]) (.tuple [.int b.num, .int (b.den : Int)]) = decide (a = b) := by
  have e : PyData.eqv (.tuple [.int a.num, .int (a.den : Int)]) (.tuple [.int b.num, .int (b.den : Int)]) = ((a.num == b.num) && (((a.den : Int) == (b.den : Int)) && true)) := by
    simp only [PyData.eqv, PyData.eqvAll]
  rw [e, Bool.and_true]
  by_cases h : a = b
  · subst h
    simp
  · rw [decide_eq_false h]
    by_cases h1 : a.num = b.num
    · have h2 : a.den ≠ b.den := fun z => h (Rat.ext h1 z)
      have : ((a.den : Int) == (b.den : Int)) = false := by
        rw [beq_eq_false_iff_ne]; omega
      rw [this, Bool.and_false]
    · rw [show (a.num == b.num) = false from beq_eq_false_iff_ne.mpr h1, Bool.false_and]
theorem fr_shaped (a : Rat) : SeqAt.shaped (.tuple [.int a.num, .int (a.den : Int)]) = true := by
  unfold SeqAt.shaped
  simp [PyData.canLay0, PyData.canLayAll0, PyData.depth, PyData.depthAll]
theorem ot_eqF {K : PySem.W.Frag} {a b : Rat} : OT (rEqD K) (Fr K a) (Fr K b) (Bo (decide (a = b))) := fun H N x y Q _ rx ry q =>
  ⟨_, _, fr_dp rx, fr_dp ry, fr_shaped a, fr_shaped b, by rw [fr_eqv]; exact q _ H (Same.refl H) rfl⟩
theorem ot_neF {K : PySem.W.Frag} {a b : Rat} : OT (rNeD K) (Fr K a) (Fr K b) (Bo (!decide (a = b))) := fun H N x y Q _ rx ry q =>
  ⟨_, _, fr_dp rx, fr_dp ry, fr_shaped a, fr_shaped b, by rw [fr_eqv]; exact q _ H (Same.refl H) rfl⟩
theorem Stt.mset {H0 : Hp} {N : List Addr} {M2 : Mt} {Γ : List (Option Rp)} {σ : L2.St} {H : Hp} {p : Addr} {n n' : Nat} {f f' : Nat → Rp} (st : Stt ⟨H0, N, (p, n, f) :: M2, Γ⟩ σ H) (en : n = n') (h : ∀ k, k < n → ∀ H v, (f k).p H v → (f' k).p H v) : Stt ⟨H0, N, (p, n', f') :: M2, Γ⟩ σ H :=
  ⟨st.same, st.nold, fun q hq => by
    rcases List.mem_cons.mp hq with e | e
    · rw [e]
      exact st.mnew (p, n, f) (List.mem_cons_self ..)
    · exact st.mnew q (List.mem_cons_of_mem _ e), fun q hq => by
    rcases List.mem_cons.mp hq with e | e
    · subst e
      obtain ⟨vs, a, b, c⟩ := st.mem (p, n, f) (List.mem_cons_self ..)
      have b' : vs.length = n := b
      exact ⟨vs, a, by rw [b', en], fun k x z => h k (by rw [← b']; exact (List.getElem?_eq_some_iff.mp z).1) _ _ (c k x z)⟩
    · exact st.mem q (List.mem_cons_of_mem _ e), st.len, st.sl, st.nd⟩
theorem snoc_at {n : Nat} {f f' : Nat → Rp} {R : Rp} (h1 : ∀ k, k < n → f k = f' k) (h2 : R = f' n) : ∀ k, k < n + 1 → ∀ H v, (snoc n f R k).p H v → (f' k).p H v := fun k hk H v => by
  unfold snoc
  by_cases e : k = n
  · rw [if_pos e, h2, e]; exact fun h => h
  · rw [if_neg e, h1 k (by omega)]; exact fun h => h
theorem snoc_to {n : Nat} {f f' : Nat → Rp} {R : Rp} (h1 : ∀ k, k < n → f k = f' k) (h2 : ∀ H v, R.p H v → (f' n).p H v) : ∀ k, k < n + 1 → ∀ H v, (snoc n f R k).p H v → (f' k).p H v := fun k hk H v => by
  unfold snoc
  by_cases e : k = n
  · rw [if_pos e, e]; exact h2 H v
  · rw [if_neg e, h1 k (by omega)]; exact fun h => h
theorem put_to {n j : Nat} {f f' : Nat → Rp} {R : Rp} (h1 : ∀ k, k < n → k ≠ j → f k = f' k) (h2 : R = f' j) : ∀ k, k < n → ∀ H v, (putAt j f R k).p H v → (f' k).p H v := fun k hk H v => by
  unfold putAt
  by_cases e : k = j
  · rw [if_pos e, h2, e]; exact fun h => h
  · rw [if_neg e, h1 k hk e]; exact fun h => h
theorem li_eq {n : Nat} {f f' : Nat → Rp} (h : ∀ k, k < n → f k = f' k) (H : Hp) (v : V) (r : (Li n f).p H v) : (Li n f').p H v := by
  obtain ⟨a, vs, e, h1, h2, h3⟩ := r
  exact ⟨a, vs, e, h1, h2, fun k x z => by
    rw [← h k (by rw [← h2]; exact (List.getElem?_eq_some_iff.mp z).1)]
    exact h3 k x z⟩
section
variable {P : Program} {w : World} {K : PySem.W.Frag} {mg : Str → Option Value} {base : Heap}
/-! ### lines -/
def ks : LK → Str
  | .least => "least"
  | .equal => "equal"
  | .most => "most"
theorem ks_inj {a b : LK} : ks a = ks b ↔ a = b := by
  constructor
  · intro h
    cases a <;> cases b <;> first | rfl | (exfalso; revert h; decide)
  · intro h; rw [h]
abbrev Ln (K : PySem.W.Frag) (cnt : Nat) (ent : Nat → Rat) (k : LK) (r : Rat) : Rp := Tp K [Fl K cnt ent, Sr (ks k), Fr K r]
abbrev TLn (K : PySem.W.Frag) (cnt : Nat) (ent : Nat → Rat) (k : LK) (r : Rat) : Rp := Tp K [Fl K cnt ent, Sr (ks k), Fr K r, Bo false]
abbrev s_turned : Stmt := (topS 22)
theorem sc_turned : FnScope ["line", "entries", "kind", "right", "other", "x"] ["line"] (defScope s_turned) := ⟨rfl, rfl, rfl, by decide +kernel, rfl, by decide +kernel, by decide +kernel⟩

def sp_turned (K : PySem.W.Frag) : Sp := spR (fun z : Nat × (Nat → Rat) × LK × Rat => [Ln K z.1 z.2.1 z.2.2.1 z.2.2.2]) (fun z => 0 < z.2.2.2 ∧ Mid z.2.2.2) (fun z => TLn K z.1 z.2.1 z.2.2.1 z.2.2.2)
theorem mid0 : Mid 0 := Bd.zero.mid (by decide) (by decide)
theorem mid1 : Mid 1 := Bd.one.mid (by decide) (by decide)
theorem ok_turned (G : Gb K mg) (F : Def0 K mg "turned" s_turned ["line"]) (d_less : DefOk P w K mg base "less" 1 ["a", "b"] (sp_less K)) (d_neg : DefOk P w K mg base "neg" 1 ["a"] (sp_neg K)) : DefOk P w K mg base "turned" 2 ["line"] (sp_turned K) := by
  refine okD F sc_turned (fun _ => rfl) (by decide) fun f cdv A outer s H E hr ⟨cnt, ent, kd, r⟩ h => ⟨_, (pss_cons (ps_asg (pv 0) (pg_tupK (K := K) rfl (by rfl) (pgs_cons (pg_name (i := 1) sc_turned.nd rfl (.inl rfl)) (pgs_cons (pg_name (i := 2) sc_turned.nd rfl (.inl rfl)) (pgs_cons (pg_name (i := 3) sc_turned.nd rfl (.inl rfl)) pgs_nil)))))
        (pss_cons (ps_if (PW.pt (pw_and (pt_not (pt_val (pe_cd d_less (hr.mono (by decide)) (by rfl) (pa_cons (pv 3) (pa_cons (pe_glob (v := .ref G.zero.choose) rfl G.zero.choose_spec.1 rfl) pa_nil))))) (pw_and1 (PW.pt (pw_or (pt_cmpR op_ne (pv 2) pe_str (nomark _)) (pw_or1 (pt_cmpR (r := rNeD K) (op_neD hr.units) (pv 3) (pe_glob (v := .ref G.zero.choose) rfl G.zero.choose_spec.1 rfl) (nomark _)))))))) (pss_one (ps_ret (pe_tup (pa_cons (pv 1) (pa_cons (pv 2) (pa_cons (pv 3) (pa_cons pe_bl pa_nil))))))) pss_nil)
        (pss_cons (ps_set (i := 4) sc_turned.nd rfl (.inl rfl) (pv 2))
        (pss_cons (ps_if (pt_cmpR op_eq (pv 2) pe_str (nomark _)) (pss_one (ps_set (i := 4) sc_turned.nd rfl (.inl rfl) pe_str)) (pss_one (ps_if (pt_cmpR op_eq (pv 2) pe_str (nomark _)) (pss_one (ps_set (i := 4) sc_turned.nd rfl (.inl rfl) pe_str)) pss_nil)))
        (pss_one (ps_ret (pe_tup (pa_cons (pe_lc (own := [("x", 5)]) (g := (gName 5)) (tt := tYes) rfl sc_turned.nd (pi_listK (K := K) rfl (pv 1)) (blkOk_by (N := ["line", "entries", "kind", "right", "other", "x"]) (own := [("x", 5)]) (sc := (defScope s_turned)) (by decide +kernel)) (fun _ _ _ _ _ => (pg_name (i := 5) sc_turned.nd rfl (.inl rfl))) (fun _ _ _ _ _ => pts_nil) (fun _ _ _ _ _ => (pe_cd d_neg (hr.mono (by decide)) (by rfl) (pa_cons (pv 5) pa_nil)))) (pa_cons (pv 4) (pa_cons (pe_cd d_neg (hr.mono (by decide)) (by rfl) (pa_cons (pv 3) pa_nil)) (pa_cons pe_bl pa_nil))))))))))), fun H0 N D rt => ?_⟩
  have h1 : 0 < r := h.1
  refine go_seq (go_asg (ev_var rfl) (gt_tup rfl (gl_cons (gl_cons (gl_cons gl_nil)))) ?_)
  refine go_seq (go_if (et_and (et_not (et_B (ev_less (ev_var rfl) (ev_zero G) h.2 mid0))) fun _ => et_or (et_test (ev_op ot_neS (ev_var rfl) ev_str)) fun _ => et_test (ev_op ot_neF (ev_var rfl) (ev_zero G))) (fun _ => ?_) fun h2 => ?_)
  · exact go_back rt (ev_tup (eva_cons (ev_var rfl) (eva_cons (ev_var rfl) (eva_cons (ev_var rfl) (eva_cons ev_bl eva_nil)))))
  · have e1 : decide (r < 0) = false := decide_eq_false (by grind)
    have e2 : decide (r = 0) = false := decide_eq_false (by grind)
    rw [e1, e2] at h2
    simp at h2
/-! ### columns -/
def colK (no : LK) (start : Nat) (kind : Nat → LK) (k : Nat) : Option Nat := if kind k = no then none else some (start + cntK no kind k)
abbrev TLns (K : PySem.W.Frag) (m cnt : Nat) (ent : Nat → Nat → Rat) (kind : Nat → LK) (right : Nat → Rat) : Rp := Li m fun k => TLn K cnt (ent k) (kind k) (right k)
abbrev Cols (m : Nat) (no : LK) (start : Nat) (kind : Nat → LK) : Rp := Li m fun k => On (colK no start kind k)
structure LnV where
  m : Nat
  cnt : Nat
  ent : Nat → Nat → Rat
  kind : Nat → LK
  right : Nat → Rat
abbrev LnV.rp (K : PySem.W.Frag) (z : LnV) : Rp := TLns K z.m z.cnt z.ent z.kind z.right
abbrev s_slack_columns : Stmt := (topS 23)
theorem sc_slack_columns : FnScope ["count", "lines", "result", "column", "line"] ["count", "lines"] (defScope s_slack_columns) := ⟨rfl, rfl, rfl, by decide +kernel, rfl, by decide +kernel, by decide +kernel⟩

abbrev s_helper_columns : Stmt := (topS 24)
theorem sc_helper_columns : FnScope ["column", "lines", "result", "line"] ["column", "lines"] (defScope s_helper_columns) := ⟨rfl, rfl, rfl, by decide +kernel, rfl, by decide +kernel, by decide +kernel⟩

def sp_cols (K : PySem.W.Frag) (no : LK) : Sp := spR (fun z : Nat × LnV => [Nt z.1, z.2.rp K]) (fun z => z.2.m ≤ 1000) (fun z => Tp K [Cols z.2.m no z.1 z.2.kind, Nt (z.1 + cntK no z.2.kind z.2.m)])
theorem ok_slack (G : Gb K mg) (F : Def0 K mg "slack_columns" s_slack_columns ["count", "lines"]) : DefOk P w K mg base "slack_columns" 1 ["count", "lines"] (sp_cols K .equal) := by
  refine okD F sc_slack_columns (fun _ => rfl) (by decide) fun f cdv A outer s H E hr ⟨c, z⟩ h => ⟨_, (pss_cons (ps_set (i := 2) sc_slack_columns.nd rfl (.inl rfl) (pe_lst pa_nil))
        (pss_cons (ps_set (i := 3) sc_slack_columns.nd rfl (.inl rfl) (pv 0))
        (pss_cons (ps_for PassesOwn.never rfl (pi_listK (K := K) rfl (pv 1)) (pg_name (i := 4) sc_slack_columns.nd rfl (.inl rfl)) (pss_one (ps_if (pt_cmpR op_eq (pe_ix (r := rIxT K) ix_tup (pv 4) pe_int (fun _ _ => rfl)) pe_str (nomark _)) (pss_one (ps_expr (pe_appK (K := K) rfl (pv 2) (pa_cons pe_non pa_nil)))) (pss_cons (ps_expr (pe_appK (K := K) rfl (pv 2) (pa_cons (pv 3) pa_nil)))
        (pss_one (ps_set (i := 3) sc_slack_columns.nd rfl (.inl rfl) (pe_op op_add (pv 3) pe_int)))))))
        (pss_one (ps_ret (pe_tup (pa_cons (pv 2) (pa_cons (pv 3) pa_nil)))))))), fun H0 N D rt => ?_⟩
  refine go_seq (go_new (evn_lst eva_nil) fun p => go_seq (go_set (ev_var rfl) (go_seq ?_)))
  refine go_forL (α := Unit) (fun G' k _ => ⟨G', N, [(p, k, fun j => On (colK .equal c z.kind j))], [some (Nt c), some (z.rp K), some (Pt p), some (Nt (c + cntK .equal z.kind k)), none]⟩)
    (fun G' k _ => ⟨G', N, [(p, k, fun j => On (colK .equal c z.kind j))], [some (Nt c), some (z.rp K), some (Pt p), some (Nt (c + cntK .equal z.kind k)), some (TLn K z.cnt (z.ent k) (z.kind k) (z.right k))]⟩) (fun _ _ => True) (ev_var rfl) (fun _ _ _ => ⟨rfl, rfl, rfl⟩)
    (fun G' => ⟨(), trivial, fun σ H st => st.mset rfl fun k hk => absurd hk (Nat.not_lt_zero k)⟩) (fun _ _ _ _ => gt_name) (fun G' k _ s1 hk _ => ?_) fun G' _ s1 _ => ?_
  · refine go_if (et_test (ev_op ot_eqS (ev_op (ot_ixT (k := 1) rfl rfl) (ev_var rfl) ev_int) ev_str)) (fun h2 => ?_) fun h2 => ?_
    · have e : z.kind k = .equal := ks_inj.mp (of_decide_eq_true h2)
      refine go_app (M1 := []) rfl rfl (by have h' : z.m ≤ 1000 := h; omega) ev_non fun σ H st => ⟨(), trivial, ?_⟩
      have e1 : cntK .equal z.kind (k + 1) = cntK .equal z.kind k := by simp [cntK, e]
      rw [e1]
      exact (st.mset rfl (snoc_at (fun _ _ => rfl) (by unfold colK; rw [if_pos e]; rfl))).wk (by repeat first | exact Wk.nil | refine Wk.keep ?_ | refine Wk.drop ?_)
    · have e : ¬ z.kind k = .equal := fun y => of_decide_eq_false h2 (ks_inj.mpr y)
      refine go_seq (go_app (M1 := []) rfl rfl (by have h' : z.m ≤ 1000 := h; omega) (ev_var rfl) (go_set (ev_iadd (ev_var rfl) ev_int) fun σ H st => ⟨(), trivial, ?_⟩))
      have e1 : cntK .equal z.kind (k + 1) = cntK .equal z.kind k + 1 := by simp [cntK, e]
      rw [e1]
      exact (st.mset rfl (snoc_at (fun _ _ => rfl) (by unfold colK; rw [if_neg e]; rfl))).wk (by repeat first | exact Wk.nil | refine Wk.keep ?_ | refine Wk.drop ?_)
  · refine go_freeze (i := 2) rfl rfl ?_
    exact go_back (rt.base s1) (ev_tup (eva_cons (ev_var rfl) (eva_cons (ev_var rfl) eva_nil)))
theorem ok_helper (G : Gb K mg) (F : Def0 K mg "helper_columns" s_helper_columns ["column", "lines"]) : DefOk P w K mg base "helper_columns" 1 ["column", "lines"] (sp_cols K .most) := by
  refine okD F sc_helper_columns (fun _ => rfl) (by decide) fun f cdv A outer s H E hr ⟨c, z⟩ h => ⟨_, (pss_cons (ps_set (i := 2) sc_helper_columns.nd rfl (.inl rfl) (pe_lst pa_nil))
        (pss_cons (ps_for PassesOwn.never rfl (pi_listK (K := K) rfl (pv 1)) (pg_name (i := 3) sc_helper_columns.nd rfl (.inl rfl)) (pss_one (ps_if (pt_cmpR op_eq (pe_ix (r := rIxT K) ix_tup (pv 3) pe_int (fun _ _ => rfl)) pe_str (nomark _)) (pss_one (ps_expr (pe_appK (K := K) rfl (pv 2) (pa_cons pe_non pa_nil)))) (pss_cons (ps_expr (pe_appK (K := K) rfl (pv 2) (pa_cons (pv 0) pa_nil)))
        (pss_one (ps_set (i := 0) sc_helper_columns.nd rfl (.inl rfl) (pe_op op_add (pv 0) pe_int)))))))
        (pss_one (ps_ret (pe_tup (pa_cons (pv 2) (pa_cons (pv 0) pa_nil))))))), fun H0 N D rt => ?_⟩
  refine go_seq (go_new (evn_lst eva_nil) fun p => go_seq ?_)
  refine go_forL (α := Unit) (fun G' k _ => ⟨G', N, [(p, k, fun j => On (colK .most c z.kind j))], [some (Nt (c + cntK .most z.kind k)), some (z.rp K), some (Pt p), none]⟩)
    (fun G' k _ => ⟨G', N, [(p, k, fun j => On (colK .most c z.kind j))], [some (Nt (c + cntK .most z.kind k)), some (z.rp K), some (Pt p), some (TLn K z.cnt (z.ent k) (z.kind k) (z.right k))]⟩) (fun _ _ => True) (ev_var rfl) (fun _ _ _ => ⟨rfl, rfl, rfl⟩)
    (fun G' => ⟨(), trivial, fun σ H st => st.mset rfl fun k hk => absurd hk (Nat.not_lt_zero k)⟩) (fun _ _ _ _ => gt_name) (fun G' k _ s1 hk _ => ?_) fun G' _ s1 _ => ?_
  · refine go_if (et_test (ev_op ot_eqS (ev_op (ot_ixT (k := 1) rfl rfl) (ev_var rfl) ev_int) ev_str)) (fun h2 => ?_) fun h2 => ?_
    · have e : z.kind k = .most := ks_inj.mp (of_decide_eq_true h2)
      refine go_app (M1 := []) rfl rfl (by have h' : z.m ≤ 1000 := h; omega) ev_non fun σ H st => ⟨(), trivial, ?_⟩
      have e1 : cntK .most z.kind (k + 1) = cntK .most z.kind k := by simp [cntK, e]
      rw [e1]
      exact (st.mset rfl (snoc_at (fun _ _ => rfl) (by unfold colK; rw [if_pos e]; rfl))).wk (by repeat first | exact Wk.nil | refine Wk.keep ?_ | refine Wk.drop ?_)
    · have e : ¬ z.kind k = .most := fun y => of_decide_eq_false h2 (ks_inj.mpr y)
      refine go_seq (go_app (M1 := []) rfl rfl (by have h' : z.m ≤ 1000 := h; omega) (ev_var rfl) (go_set (ev_iadd (ev_var rfl) ev_int) fun σ H st => ⟨(), trivial, ?_⟩))
      have e1 : cntK .most z.kind (k + 1) = cntK .most z.kind k + 1 := by simp [cntK, e]
      rw [e1]
      exact (st.mset rfl (snoc_at (fun _ _ => rfl) (by unfold colK; rw [if_neg e]; rfl))).wk (by repeat first | exact Wk.nil | refine Wk.keep ?_ | refine Wk.drop ?_)
  · refine go_freeze (i := 2) rfl rfl ?_
    exact go_back (rt.base s1) (ev_tup (eva_cons (ev_var rfl) (eva_cons (ev_var rfl) eva_nil)))
end
end BB
namespace BB
open PySem PySem.Spec PyProof.Rows L2
section
variable {P : Program} {w : World} {K : PySem.W.Frag} {mg : Str → Option Value} {base : Heap}
/-! ### rows -/
abbrev Mx (K : PySem.W.Frag) (R n : Nat) (T : Nat → Nat → Rat) : Rp := Li R fun k => Fl K n (T k)
abbrev Il (n : Nat) (f : Nat → Nat) : Rp := Li n fun k => Nt (f k)
abbrev s_less_times : Stmt := (topS 26)
theorem sc_less_times : FnScope ["a", "times", "b"] ["a", "times", "b"] (defScope s_less_times) := ⟨rfl, rfl, rfl, by decide +kernel, rfl, by decide +kernel, by decide +kernel⟩

structure LtOk (a t b : Rat) : Prop where
  m : Ok2 t b
  s : Ok2 a (t * b)
  b : Mid b
def sp_less_times (K : PySem.W.Frag) : Sp := spR (fun z : Rat × Rat × Rat => [Fr K z.1, Fr K z.2.1, Fr K z.2.2]) (fun z => LtOk z.1 z.2.1 z.2.2) (fun z => Fr K (z.1 - z.2.1 * z.2.2))
theorem ev_less_times {S : Sta} {ta tb tc : TE} {a t b : Rat} {E : XK} (ha : EV S ta (Fr K a)) (ht : EV S tb (Fr K t)) (hb : EV S tc (Fr K b)) (h : LtOk a t b) : EV S (tCall (sp_less_times K) [] E (tCons ta (tCons tb (tCons tc tNil)))) (Fr K (a - t * b)) := ev_call (a, t, b) (eva_cons ha (eva_cons ht (eva_cons hb eva_nil))) h
theorem ok_less_times (G : Gb K mg) (F : Def0 K mg "less_times" s_less_times ["a", "times", "b"]) (d_sub : DefOk P w K mg base "sub" 2 ["a", "b"] (sp_sub K)) (d_mul : DefOk P w K mg base "mul" 2 ["a", "b"] (sp_mul K)) : DefOk P w K mg base "less_times" 3 ["a", "times", "b"] (sp_less_times K) := by
  refine okD F sc_less_times (fun _ => rfl) (by decide) fun f cdv A outer s H E hr ⟨a, t, b⟩ h => ⟨_, (pss_cons (ps_if (pt_cmpR (r := rEqD K) (op_eqD hr.units) (pv 2) (pe_glob (v := .ref G.zero.choose) rfl G.zero.choose_spec.1 rfl) (nomark _)) (pss_one (ps_ret (pv 0))) pss_nil)
        (pss_one (ps_ret (pe_cd d_sub (hr.mono (by decide)) (by rfl) (pa_cons (pv 0) (pa_cons (pe_cd d_mul (hr.mono (by decide)) (by rfl) (pa_cons (pv 1) (pa_cons (pv 2) pa_nil))) pa_nil)))))), fun H0 N D rt => ?_⟩
  refine go_seq (go_if (et_test (ev_op ot_eqF (ev_var rfl) (ev_zero G))) (fun h2 => ?_) fun _ => ?_)
  · have e : b = 0 := of_decide_eq_true h2
    refine go_back rt (ev_eq (ev_var rfl) ?_)
    show Fr K a = Fr K (a - t * b)
    rw [e]
    congr 1
    grind
  · exact go_back rt (ev_subq (ev_var rfl) (ev_mul (ev_var rfl) (ev_var rfl) h.m) h.s)
/-! ### the first rows -/
abbrev s_first_rows : Stmt := (topS 25)
theorem sc_first_rows : FnScope ["lines", "slacks", "helpers", "total", "rows", "k", "entries", "kind", "right", "was_turned", "row", "c"] ["lines", "slacks", "helpers", "total"] (defScope s_first_rows) := ⟨rfl, rfl, rfl, by decide +kernel, rfl, by decide +kernel, by decide +kernel⟩

def rowF (K : PySem.W.Frag) (n : Nat) (f : Nat → Rat) : Nat → Rp := fun k => Fr K (f k)
/-- as the def makes it -/
def mkRow (L : Lp) (k c : Nat) : Rat := if c < L.cnt then L.ent k c else 0
structure FrOk (z : LnV) (total : Nat) : Prop where
  m : z.m ≤ 100
  t : total = (⟨z.m, z.cnt, z.ent, z.kind, z.right⟩ : Lp).n
  tb : total ≤ 100
def LnV.lp (z : LnV) : Lp := ⟨z.m, z.cnt, z.ent, z.kind, z.right⟩
def sp_first_rows (K : PySem.W.Frag) : Sp := spR (fun z : LnV => [z.rp K, Cols z.m .equal z.cnt z.kind, Cols z.m .most z.lp.w z.kind, Nt z.lp.n]) (fun z => z.m ≤ 100 ∧ z.lp.n ≤ 100) (fun z => Mx K z.m (z.lp.n + 1) z.lp.A)
theorem on_some {o : Option Nat} {j : Nat} (h : o = some j) (H : Hp) (v : V) (r : (On o).p H v) : (Nt j).p H v := by rw [h] at r; exact r
theorem ok_first_rows (G : Gb K mg) (F : Def0 K mg "first_rows" s_first_rows ["lines", "slacks", "helpers", "total"]) (d_neg : DefOk P w K mg base "neg" 1 ["a"] (sp_neg K)) : DefOk P w K mg base "first_rows" 2 ["lines", "slacks", "helpers", "total"] (sp_first_rows K) := by
  refine okD F sc_first_rows (fun _ => rfl) (by decide) fun f cdv A outer s H E hr z h => ⟨_, (pss_cons (ps_set (i := 4) sc_first_rows.nd rfl (.inl rfl) (pe_lst pa_nil))
        (pss_cons (ps_for PassesOwn.never rfl (pi_range1 (by rfl) G.range (pa_cons (pe_callB (r := rLenQ K) call_len_seq (by rfl) G.len PySem.boot_len (pa_cons (pv 0) pa_nil)) pa_nil)) (pg_name (i := 5) sc_first_rows.nd rfl (.inl rfl)) (pss_cons (ps_asg (pe_ix (r := rIxL K) ix_list (pv 0) (pv 5) (fun _ _ => rfl)) (pg_tupK (K := K) rfl (by rfl) (pgs_cons (pg_name (i := 6) sc_first_rows.nd rfl (.inl rfl)) (pgs_cons (pg_name (i := 7) sc_first_rows.nd rfl (.inl rfl)) (pgs_cons (pg_name (i := 8) sc_first_rows.nd rfl (.inl rfl)) (pgs_cons (pg_name (i := 9) sc_first_rows.nd rfl (.inl rfl)) pgs_nil))))))
        (pss_cons (ps_set (i := 10) sc_first_rows.nd rfl (.inl rfl) (pe_op op_cat (pe_callTy (r := rListQ K) call_list_of (by rfl) G.list (by decide +kernel) (pa_cons (pv 6) pa_nil)) (pe_lc (own := [("c", 11)]) (g := (gName 11)) (tt := tYes) rfl sc_first_rows.nd (pi_range1 (by rfl) G.range (pa_cons (pe_op op_sub (pv 3) (pe_callB (r := rLenQ K) call_len_seq (by rfl) G.len PySem.boot_len (pa_cons (pv 6) pa_nil))) pa_nil)) (blkOk_by (N := ["lines", "slacks", "helpers", "total", "rows", "k", "entries", "kind", "right", "was_turned", "row", "c"]) (own := [("c", 11)]) (sc := (defScope s_first_rows)) (by decide +kernel)) (fun _ _ _ _ _ => (pg_name (i := 11) sc_first_rows.nd rfl (.inl rfl))) (fun _ _ _ _ _ => pts_nil) (fun _ _ _ _ _ => (pe_glob (v := .ref G.zero.choose) rfl G.zero.choose_spec.1 rfl)))))
        (pss_cons (ps_if (pt_cmpR op_notN (pe_ix (r := rIxL K) ix_list (pv 1) (pv 5) (fun _ _ => rfl)) pe_non (nomark _)) (pss_one (ps_asg (pe_ifExp (pt_cmpR op_eq (pv 7) pe_str (nomark _)) (pe_glob (v := .ref G.one.choose) rfl G.one.choose_spec.1 rfl) (pe_cd d_neg (hr.mono (by decide)) (by rfl) (pa_cons (pe_glob (v := .ref G.one.choose) rfl G.one.choose_spec.1 rfl) pa_nil))) (pg_sub (pv 10) (pe_ix (r := rIxL K) ix_list (pv 1) (pv 5) (fun _ _ => rfl)) set_list))) pss_nil)
        (pss_cons (ps_if (pt_cmpR op_notN (pe_ix (r := rIxL K) ix_list (pv 2) (pv 5) (fun _ _ => rfl)) pe_non (nomark _)) (pss_one (ps_asg (pe_glob (v := .ref G.one.choose) rfl G.one.choose_spec.1 rfl) (pg_sub (pv 10) (pe_ix (r := rIxL K) ix_list (pv 2) (pv 5) (fun _ _ => rfl)) set_list))) pss_nil)
        (pss_one (ps_expr (pe_appK (K := K) rfl (pv 4) (pa_cons (pe_op op_cat (pv 10) (pe_lst (pa_cons (pv 8) pa_nil))) pa_nil)))))))))
        (pss_one (ps_ret (pv 4))))), fun H0 N D rt => ?_⟩
  have hm : z.m ≤ 100 := h.1
  have hn : z.lp.n ≤ 100 := h.2
  have hcn : z.cnt ≤ z.lp.n := by
    show z.cnt ≤ (z.cnt + z.lp.sc z.lp.m) + z.lp.hc z.lp.m
    omega
  refine go_seq (go_new (evn_lst eva_nil) fun p => go_seq ?_)
  refine go_forR (α := Unit) (fun k _ => ⟨H0, N, [(p, k, fun j => Fl K (z.lp.n + 1) (z.lp.A j))], [some (z.rp K), some (Cols z.m .equal z.cnt z.kind), some (Cols z.m .most z.lp.w z.kind), some (Nt z.lp.n), some (Pt p), none, none, none, none, none, none, none]⟩) (fun _ _ => True) (eva_cons (ev_cb ct_len (eva_cons (ev_var rfl) eva_nil)) eva_nil) (by omega)
    ⟨(), trivial, fun σ H st => st.mset rfl fun k hk => absurd hk (Nat.not_lt_zero k)⟩ (fun k _ hk _ => ?_) fun _ _ => ?_
  · refine go_seq (go_asg (ev_op (ot_ixL rfl hk) (ev_var rfl) (ev_var rfl)) (gt_tup rfl (gl_cons (gl_cons (gl_cons (gl_cons gl_nil))))) (go_seq ?_))
    have e0 : EV (((((({ H0 := H0, N := N, M := [(p, k, fun j => Fl K (z.lp.n + 1) (z.lp.A j))], Γ := [some (z.rp K), some (Cols z.m .equal z.cnt z.kind), some (Cols z.m .most z.lp.w z.kind), some (Nt z.lp.n), some (Pt p), none, none, none, none, none, none, none] } : Sta).set 5 (Nt k)).set 6 (Fl K z.cnt (z.ent k))).set 7 (Sr (ks (z.kind k)))).set 8 (Fr K (z.right k))).set 9 (Bo false)) (tOp (rI0 fun i j => V.int (i - j)) (tVar 3) (tCB (rLenQ K) (tCons (tVar 6) tNil))) (Nt (z.lp.n - z.cnt)) :=
      ev_eq (ev_isub (ev_var rfl) (ev_cb ct_len (eva_cons (ev_var rfl) eva_nil))) (by
        show It ((z.lp.n : Int) - (z.cnt : Int)) = It ((z.lp.n - z.cnt : Nat) : Int)
        rw [Int.ofNat_sub hcn])
    refine go_new (f := fun c => Fr K (mkRow z.lp k c)) (n := z.lp.n) (evn_eq (evn_cat (evn_list (ev_var rfl)).ev (evn_lcR (R := fun _ => Fr K 0) (eva_cons e0 eva_nil) (by omega) fun D j _ => ev_zero G).ev (by omega)) (by omega) fun j _ => ?_) fun q => go_seq ?_
    · unfold glue mkRow
      by_cases e : j < z.cnt
      · rw [if_pos e, if_pos (show j < z.lp.cnt from e)]; rfl
      · rw [if_neg e, if_neg (show ¬ j < z.lp.cnt from e)]
    have hcs : ∀ c, colK .equal z.cnt z.kind k = some c → z.kind k ≠ .equal ∧ c = z.cnt + z.lp.sc k := fun c e => by
      unfold colK at e
      by_cases y : z.kind k = .equal
      · rw [if_pos y] at e; cases e
      · rw [if_neg y] at e; exact ⟨y, (Option.some.inj e).symm⟩
    have hch : ∀ c, colK .most z.lp.w z.kind k = some c → z.kind k ≠ .most ∧ c = z.lp.w + z.lp.hc k := fun c e => by
      unfold colK at e
      by_cases y : z.kind k = .most
      · rw [if_pos y] at e; cases e
      · rw [if_neg y] at e; exact ⟨y, (Option.some.inj e).symm⟩
    have hkl : k < z.lp.m := hk
    refine go_ifj ⟨H0, N, [(q, z.lp.n, fun c => Fr K (mkRow z.lp k c + (if z.lp.kind k ≠ .equal ∧ c = z.lp.cnt + z.lp.sc k then z.lp.sg k else 0))), (p, k, fun j => Fl K (z.lp.n + 1) (z.lp.A j))], [some (z.rp K), some (Cols z.m .equal z.cnt z.kind), some (Cols z.m .most z.lp.w z.kind), some (Nt z.lp.n), some (Pt p), some (Nt k), none, none, some (Fr K (z.right k)), none, some (Pt q), none]⟩
      (et_test (ev_op (ot_notN on_none) (ev_op (ot_ixL rfl hk) (ev_var rfl) (ev_var rfl)) ev_non)) (fun hb nx kk => ?_) (fun hb nx kk => go_next fun σ H st => kk σ H ?_) (go_seq ?_)
    · obtain ⟨j, ej⟩ : ∃ j, colK .equal z.cnt z.kind k = some j := by
        cases e : colK .equal z.cnt z.kind k with
        | none => rw [e] at hb; cases hb
        | some j => exact ⟨j, rfl⟩
      obtain ⟨ne, ejc⟩ := hcs j ej
      have hj1 := Lp.sc_lt (L := z.lp) hkl ne
      have hj : j < z.lp.n := by
        rw [ejc]
        show z.cnt + z.lp.sc k < (z.cnt + z.lp.sc z.lp.m) + z.lp.hc z.lp.m
        omega
      refine go_put (M1 := []) (j := j) rfl rfl (R := Fr K (z.lp.sg k)) (ev_if (et_test (ev_op ot_eqS (ev_var rfl) ev_str)) (fun e => ?_) fun e => ?_) (ev_sub (ev_op (ot_ixL rfl hk) (ev_var rfl) (ev_var rfl)) (on_some ej)) rfl hj fun σ H st => kk σ H ?_
      · have y : z.kind k = .most := ks_inj.mp (of_decide_eq_true e)
        have : z.lp.sg k = 1 := by unfold Lp.sg; rw [if_pos (show z.lp.kind k = .most from y)]
        rw [this]; exact ev_one G
      · have y : ¬ z.kind k = .most := fun y => of_decide_eq_false e (ks_inj.mpr y)
        have : z.lp.sg k = -1 := by unfold Lp.sg; rw [if_neg (show ¬ z.lp.kind k = .most from y)]
        rw [this]; exact ev_neg (ev_one G)
      · refine (st.mset rfl (put_to (fun c hc hne => ?_) ?_)).wk (by repeat first | exact Wk.nil | refine Wk.keep ?_ | refine Wk.drop ?_)
        · show Fr K (mkRow z.lp k c) = Fr K (mkRow z.lp k c + _)
          rw [if_neg (fun y => hne (by rw [ejc]; exact y.2)), Rat.add_zero]
        · show Fr K (z.lp.sg k) = Fr K (mkRow z.lp k j + _)
          rw [if_pos ⟨ne, ejc⟩]
          unfold mkRow
          rw [if_neg (show ¬ j < z.lp.cnt by rw [ejc]; show ¬ z.cnt + _ < z.cnt; omega), Rat.zero_add]
    · have e : z.kind k = .equal := by
        refine Classical.byContradiction fun y => ?_
        have : colK .equal z.cnt z.kind k = some (z.cnt + cntK .equal z.kind k) := by unfold colK; rw [if_neg y]
        rw [this] at hb; cases hb
      refine (st.mset rfl fun c hc H v hv => ?_).wk (by repeat first | exact Wk.nil | refine Wk.keep ?_ | refine Wk.drop ?_)
      show (Fr K (mkRow z.lp k c + _)).p H v
      rw [if_neg (fun y => y.1 e), Rat.add_zero]
      exact hv
    · refine go_ifj ⟨H0, N, [(q, z.lp.n, fun c => Fr K (z.lp.A k c)), (p, k, fun j => Fl K (z.lp.n + 1) (z.lp.A j))], [some (z.rp K), some (Cols z.m .equal z.cnt z.kind), some (Cols z.m .most z.lp.w z.kind), some (Nt z.lp.n), some (Pt p), some (Nt k), none, none, some (Fr K (z.right k)), none, some (Pt q), none]⟩
        (et_test (ev_op (ot_notN on_none) (ev_op (ot_ixL rfl hk) (ev_var rfl) (ev_var rfl)) ev_non)) (fun hb nx kk => ?_) (fun hb nx kk => go_next fun σ H st => kk σ H ?_) ?_
      · obtain ⟨j, ej⟩ : ∃ j, colK .most z.lp.w z.kind k = some j := by
          cases e : colK .most z.lp.w z.kind k with
          | none => rw [e] at hb; cases hb
          | some j => exact ⟨j, rfl⟩
        obtain ⟨ne, ejc⟩ := hch j ej
        have hj1 := Lp.hc_lt (L := z.lp) hkl ne
        have hj : j < z.lp.n := by
          rw [ejc]
          show z.lp.w + z.lp.hc k < z.lp.w + z.lp.hc z.lp.m
          omega
        have hcw : z.lp.cnt ≤ z.lp.w := Nat.le_add_right _ _
        refine go_put (M1 := []) (j := j) rfl rfl (ev_one G) (ev_sub (ev_op (ot_ixL rfl hk) (ev_var rfl) (ev_var rfl)) (on_some ej)) rfl hj fun σ H st => kk σ H ?_
        refine (st.mset rfl (put_to (fun c hc hne => ?_) ?_)).wk (by repeat first | exact Wk.nil | refine Wk.keep ?_ | refine Wk.drop ?_)
        · show Fr K (mkRow z.lp k c + _) = Fr K (z.lp.A k c)
          congr 1
          unfold mkRow Lp.A
          by_cases y : c < z.lp.cnt
          · rw [if_pos y, if_pos y, if_neg (fun x => by have := x.2; omega), Rat.add_zero]
          · rw [if_neg y, if_neg y, if_neg (show ¬ c = z.lp.n by omega), if_neg (c := z.lp.kind k ≠ .most ∧ c = z.lp.w + z.lp.hc k) (fun x => hne (by rw [ejc]; exact x.2))]
            grind
        · show Fr K 1 = Fr K (z.lp.A k j)
          congr 1
          unfold Lp.A
          rw [if_neg (show ¬ j < z.lp.cnt by omega), if_neg (show ¬ j = z.lp.n by omega), if_pos (c := z.lp.kind k ≠ .most ∧ j = z.lp.w + z.lp.hc k) ⟨ne, ejc⟩, if_neg (fun x => by
            have h4 := Lp.sc_lt (L := z.lp) hkl x.1
            have := x.2
            have hw : z.lp.w = z.lp.cnt + z.lp.sc z.lp.m := rfl
            omega)]
          grind
      · have e : z.kind k = .most := by
          refine Classical.byContradiction fun y => ?_
          have : colK .most z.lp.w z.kind k = some (z.lp.w + cntK .most z.kind k) := by unfold colK; rw [if_neg y]
          rw [this] at hb; cases hb
        refine (st.mset rfl fun c hc H v hv => ?_).wk (by repeat first | exact Wk.nil | refine Wk.keep ?_ | refine Wk.drop ?_)
        have : z.lp.A k c = mkRow z.lp k c + (if z.lp.kind k ≠ .equal ∧ c = z.lp.cnt + z.lp.sc k then z.lp.sg k else 0) := by
          unfold mkRow Lp.A
          by_cases y : c < z.lp.cnt
          · rw [if_pos y, if_pos y, if_neg (fun x => by have := x.2; omega), Rat.add_zero]
          · rw [if_neg y, if_neg y, if_neg (show ¬ c = z.lp.n by omega), if_neg (c := z.lp.kind k ≠ .most ∧ c = z.lp.w + z.lp.hc k) (fun x => x.1 e)]
            grind
        show (Fr K (z.lp.A k c)).p H v
        rw [this]
        exact hv
      · refine go_freeze (i := 10) rfl rfl ?_
        refine go_app (M1 := []) rfl rfl (by omega) (evn_cat (ev_var rfl) (evn_lst (eva_cons (ev_var rfl) eva_nil)).ev (by show z.lp.n + 1 ≤ 1000; omega)).ev fun σ H st => ⟨(), trivial, ?_⟩
        refine (st.mset rfl (snoc_to (fun _ _ => rfl) (li_eq (n := z.lp.n + 1) (f' := fun c => Fr K (z.lp.A k c)) fun c hc => ?_))).wk (by repeat first | exact Wk.nil | refine Wk.keep ?_ | refine Wk.drop ?_)
        have hc' : c < z.lp.n + 1 := hc
        show (if c < z.lp.n then Fr K (z.lp.A k c) else ([Fr K (z.right k)] : List Rp).getD (c - z.lp.n) Ay) = Fr K (z.lp.A k c)
        by_cases y : c < z.lp.n
        · rw [if_pos y]
        · have ec : c = z.lp.n := by omega
          rw [if_neg y, ec, Nat.sub_self, Lp.A_right]
          rfl
  · refine go_freeze (i := 4) rfl rfl ?_
    exact go_back rt (ev_var rfl)
end
end BB
namespace BB
open PySem PySem.Spec PyProof.Rows L2
section
variable {P : Program} {w : World} {K : PySem.W.Frag} {mg : Str → Option Value} {base : Heap}
/-! ### reduced -/
abbrev s_reduced : Stmt := (topS 27)
theorem sc_reduced : FnScope ["costs", "rows", "basis", "result", "k", "factor", "c"] ["costs", "rows", "basis"] (defScope s_reduced) := ⟨rfl, rfl, rfl, by decide +kernel, rfl, by decide +kernel, by decide +kernel⟩

structure RedV where
  m : Nat
  n : Nat
  cost : Nat → Rat
  T : Nat → Nat → Rat
  B : Nat → Nat
structure RedOk (z : RedV) : Prop where
  m : z.m ≤ 100
  n : z.n ≤ 100
  c0 : z.cost z.n = 0
  bd : ∀ k, k < z.m → z.B k < z.n
  lt : ∀ k, k < z.m → ∀ c, c ≤ z.n → LtOk (Lp.part z.cost z.T z.B k c) (z.cost (z.B k)) (z.T k c)
def sp_reduced (K : PySem.W.Frag) : Sp := spR (fun z : RedV => [Fl K z.n z.cost, Mx K z.m (z.n + 1) z.T, Il z.m z.B]) RedOk (fun z => Fl K (z.n + 1) (Lp.part z.cost z.T z.B z.m))
theorem ok_reduced (G : Gb K mg) (F : Def0 K mg "reduced" s_reduced ["costs", "rows", "basis"]) (d_less_times : DefOk P w K mg base "less_times" 3 ["a", "times", "b"] (sp_less_times K)) : DefOk P w K mg base "reduced" 4 ["costs", "rows", "basis"] (sp_reduced K) := by
  refine okD F sc_reduced (fun _ => rfl) (by decide) fun f cdv A outer s H E hr ⟨m, n, cost, T, B⟩ h => ⟨_, (pss_cons (ps_set (i := 3) sc_reduced.nd rfl (.inr rfl) (pe_op op_cat (pe_callTy (r := rListQ K) call_list_of (by rfl) G.list (by decide +kernel) (pa_cons (pv 0) pa_nil)) (pe_lst (pa_cons (pe_glob (v := .ref G.zero.choose) rfl G.zero.choose_spec.1 rfl) pa_nil))))
        (pss_cons (ps_for PassesOwn.never rfl (pi_range1 (by rfl) G.range (pa_cons (pe_callB (r := rLenQ K) call_len_seq (by rfl) G.len PySem.boot_len (pa_cons (pv 1) pa_nil)) pa_nil)) (pg_name (i := 4) sc_reduced.nd rfl (.inr rfl)) (pss_cons (ps_set (i := 5) sc_reduced.nd rfl (.inr rfl) (pe_ix (r := rIxL K) ix_list (pv 0) (pe_ix (r := rIxL K) ix_list (pv 2) (pv 4) (fun _ _ => rfl)) (fun _ _ => rfl)))
        (pss_one (ps_if (pt_cmpR (r := rNeD K) (op_neD hr.units) (pv 5) (pe_glob (v := .ref G.zero.choose) rfl G.zero.choose_spec.1 rfl) (nomark _)) (pss_one (ps_set (i := 3) sc_reduced.nd rfl (.inr rfl) (pe_lc (own := [("c", 6)]) (g := (gName 6)) (tt := tYes) rfl sc_reduced.nd (pi_range1 (by rfl) G.range (pa_cons (pe_callB (r := rLenQ K) call_len_seq (by rfl) G.len PySem.boot_len (pa_cons (pv 3) pa_nil)) pa_nil)) (blkOk_by (N := ["costs", "rows", "basis", "result", "k", "factor", "c"]) (own := [("c", 6)]) (sc := (defScope s_reduced)) (by decide +kernel)) (fun _ _ _ _ _ => (pg_name (i := 6) sc_reduced.nd rfl (.inl rfl))) (fun _ _ _ _ _ => pts_nil) (fun _ _ _ _ _ => (pe_cd d_less_times (hr.mono (by decide)) (by rfl) (pa_cons (pe_ix (r := rIxL K) ix_list (pv 3) (pv 6) (fun _ _ => rfl)) (pa_cons (pv 5) (pa_cons (pe_ix (r := rIxL K) ix_list (pe_ix (r := rIxL K) ix_list (pv 1) (pv 4) (fun _ _ => rfl)) (pv 6) (fun _ _ => rfl)) pa_nil)))))))) pss_nil))))
        (pss_one (ps_ret (pv 3))))), fun H0 N D rt => ?_⟩
  have hm : m ≤ 100 := h.m
  have hn : n ≤ 100 := h.n
  refine go_seq (go_set (R := Fl K (n + 1) (Lp.part cost T B 0)) (ev_sub (evn_cat (evn_list (ev_var rfl)).ev (evn_lst (eva_cons (ev_zero G) eva_nil)).ev (by show n + 1 ≤ 1000; omega)).ev (li_eq (n := n + 1) fun c hc => ?_)) (go_seq ?_))
  · show (if c < n then Fr K (cost c) else ([Fr K 0] : List Rp).getD (c - n) Ay) = Fr K (Lp.part cost T B 0 c)
    rw [Lp.part_zero]
    by_cases y : c < n
    · rw [if_pos y]
    · have e : c = n := by omega
      have c0 : cost n = 0 := h.c0
      rw [if_neg y, e, Nat.sub_self, c0]
      rfl
  refine go_forR (n := m) (α := Unit) (fun k _ => ⟨H0, N, [], [some (Fl K n cost), some (Mx K m (n + 1) T), some (Il m B), some (Fl K (n + 1) (Lp.part cost T B k)), none, none, none]⟩) (fun _ _ => True) (eva_cons (ev_cb ct_len (eva_cons (ev_var rfl) eva_nil)) eva_nil) (by omega)
    ⟨(), trivial, fun σ H st => st⟩ (fun k _ hk _ => ?_) fun _ _ => ?_
  · have hB : B k < n := h.bd k hk
    have hlt : ∀ c, c ≤ n → LtOk (Lp.part cost T B k c) (cost (B k)) (T k c) := h.lt k hk
    refine go_seq (go_set (ev_op (ot_ixL rfl hB) (ev_var rfl) (ev_op (ot_ixL rfl hk) (ev_var rfl) (ev_var rfl))) ?_)
    refine go_if (et_test (ev_op ot_neF (ev_var rfl) (ev_zero G))) (fun e => ?_) fun e => go_next fun σ H st => ⟨(), trivial, ?_⟩
    · refine go_set (R := Fl K (n + 1) (Lp.part cost T B (k + 1))) (ev_eq (evn_lcR (n := n + 1) (eva_cons (ev_cb ct_len (eva_cons (ev_var rfl) eva_nil)) eva_nil) (by omega) fun D c hc => ev_less_times (ev_op (ot_ixL rfl hc) (ev_var rfl) (ev_var rfl)) (ev_var rfl) (ev_op (ot_ixL rfl hc) (ev_op (ot_ixL rfl hk) (ev_var rfl) (ev_var rfl)) (ev_var rfl)) (hlt c (by omega))).ev ?_) fun σ H st => ⟨(), trivial, st.wk (by repeat first | exact Wk.nil | refine Wk.keep ?_ | refine Wk.drop ?_)⟩
      congr 1
      funext c
      rw [Lp.part_succ]
    · have e' : cost (B k) = 0 := by simpa using e
      have e2 : Lp.part cost T B (k + 1) = Lp.part cost T B k := by
        funext c
        rw [Lp.part_succ, e']
        grind
      rw [e2]
      exact st.wk (by repeat first | exact Wk.nil | refine Wk.keep ?_ | refine Wk.drop ?_)
  · exact go_back rt (ev_var rfl)
/-! ### pivot -/
abbrev s_pivot : Stmt := (topS 28)
theorem sc_pivot : FnScope ["rows", "r", "c", "factor", "row", "result", "k", "times", "x", "i"] ["rows", "r", "c"] (defScope s_pivot) := ⟨rfl, rfl, rfl, by decide +kernel, rfl, by decide +kernel, by decide +kernel⟩

structure PivV where
  m : Nat
  n : Nat
  T : Nat → Nat → Rat
  r : Nat
  c : Nat
structure PivOk (z : PivV) : Prop where
  m : z.m ≤ 100
  n : z.n ≤ 100
  r : z.r < z.m
  c : z.c < z.n + 1
  nz : z.T z.r z.c ≠ 0
  bd : ∀ k, k < z.m → ∀ i, i ≤ z.n → Sml (z.T k i)
def sp_pivot (K : PySem.W.Frag) : Sp := spR (fun z : PivV => [Mx K z.m (z.n + 1) z.T, Nt z.r, Nt z.c]) PivOk (fun z => Mx K z.m (z.n + 1) (piv z.T z.r z.c))
theorem ok_pivot (G : Gb K mg) (F : Def0 K mg "pivot" s_pivot ["rows", "r", "c"]) (d_div : DefOk P w K mg base "div" 2 ["a", "b"] (sp_div K)) (d_less_times : DefOk P w K mg base "less_times" 3 ["a", "times", "b"] (sp_less_times K)) : DefOk P w K mg base "pivot" 4 ["rows", "r", "c"] (sp_pivot K) := by
  refine okD F sc_pivot (fun _ => rfl) (by decide) fun f cdv A outer s H E hr ⟨m, n, T, r, c⟩ h => ⟨_, (pss_cons (ps_set (i := 3) sc_pivot.nd rfl (.inr rfl) (pe_ix (r := rIxL K) ix_list (pe_ix (r := rIxL K) ix_list (pv 0) (pv 1) (fun _ _ => rfl)) (pv 2) (fun _ _ => rfl)))
        (pss_cons (ps_set (i := 4) sc_pivot.nd rfl (.inr rfl) (pe_lc (own := [("x", 8)]) (g := (gName 8)) (tt := tYes) rfl sc_pivot.nd (pi_listK (K := K) rfl (pe_ix (r := rIxL K) ix_list (pv 0) (pv 1) (fun _ _ => rfl))) (blkOk_by (N := ["rows", "r", "c", "factor", "row", "result", "k", "times", "x", "i"]) (own := [("x", 8)]) (sc := (defScope s_pivot)) (by decide +kernel)) (fun _ _ _ _ _ => (pg_name (i := 8) sc_pivot.nd rfl (.inl rfl))) (fun _ _ _ _ _ => pts_nil) (fun _ _ _ _ _ => (pe_cd d_div (hr.mono (by decide)) (by rfl) (pa_cons (pv 8) (pa_cons (pv 3) pa_nil))))))
        (pss_cons (ps_set (i := 5) sc_pivot.nd rfl (.inl rfl) (pe_lst pa_nil))
        (pss_cons (ps_for PassesOwn.never rfl (pi_range1 (by rfl) G.range (pa_cons (pe_callB (r := rLenQ K) call_len_seq (by rfl) G.len PySem.boot_len (pa_cons (pv 0) pa_nil)) pa_nil)) (pg_name (i := 6) sc_pivot.nd rfl (.inr rfl)) (pss_one (ps_if (pt_cmpR op_eq (pv 6) (pv 1) (nomark _)) (pss_one (ps_expr (pe_appK (K := K) rfl (pv 5) (pa_cons (pv 4) pa_nil)))) (pss_one (ps_if (pt_cmpR (r := rEqD K) (op_eqD hr.units) (pe_ix (r := rIxL K) ix_list (pe_ix (r := rIxL K) ix_list (pv 0) (pv 6) (fun _ _ => rfl)) (pv 2) (fun _ _ => rfl)) (pe_glob (v := .ref G.zero.choose) rfl G.zero.choose_spec.1 rfl) (nomark _)) (pss_one (ps_expr (pe_appK (K := K) rfl (pv 5) (pa_cons (pe_ix (r := rIxL K) ix_list (pv 0) (pv 6) (fun _ _ => rfl)) pa_nil)))) (pss_cons (ps_set (i := 7) sc_pivot.nd rfl (.inr rfl) (pe_ix (r := rIxL K) ix_list (pe_ix (r := rIxL K) ix_list (pv 0) (pv 6) (fun _ _ => rfl)) (pv 2) (fun _ _ => rfl)))
        (pss_one (ps_expr (pe_appK (K := K) rfl (pv 5) (pa_cons (pe_lc (own := [("i", 9)]) (g := (gName 9)) (tt := tYes) rfl sc_pivot.nd (pi_range1 (by rfl) G.range (pa_cons (pe_callB (r := rLenQ K) call_len_seq (by rfl) G.len PySem.boot_len (pa_cons (pv 4) pa_nil)) pa_nil)) (blkOk_by (N := ["rows", "r", "c", "factor", "row", "result", "k", "times", "x", "i"]) (own := [("i", 9)]) (sc := (defScope s_pivot)) (by decide +kernel)) (fun _ _ _ _ _ => (pg_name (i := 9) sc_pivot.nd rfl (.inl rfl))) (fun _ _ _ _ _ => pts_nil) (fun _ _ _ _ _ => (pe_cd d_less_times (hr.mono (by decide)) (by rfl) (pa_cons (pe_ix (r := rIxL K) ix_list (pe_ix (r := rIxL K) ix_list (pv 0) (pv 6) (fun _ _ => rfl)) (pv 9) (fun _ _ => rfl)) (pa_cons (pv 7) (pa_cons (pe_ix (r := rIxL K) ix_list (pv 4) (pv 9) (fun _ _ => rfl)) pa_nil)))))) pa_nil))))))))))
        (pss_one (ps_ret (pv 5))))))), fun H0 N D rt => ?_⟩
  have hm : m ≤ 100 := h.m
  have hn : n ≤ 100 := h.n
  have hrm : r < m := h.r
  have hcn : c < n + 1 := h.c
  have hz : T r c ≠ 0 := h.nz
  have bd : ∀ k, k < m → ∀ i, i ≤ n → Sml (T k i) := h.bd
  have bdv : ∀ i, i ≤ n → Bd 4000 4000 (T r i / T r c) := fun i hi => (bd r hrm i hi).div (bd r hrm c (by omega)) hz
  refine go_seq (go_set (ev_op (ot_ixL rfl hcn) (ev_op (ot_ixL rfl hrm) (ev_var rfl) (ev_var rfl)) (ev_var rfl)) (go_seq ?_))
  refine go_set (R := Fl K (n + 1) fun i => T r i / T r c) (evn_lcL (ev_op (ot_ixL rfl hrm) (ev_var rfl) (ev_var rfl)) (by omega) fun D i hi => ev_div (ev_var rfl) (ev_var rfl) ((bd r hrm i (by omega)).okD (bd r hrm c (by omega)) hz (by decide))).ev (go_seq ?_)
  refine go_new (evn_lst eva_nil) fun p => go_seq ?_
  refine go_forR (n := m) (α := Unit) (fun k _ => ⟨H0, N, [(p, k, fun j => Fl K (n + 1) (piv T r c j))], [some (Mx K m (n + 1) T), some (Nt r), some (Nt c), some (Fr K (T r c)), some (Fl K (n + 1) fun i => T r i / T r c), some (Pt p), none, none, none, none]⟩) (fun _ _ => True) (eva_cons (ev_cb ct_len (eva_cons (ev_var rfl) eva_nil)) eva_nil) (by omega)
    ⟨(), trivial, fun σ H st => (st.mset rfl fun k hk => absurd hk (Nat.not_lt_zero k)).wk (by repeat first | exact Wk.nil | refine Wk.keep ?_ | refine Wk.drop ?_)⟩ (fun k _ hk _ => ?_) fun _ _ => ?_
  · refine go_if (et_test (ev_op ot_eqI (ev_var rfl) (ev_var rfl))) (fun e => ?_) fun e => ?_
    · have e' : k = r := by
        have := of_decide_eq_true e
        omega
      refine go_app (M1 := []) rfl rfl (by omega) (ev_var rfl) fun σ H st => ⟨(), trivial, (st.mset rfl (snoc_at (fun _ _ => rfl) ?_)).wk (by repeat first | exact Wk.nil | refine Wk.keep ?_ | refine Wk.drop ?_)⟩
      show Fl K (n + 1) (fun i => T r i / T r c) = Fl K (n + 1) (piv T r c k)
      congr 1
      funext i
      unfold piv
      rw [if_pos e']
    · have e' : ¬ k = r := by
        have := of_decide_eq_false e
        omega
      refine go_if (et_test (ev_op ot_eqF (ev_op (ot_ixL rfl hcn) (ev_op (ot_ixL rfl hk) (ev_var rfl) (ev_var rfl)) (ev_var rfl)) (ev_zero G))) (fun e2 => ?_) fun e2 => ?_
      · have e3 : T k c = 0 := of_decide_eq_true e2
        refine go_app (M1 := []) rfl rfl (by omega) (ev_op (ot_ixL rfl hk) (ev_var rfl) (ev_var rfl)) fun σ H st => ⟨(), trivial, (st.mset rfl (snoc_at (fun _ _ => rfl) ?_)).wk (by repeat first | exact Wk.nil | refine Wk.keep ?_ | refine Wk.drop ?_)⟩
        show Fl K (n + 1) (T k) = Fl K (n + 1) (piv T r c k)
        congr 1
        funext i
        unfold piv
        rw [if_neg e', e3]
        congr 1
        grind
      · refine go_seq (go_set (ev_op (ot_ixL rfl hcn) (ev_op (ot_ixL rfl hk) (ev_var rfl) (ev_var rfl)) (ev_var rfl)) ?_)
        refine go_app (M1 := []) rfl rfl (by omega) (R := Fl K (n + 1) (piv T r c k)) (ev_eq (evn_lcR (n := n + 1) (eva_cons (ev_cb ct_len (eva_cons (ev_var rfl) eva_nil)) eva_nil) (by omega) fun D i hi => ev_less_times (ev_op (ot_ixL rfl hi) (ev_op (ot_ixL rfl hk) (ev_var rfl) (ev_var rfl)) (ev_var rfl)) (ev_var rfl) (ev_op (ot_ixL rfl hi) (ev_var rfl) (ev_var rfl)) ?_).ev ?_) fun σ H st => ⟨(), trivial, (st.mset rfl (snoc_at (fun _ _ => rfl) rfl)).wk (by repeat first | exact Wk.nil | refine Wk.keep ?_ | refine Wk.drop ?_)⟩
        · have b1 := bd k hk i (by omega)
          have b2 := bd k hk c (by omega)
          have b3 := bdv i (by omega)
          exact ⟨b2.ok2 b3 (by decide), b1.ok2 (b2.mul b3) (by decide), b3.mid (by decide) (by decide)⟩
        · congr 1
          funext i
          unfold piv
          rw [if_neg e']
  · refine go_freeze (i := 5) rfl rfl ?_
    exact go_back rt (ev_var rfl)
/-! ### the column and the row -/
abbrev s_entering : Stmt := (topS 29)
theorem sc_entering : FnScope ["costs", "width", "c"] ["costs", "width"] (defScope s_entering) := ⟨rfl, rfl, rfl, by decide +kernel, rfl, by decide +kernel, by decide +kernel⟩

def EnS (w : Nat) (z : Nat → Rat) : Option Nat → Prop
  | none => ∀ d, d < w → 0 ≤ z d
  | some c => c < w ∧ z c < 0 ∧ ∀ d, d < c → 0 ≤ z d
def sp_entering (K : PySem.W.Frag) : Sp := spR (fun z : Nat × (Nat → Rat) × Nat => [Fl K z.1 z.2.1, Nt z.2.2]) (fun z => z.2.2 ≤ z.1 ∧ z.1 ≤ 1000 ∧ ∀ c, c < z.1 → Mid (z.2.1 c)) (fun z => Exr (EnS z.2.2 z.2.1) On)
theorem go_ex {S : Sta} {nx : L2.St → Hp → Prop} {rt : VK} {bk ct : L2.St → Hp → Prop} {te : TE} {α : Type} {A : α → Prop} {f : α → Rp} (r : RT rt S.H0 S.N (Exr A f)) (z : α) (a : A z) (h : EV S te (f z)) : Go S (tRet te ⟨nx, rt, bk, ct⟩) := go_ret (ev_sub (R' := Exr A f) h fun H v q => ⟨z, a, q⟩) r
theorem ok_entering (G : Gb K mg) (F : Def0 K mg "entering" s_entering ["costs", "width"]) (d_less : DefOk P w K mg base "less" 1 ["a", "b"] (sp_less K)) : DefOk P w K mg base "entering" 2 ["costs", "width"] (sp_entering K) := by
  refine okD F sc_entering (fun _ => rfl) (by decide) fun f cdv A outer s H E hr ⟨n, z, w'⟩ h => ⟨_, (pss_cons (ps_for PassesOwn.never rfl (pi_range1 (by rfl) G.range (pa_cons (pv 1) pa_nil)) (pg_name (i := 2) sc_entering.nd rfl (.inl rfl)) (pss_one (ps_if (pt_val (pe_cd d_less (hr.mono (by decide)) (by rfl) (pa_cons (pe_ix (r := rIxL K) ix_list (pv 0) (pv 2) (fun _ _ => rfl)) (pa_cons (pe_glob (v := .ref G.zero.choose) rfl G.zero.choose_spec.1 rfl) pa_nil)))) (pss_one (ps_ret (pv 2))) pss_nil)))
        (pss_one (ps_ret pe_non))), fun H0 N D rt => ?_⟩
  have hw : w' ≤ n := h.1
  have hn : n ≤ 1000 := h.2.1
  refine go_seq ?_
  refine go_forR (n := w') (α := Unit) (fun k _ => ⟨H0, N, [], [some (Fl K n z), some (Nt w'), none]⟩) (fun k _ => ∀ d, d < k → 0 ≤ z d) (eva_cons (ev_var rfl) eva_nil) (by omega) ⟨(), fun d hd => absurd hd (Nat.not_lt_zero d), fun σ H st => st⟩ (fun k _ hk I => ?_) fun _ I => ?_
  · refine go_if (et_B (ev_less (ev_op (ot_ixL rfl (show k < n by omega)) (ev_var rfl) (ev_var rfl)) (ev_zero G) (h.2.2 k (show k < n by omega)) mid0)) (fun e => ?_) fun e => go_next fun σ H st => ⟨(), fun d hd => ?_, st.wk (by repeat first | exact Wk.nil | refine Wk.keep ?_ | refine Wk.drop ?_)⟩
    · exact go_ex (f := On) rt (some k) ⟨hk, of_decide_eq_true e, I⟩ (ev_var rfl)
    · by_cases y : d = k
      · subst y
        have := of_decide_eq_false e
        exact Rat.not_lt.mp this
      · exact I d (by omega)
  · exact go_ex (f := On) rt none I ev_non
abbrev s_leaving : Stmt := (topS 30)
theorem sc_leaving : FnScope ["rows", "basis", "c", "best", "quotient", "k", "value"] ["rows", "basis", "c"] (defScope s_leaving) := ⟨rfl, rfl, rfl, by decide +kernel, rfl, by decide +kernel, by decide +kernel⟩

structure LvV where
  R : Nat
  m : Nat
  n : Nat
  T : Nat → Nat → Rat
  B : Nat → Nat
  c : Nat
def LvS (m n : Nat) (T : Nat → Nat → Rat) (B : Nat → Nat) (c : Nat) : Option Nat → Prop
  | none => ∀ k, k < m → ¬ 0 < T k c
  | some r => Leave m n T B c r
structure LvOk (z : LvV) : Prop where
  m : z.m ≤ z.R
  R : z.R ≤ 100
  n : z.n ≤ 100
  c : z.c < z.n + 1
  bd : ∀ k, k < z.m → ∀ i, i ≤ z.n → Sml (z.T k i)
def qof (n : Nat) (T : Nat → Nat → Rat) (c : Nat) : Option Nat → Rat
  | none => 0
  | some r => T r n / T r c
def sp_leaving (K : PySem.W.Frag) : Sp := spR (fun z : LvV => [Mx K z.R (z.n + 1) z.T, Il z.m z.B, Nt z.c]) LvOk (fun z => Exr (LvS z.m z.n z.T z.B z.c) On)
theorem ok_leaving (G : Gb K mg) (F : Def0 K mg "leaving" s_leaving ["rows", "basis", "c"]) (d_less : DefOk P w K mg base "less" 1 ["a", "b"] (sp_less K)) (d_div : DefOk P w K mg base "div" 2 ["a", "b"] (sp_div K)) : DefOk P w K mg base "leaving" 3 ["rows", "basis", "c"] (sp_leaving K) := by
  refine okD F sc_leaving (fun _ => rfl) (by decide) fun f cdv A outer s H E hr ⟨R, m, n, T, B, c⟩ h => ⟨_, (pss_cons (ps_set (i := 3) sc_leaving.nd rfl (.inl rfl) pe_non)
        (pss_cons (ps_set (i := 4) sc_leaving.nd rfl (.inl rfl) (pe_glob (v := .ref G.zero.choose) rfl G.zero.choose_spec.1 rfl))
        (pss_cons (ps_for PassesOwn.never rfl (pi_range1 (by rfl) G.range (pa_cons (pe_callB (r := rLenQ K) call_len_seq (by rfl) G.len PySem.boot_len (pa_cons (pv 1) pa_nil)) pa_nil)) (pg_name (i := 5) sc_leaving.nd rfl (.inl rfl)) (pss_one (ps_if (pt_val (pe_cd d_less (hr.mono (by decide)) (by rfl) (pa_cons (pe_glob (v := .ref G.zero.choose) rfl G.zero.choose_spec.1 rfl) (pa_cons (pe_ix (r := rIxL K) ix_list (pe_ix (r := rIxL K) ix_list (pv 0) (pv 5) (fun _ _ => rfl)) (pv 2) (fun _ _ => rfl)) pa_nil)))) (pss_cons (ps_set (i := 6) sc_leaving.nd rfl (.inl rfl) (pe_cd d_div (hr.mono (by decide)) (by rfl) (pa_cons (pe_ix (r := rIxL K) ix_list (pe_ix (r := rIxL K) ix_list (pv 0) (pv 5) (fun _ _ => rfl)) (pe_un un_neg pe_int) (fun _ _ => rfl)) (pa_cons (pe_ix (r := rIxL K) ix_list (pe_ix (r := rIxL K) ix_list (pv 0) (pv 5) (fun _ _ => rfl)) (pv 2) (fun _ _ => rfl)) pa_nil))))
        (pss_one (ps_if (PW.pt (pw_or (pt_cmpR op_isN (pv 3) pe_non (nomark _)) (pw_or (pt_val (pe_cd d_less (hr.mono (by decide)) (by rfl) (pa_cons (pv 6) (pa_cons (pv 4) pa_nil)))) (pw_or1 (PW.pt (pw_and (pt_cmpR (r := rEqD K) (op_eqD hr.units) (pv 6) (pv 4) (nomark _)) (pw_and1 (pt_cmpR op_lt (pe_ix (r := rIxL K) ix_list (pv 1) (pv 5) (fun _ _ => rfl)) (pe_ix (r := rIxL K) ix_list (pv 1) (pv 3) (fun _ _ => rfl)) (nomark _))))))))) (pss_cons (ps_set (i := 3) sc_leaving.nd rfl (.inl rfl) (pv 5))
        (pss_one (ps_set (i := 4) sc_leaving.nd rfl (.inl rfl) (pv 6)))) pss_nil))) pss_nil)))
        (pss_one (ps_ret (pv 3)))))), fun H0 N D rt => ?_⟩
  have hm : m ≤ R := h.m
  have hR : R ≤ 100 := h.R
  have hn : n ≤ 100 := h.n
  have hc : c < n + 1 := h.c
  have bd : ∀ k, k < m → ∀ i, i ≤ n → Sml (T k i) := h.bd
  refine go_seq (go_set ev_non (go_seq (go_set (ev_zero G) (go_seq ?_))))
  refine go_forR (n := m) (α := Option Nat) (fun k o => ⟨H0, N, [], [some (Mx K R (n + 1) T), some (Il m B), some (Nt c), some (On o), some (Fr K (qof n T c o)), none, none]⟩) (fun k o => LvS k n T B c o) (eva_cons (ev_cb ct_len (eva_cons (ev_var rfl) eva_nil)) eva_nil) (by omega)
    ⟨none, fun d hd => absurd hd (Nat.not_lt_zero d), fun σ H st => st⟩ (fun k o hk I => ?_) fun o I => ?_
  · have hkR : k < R := by omega
    have ek : EV (Sta.set ⟨H0, N, [], [some (Mx K R (n + 1) T), some (Il m B), some (Nt c), some (On o), some (Fr K (qof n T c o)), none, none]⟩ 5 (Nt k)) (tOp (rIxL K) (tOp (rIxL K) (tVar 0) (tVar 5)) (tVar 2)) (Fr K (T k c)) := ev_op (ot_ixL rfl hc) (ev_op (ot_ixL rfl hkR) (ev_var rfl) (ev_var rfl)) (ev_var rfl)
    refine go_if (et_B (ev_less (ev_zero G) ek mid0 ((bd k hk c (by omega)).mid (by decide) (by decide)))) (fun e => ?_) fun e => go_next fun σ H st => ⟨o, ?_, st.wk (by repeat first | exact Wk.nil | refine Wk.keep ?_ | refine Wk.drop ?_)⟩
    · have hp : 0 < T k c := of_decide_eq_true e
      have hz : T k c ≠ 0 := by grind
      have bq : ∀ j, j < m → T j c ≠ 0 → Bd 4000 4000 (T j n / T j c) := fun j hj hz => (bd j hj n (Nat.le_refl n)).div (bd j hj c (by omega)) hz
      refine go_seq (go_set (ev_div (ev_op ot_ixLast (ev_op (ot_ixL rfl hkR) (ev_var rfl) (ev_var rfl)) (ev_un ut_neg ev_int)) ek ((bd k hk n (Nat.le_refl n)).okD (bd k hk c (by omega)) hz (by decide))) ?_)
      have bk := bq k hk hz
      have mk := bk.mid (by decide) (by decide)
      have fin : LvS (k + 1) n T B c (some k) → ∀ σ H, Stt (((Sta.set (Sta.set ⟨H0, N, [], [some (Mx K R (n + 1) T), some (Il m B), some (Nt c), some (On o), some (Fr K (qof n T c o)), none, none]⟩ 5 (Nt k)) 6 (Fr K (T k n / T k c))).set 3 (Nt k)).set 4 (Fr K (T k n / T k c))) σ H → ∃ z, LvS (k + 1) n T B c z ∧ Stt ⟨H0, N, [], [some (Mx K R (n + 1) T), some (Il m B), some (Nt c), some (On z), some (Fr K (qof n T c z)), none, none]⟩ σ H := fun hL σ H st =>
        ⟨some k, hL, st.wk (by repeat first | exact Wk.nil | refine Wk.keep ?_ | refine Wk.drop ?_)⟩
      cases o with
      | none =>
        refine go_if (et_or (b := true) (et_test (ev_op (ot_isN on_none) (ev_var rfl) ev_non)) fun e => by cases e) (fun _ => ?_) fun e => by cases e
        refine go_seq (go_set (ev_var rfl) (go_set (ev_var rfl) (fin ⟨by omega, hp, fun j hj hjp => ?_⟩)))
        by_cases y : j = k
        · rw [y]; exact .inr ⟨rfl, Nat.le_refl _⟩
        · exact absurd hjp (I j (by omega))
      | some r =>
        obtain ⟨a, b, d⟩ := I
        have hzr : T r c ≠ 0 := by grind
        have mr := (bq r (by omega) hzr).mid (by decide) (by decide)
        have ebr : ∀ {S : Sta}, S.Γ[1]? = some (some (Il m B)) → S.Γ[3]? = some (some (On (some r))) → EV S (tOp (rIxL K) (tVar 1) (tVar 3)) (Nt (B r)) := fun h1 h3 => ev_op (ot_ixL (R := fun k => Nt (B k)) (k := r) rfl (show r < m by omega)) (ev_var h1) (ev_sub (ev_var h3) fun _ _ h => h)
        refine go_if (et_or (et_test (ev_op (ot_isN on_none) (ev_var rfl) ev_non)) fun _ => et_or (et_B (ev_less (ev_var rfl) (ev_var rfl) mk mr)) fun _ => et_and (et_test (ev_op ot_eqF (ev_var rfl) (ev_var rfl))) fun _ => et_test (ev_ilt (ev_op (ot_ixL rfl hk) (ev_var rfl) (ev_var rfl)) (ebr rfl rfl))) (fun e => ?_) fun e => go_next fun σ H st => ⟨some r, ?_, st.wk (by repeat first | exact Wk.nil | refine Wk.keep ?_ | refine Wk.drop ?_)⟩
        · have e2 : T k n / T k c < T r n / T r c ∨ (T k n / T k c = T r n / T r c ∧ B k < B r) := by
            simp [qof] at e
            rcases e with q | ⟨q, q2⟩
            · exact .inl (of_decide_eq_true q)
            · exact .inr ⟨of_decide_eq_true q, q2⟩
          refine go_seq (go_set (ev_var rfl) (go_set (ev_var rfl) (fin ⟨by omega, hp, fun j hj hjp => ?_⟩)))
          by_cases y : j = k
          · rw [y]; exact .inr ⟨rfl, Nat.le_refl _⟩
          · have q := d j (by omega) hjp
            rcases e2 with e2 | ⟨e2, e3⟩
            · left
              rcases q with q | q
              · grind
              · grind
            · rcases q with q | ⟨q, q2⟩
              · left; rw [e2]; exact q
              · right; exact ⟨by rw [e2, q], by omega⟩
        · have e2 : ¬ (T k n / T k c < T r n / T r c ∨ (T k n / T k c = T r n / T r c ∧ B k < B r)) := by
            intro z
            have : (false || (decide (T k n / T k c < T r n / T r c) || (decide (T k n / T k c = T r n / T r c) && decide (((B k : Nat) : Int) < ((B r : Nat) : Int))))) = true := by
              rcases z with z | ⟨z, z2⟩
              · simp [z]
              · simp [z, z2]
            exact absurd (this.symm.trans e) (by decide)
          refine ⟨by omega, b, fun j hj hjp => ?_⟩
          by_cases y : j = k
          · subst y
            by_cases x : T r n / T r c < T j n / T j c
            · exact .inl x
            · have x2 : T j n / T j c = T r n / T r c := by grind
              exact .inr ⟨x2.symm, by
                refine Classical.byContradiction fun z => e2 (.inr ⟨x2, by omega⟩)⟩
          · exact d j (by omega) hjp
    · have hp : ¬ 0 < T k c := of_decide_eq_false e
      cases o with
      | none =>
        show ∀ j, j < k + 1 → ¬ 0 < T j c
        intro j hj
        by_cases y : j = k
        · rw [y]; exact hp
        · exact I j (by omega)
      | some r =>
        obtain ⟨a, b, d⟩ := I
        refine ⟨by omega, b, fun j hj hjp => ?_⟩
        by_cases y : j = k
        · rw [y] at hjp; exact absurd hjp hp
        · exact d j (by omega) hjp
  · exact go_ex (f := On) rt o I (ev_var rfl)
end
end BB
namespace BB
open PySem PySem.Spec PyProof.Rows L2
/-! ### parts of lists -/
def EO (S : Sta) (t : TO) (o : Option Int) : Prop := ∀ σ H, Stt S σ H → ∀ Q : Option Int → Hp → Prop, (∀ H', Same H H' → Q o H') → t σ H Q
theorem eo_none {S : Sta} : EO S tNoPart none := fun σ H _ Q q => q H (Same.refl H)
theorem eo_some {S : Sta} {te : TE} {i : Int} (h : EV S te (It i)) : EO S (tPart te) (some i) := fun σ H st Q q => h σ H st _ fun v H' s r => ⟨i, r, q H' s⟩
theorem evn_slice {S : Sta} {K : PySem.W.Frag} {te : TE} {tl th : TO} {n a k : Nat} {f : Nat → Rp} {lo hi : Option Int} (h : EV S te (Li n f)) (h1 : EO S tl lo) (h2 : EO S th hi) (e1 : HT.sIx n 0 lo = a) (e2 : HT.sIx n n hi = a + k) (hk : a + k ≤ n) : EVN S (tSl (rSlL K) te tl th) k (fun j => f (a + j)) := fun σ H st Q q =>
  h σ H st _ fun v H1 s1 r1 => h1 σ H1 (st.mono s1) _ fun H2 s2 => h2 σ H2 ((st.mono s1).mono s2) _ fun H3 s3 => by
    obtain ⟨b, vs, e, hs, hl, g⟩ := (Li n f).mono (hid_same (s2.trans s3)) r1
    subst e
    refine ⟨b, vs, rfl, .inl (.inl (hid_sub _ _ hs)), fun p hp => ?_⟩
    have s4 : Same H3 (upd H3 p (.lst (cutV vs lo hi))) := same_new hp
    have s14 := (s1.trans s2).trans s3
    have ec : cutV vs lo hi = (vs.drop a).take k := by
      unfold cutV
      rw [hl, e1, e2, Nat.add_sub_cancel_left]
    refine q p _ _ (s14.trans s4) (s14.free hp) upd_same (by rw [ec, List.length_take, List.length_drop]; omega) fun j x z => ?_
    rw [ec, List.getElem?_take] at z
    split at z
    · rw [List.getElem?_drop] at z
      exact (f (a + j)).mono (hid_fresh s4 hp) (g _ x z)
    · cases z
theorem six_none {n d : Nat} : HT.sIx n d none = d := by rfl
theorem six_m1 {n d : Nat} : HT.sIx (n + 1) d (some (-1)) = n := by
  simp [HT.sIx]
  try omega
theorem six_at {n d k : Nat} (h : k ≤ n) : HT.sIx n d (some (k : Int)) = k := by rw [HT.sIx_nat]; omega
/-! ### a list of one's own handed to a def and then changed again -/
theorem Stt.freeze {S : Sta} {σ : L2.St} {H : Hp} {M2 : Mt} {i : Nat} {p : Addr} {n : Nat} {f : Nat → Rp} (st : Stt S σ H) (hM : S.M = (p, n, f) :: M2) (hi : S.Γ[i]? = some (some (Pt p))) : Stt { S with M := M2, Γ := S.Γ.set i (some (Li n f)) } σ H :=
  go_freeze (P := fun σ' H' => Stt { S with M := M2, Γ := S.Γ.set i (some (Li n f)) } σ' H') hM hi (fun σ H st => st) σ H st
theorem ev_thaw {S : Sta} {M2 : Mt} {i : Nat} {p : Addr} {n : Nat} {f : Nat → Rp} {te : TE} {R : Rp} (hM : S.M = (p, n, f) :: M2) (hi : S.Γ[i]? = some (some (Pt p)))
    (w : ∀ H v vs, H p = some (.lst vs) → vs.length = n → (∀ k x, vs[k]? = some x → (f k).p (hid H S.hd) x) → R.p (hid H (adr M2 ++ S.N)) v → R.p (hid H S.hd) v) (h : EV { S with M := M2, Γ := S.Γ.set i (some (Li n f)) } te R) : EV S te R := fun σ H st Q q =>
  h σ H (st.freeze hM hi) Q fun v H' s r => by
    obtain ⟨vs, a, b, c⟩ := (st.mono s).mem (p, n, f) (by rw [hM]; simp)
    exact q v H' s (w H' v vs a b c r)
/-- what holds still where lists are not to be seen -/
def Off (R : Rp) : Prop := ∀ H N p vs v, H p = some (.lst vs) → R.p (hid H N) v → R.p (hid H (p :: N)) v
theorem off_It {i : Int} : Off (It i) := fun _ _ _ _ _ _ h => h
theorem off_Bo {i : Bool} : Off (Bo i) := fun _ _ _ _ _ _ h => h
theorem off_On {o : Option Nat} : Off (On o) := by
  cases o with
  | none => exact fun _ _ _ _ _ _ h => h
  | some n => exact fun _ _ _ _ _ _ h => h
theorem off_Ex {α : Type} {A : α → Prop} {f : α → Rp} (h : ∀ z, Off (f z)) : Off (Exr A f) := fun H N p vs v hp ⟨z, a, r⟩ => ⟨z, a, h z H N p vs v hp r⟩
theorem off_AL {H : Hp} {N : List Addr} {p : Addr} {ws : List V} (hp : H p = some (.lst ws)) : ∀ {Rs : List Rp} {vs : List V}, (∀ R ∈ Rs, Off R) → AL Rs (hid H N) vs → AL Rs (hid H (p :: N)) vs
  | [], _, _, h => h
  | R :: Rs, _, o, ⟨v, r, e, h, t⟩ => ⟨v, r, e, o R (List.mem_cons_self ..) _ _ _ _ _ hp h, off_AL hp (fun R m => o R (List.mem_cons_of_mem _ m)) t⟩
theorem hid_cons {H : Hp} {N : List Addr} {p a : Addr} {o : HO} (ne : a ≠ p) (h : hid H N a = some o) : hid H (p :: N) a = some o := by
  unfold hid at h ⊢
  by_cases z : a ∈ N
  · rw [if_pos z] at h; cases h
  · rw [if_neg z] at h
    rw [if_neg fun y => (List.mem_cons.mp y).elim ne z]; exact h
theorem off_Tp {K : PySem.W.Frag} {Rs : List Rp} (o : ∀ R ∈ Rs, Off R) : Off (Tp K Rs) := fun H N p ws v hp ⟨a, vs, e, h, t⟩ => by
  refine ⟨a, vs, e, ?_, off_AL hp o t⟩
  have ne : ∀ x : HO, hid H N a = some x → (∀ ys, x ≠ .lst ys) → a ≠ p := fun x hx nl z => by
    have := hid_sub _ _ hx
    rw [z, hp] at this
    cases this
    exact nl ws rfl
  rcases h with (h | ⟨b, h⟩) | h
  · exact .inl (.inl (hid_cons (ne _ h fun ys z => by cases z) h))
  · exact .inl (.inr ⟨b, hid_cons (ne _ h fun ys z => by cases z) h⟩)
  · exact .inr h
theorem off_Fr {K : PySem.W.Frag} {x : Rat} : Off (Fr K x) := off_Tp fun R h => by
  simp at h
  rcases h with h | h <;> rw [h] <;> exact off_It
theorem thaw_off {S : Sta} {M2 : Mt} {p : Addr} {n : Nat} {f : Nat → Rp} {R : Rp} (hM : S.M = (p, n, f) :: M2) (o : Off R) : ∀ H v vs, H p = some (.lst vs) → vs.length = n → (∀ k x, vs[k]? = some x → (f k).p (hid H S.hd) x) → R.p (hid H (adr M2 ++ S.N)) v → R.p (hid H S.hd) v := fun H v vs hp _ _ r => by
  have e : S.hd = p :: (adr M2 ++ S.N) := by unfold Sta.hd; rw [hM]; rfl
  rw [e]
  exact o _ _ _ _ _ hp r
theorem evn_thaw {S : Sta} {M2 : Mt} {i : Nat} {p : Addr} {n : Nat} {f : Nat → Rp} {te : TE} {m : Nat} {R : Nat → Rp} (hM : S.M = (p, n, f) :: M2) (hi : S.Γ[i]? = some (some (Pt p))) (o : ∀ k, Off (R k))
    (h : EVN { S with M := M2, Γ := S.Γ.set i (some (Li n f)) } te m R) : EVN S te m R := fun σ H st Q q =>
  h σ H (st.freeze hM hi) Q fun a vs H' s ha e l r => by
    have eh : S.hd = p :: (adr M2 ++ S.N) := by unfold Sta.hd; rw [hM]; rfl
    obtain ⟨ws, x1, x2, x3⟩ := (st.mono s).mem (p, n, f) (by rw [hM]; simp)
    refine q a vs H' s ha e l fun k x z => ?_
    have := o k _ _ _ _ _ x1 (r k x z)
    refine (R k).mono ?_ this
    rw [eh]
    refine hid_le fun b hb => ?_
    show b ∈ p :: a :: (adr M2 ++ S.N)
    have hb' : b ∈ a :: p :: (adr M2 ++ S.N) := hb
    rcases List.mem_cons.mp hb' with e | hb
    · exact List.mem_cons_of_mem _ (List.mem_cons.mpr (.inl e))
    · rcases List.mem_cons.mp hb with e | hb
      · exact List.mem_cons.mpr (.inl e)
      · exact List.mem_cons_of_mem _ (List.mem_cons_of_mem _ hb)
/-- a datum told apart at its target -/
theorem go_asgX {S : Sta} {te : TE} {g : TG} {nx : L2.St → Hp → Prop} {rt : VK} {bk ct : L2.St → Hp → Prop} {α : Type} {A : α → Prop} {f : α → Rp} (S' : α → Sta) (h : EV S te (Exr A f)) (hg : ∀ z, A z → GT S g (f z) (S' z)) (k : ∀ z, A z → Go (S' z) nx) : Go S (tAsg te g ⟨nx, rt, bk, ct⟩) := fun σ H st =>
  h σ H st _ fun v H1 s ⟨z, a, r⟩ => hg z a v σ H1 _ (st.mono s) r fun σ' st' => k z a σ' H1 st'
end BB
namespace BB
open PySem PySem.Spec PyProof.Rows L2
section
variable {P : Program} {w : World} {K : PySem.W.Frag} {mg : Str → Option Value} {base : Heap}
/-! ### descend -/
abbrev s_descend : Stmt := (topS 31)
theorem sc_descend : FnScope ["rows", "basis", "width", "c", "r"] ["rows", "basis", "width"] (defScope s_descend) := ⟨rfl, rfl, rfl, by decide +kernel, rfl, by decide +kernel, by decide +kernel⟩

structure DscV where
  m : Nat
  n : Nat
  w : Nat
  T : Nat → Nat → Rat
  B : Nat → Nat
  I : Ts → Prop
structure DscOk (z : DscV) : Prop where
  m : z.m ≤ 50
  n : z.n ≤ 100
  w : z.w ≤ z.n
  at' : z.I (z.T, z.B)
  bd : ∀ s : Ts, z.I s → ∀ k, k ≤ z.m → ∀ i, i ≤ z.n → Sml (s.1 k i)
  step : ∀ s s', z.I s → Stp z.m z.n z.w s s' → z.I s'
  lv : ∀ s c, z.I s → Enter z.m z.w s.1 c → ∃ k, k < z.m ∧ 0 < s.1 k c
  ends : ∃ N, EndsIn z.m z.n z.w N (z.T, z.B)
def sp_descend (K : PySem.W.Frag) : Sp := spR (fun z : DscV => [Mx K (z.m + 1) (z.n + 1) z.T, Il z.m z.B, Nt z.w]) DscOk (fun z => Exr (fun s : Ts => z.I s ∧ ∀ d, d < z.w → 0 ≤ s.1 z.m d) fun s => Tp K [Mx K (z.m + 1) (z.n + 1) s.1, Il z.m s.2, No])
def dscI (K : PySem.W.Frag) (H0 : Hp) (N : List Addr) (p : Addr) (m n w : Nat) (s : Ts) : Sta := ⟨H0, N, [(p, m, fun k => Nt (s.2 k))], [some (Mx K (m + 1) (n + 1) s.1), some (Pt p), some (Nt w), none, none]⟩
theorem ok_descend (G : Gb K mg) (F : Def0 K mg "descend" s_descend ["rows", "basis", "width"]) (d_entering : DefOk P w K mg base "entering" 2 ["costs", "width"] (sp_entering K)) (d_leaving : DefOk P w K mg base "leaving" 3 ["rows", "basis", "c"] (sp_leaving K))
    (d_pivot : DefOk P w K mg base "pivot" 4 ["rows", "r", "c"] (sp_pivot K)) : DefOk P w K mg base "descend" 5 ["rows", "basis", "width"] (sp_descend K) := by
  refine okD F sc_descend (fun _ => rfl) (by decide) fun f cdv A outer s H E hr ⟨m, n, w', T, B, I⟩ h => ⟨_, (pss_cons (ps_set (i := 1) sc_descend.nd rfl (.inl rfl) (pe_callTy (r := rListQ K) call_list_of (by rfl) G.list (by decide +kernel) (pa_cons (pv 1) pa_nil)))
        (pss_one (ps_while PassesOwn.never (pt_val pe_bl) (pss_cons (ps_set (i := 3) sc_descend.nd rfl (.inl rfl) (pe_cd d_entering (hr.mono (by decide)) (by rfl) (pa_cons (pe_ix (r := rIxL K) ix_list (pv 0) (pe_un un_neg pe_int) (fun _ _ => rfl)) (pa_cons (pv 2) pa_nil))))
        (pss_cons (ps_if (pt_cmpR op_isN (pv 3) pe_non (nomark _)) (pss_one (ps_ret (pe_tup (pa_cons (pv 0) (pa_cons (pv 1) (pa_cons pe_non pa_nil)))))) pss_nil)
        (pss_cons (ps_set (i := 4) sc_descend.nd rfl (.inl rfl) (pe_cd d_leaving (hr.mono (by decide)) (by rfl) (pa_cons (pv 0) (pa_cons (pv 1) (pa_cons (pv 3) pa_nil)))))
        (pss_cons (ps_if (pt_cmpR op_isN (pv 4) pe_non (nomark _)) (pss_one (ps_ret (pe_tup (pa_cons (pv 0) (pa_cons (pv 1) (pa_cons (pv 3) pa_nil)))))) pss_nil)
        (pss_cons (ps_set (i := 0) sc_descend.nd rfl (.inl rfl) (pe_cd d_pivot (hr.mono (by decide)) (by rfl) (pa_cons (pv 0) (pa_cons (pv 4) (pa_cons (pv 3) pa_nil)))))
        (pss_one (ps_asg (pv 3) (pg_sub (pv 1) (pv 4) set_list))))))))))), fun H0 N D rt => ?_⟩
  have hm : m ≤ 50 := h.m
  have hn : n ≤ 100 := h.n
  have hw : w' ≤ n := h.w
  have bd : ∀ s : Ts, I s → ∀ k, k ≤ m → ∀ i, i ≤ n → Sml (s.1 k i) := h.bd
  refine go_seq (go_new (evn_list (ev_var rfl)) fun p => ?_)
  refine go_while (α := Ts) (dscI K H0 N p m n w') (fun M s => I s ∧ EndsIn m n w' M s) ?_ fun M s ⟨hI, hE⟩ => ⟨true, et_test ev_bl, fun _ => ?_, fun e => by cases e⟩
  · obtain ⟨M, hM⟩ := h.ends
    exact ⟨M, (T, B), ⟨h.at', hM⟩, fun σ H st => st.wk (by repeat first | exact Wk.nil | refine Wk.keep ?_ | refine Wk.drop ?_)⟩
  unfold dscI
  refine go_seq (go_set (ev_call (n + 1, s.1 m, w') (eva_cons (ev_op ot_ixLast (ev_var rfl) (ev_un ut_neg ev_int)) (eva_cons (ev_var rfl) eva_nil)) ⟨show w' ≤ n + 1 by omega, show n + 1 ≤ 1000 by omega, fun c hc => (bd s hI m (Nat.le_refl _) c (by
    have : c < n + 1 := hc
    omega)).mid (by decide) (by decide)⟩) (go_open (i := 3) rfl fun o ho => go_seq ?_))
  cases o with
  | none =>
    refine go_if (b := true) (et_test (ev_op (ot_isN on_none) (ev_var rfl) ev_non)) (fun _ => ?_) fun e => by cases e
    refine go_freeze (i := 1) rfl rfl ?_
    exact go_ex (f := fun s : Ts => Tp K [Mx K (m + 1) (n + 1) s.1, Il m s.2, No]) rt s ⟨hI, ho⟩ (ev_tup (eva_cons (ev_var rfl) (eva_cons (ev_var rfl) (eva_cons ev_non eva_nil))))
  | some c =>
    have En : Enter m w' s.1 c := ho
    refine go_if (b := false) (et_test (ev_op (ot_isN on_none) (ev_var rfl) ev_non)) (fun e => by cases e) fun _ => go_next (go_seq ?_)
    have hc : c < n + 1 := by have := En.1; omega
    refine go_set (ev_thaw (i := 1) rfl rfl (thaw_off rfl (off_Ex fun z => off_On)) (ev_call (⟨m + 1, m, n, s.1, s.2, c⟩ : LvV) (eva_cons (ev_var rfl) (eva_cons (ev_var rfl) (eva_cons (ev_sub (R := On (some c)) (ev_var rfl) fun _ _ h => h) eva_nil))) ⟨show m ≤ m + 1 by omega, show m + 1 ≤ 100 by omega, hn, hc, fun k hk i hi => bd s hI k (Nat.le_of_lt hk) i hi⟩)) (go_open (i := 4) rfl fun o ho => go_seq ?_)
    cases o with
    | none =>
      obtain ⟨k, hk, hp⟩ := h.lv s c hI En
      exact absurd hp (ho k hk)
    | some r =>
      have Lv : Leave m n s.1 s.2 c r := ho
      have hrm : r < m := Lv.1
      have st : Stp m n w' s (piv s.1 r c, pivB s.2 r c) := ⟨c, r, En, Lv, rfl⟩
      refine go_if (b := false) (et_test (ev_op (ot_isN on_none) (ev_var rfl) ev_non)) (fun e => by cases e) fun _ => go_next (go_seq ?_)
      refine go_set (ev_call (⟨m + 1, n, s.1, r, c⟩ : PivV) (eva_cons (ev_var rfl) (eva_cons (ev_sub (R := On (some r)) (ev_var rfl) fun _ _ h => h) (eva_cons (ev_sub (R := On (some c)) (ev_var rfl) fun _ _ h => h) eva_nil))) ⟨show m + 1 ≤ 100 by omega, hn, show r < m + 1 by omega, hc, by
        have := Lv.2.1
        show s.1 r c ≠ 0
        grind, fun k hk i hi => bd s hI k (Nat.le_of_lt_succ hk) i hi⟩) ?_
      refine go_put (M1 := []) (j := r) rfl rfl (R := Nt c) (ev_sub (R := On (some c)) (ev_var rfl) fun _ _ h => h) (ev_sub (R' := Nt r) (R := On (some r)) (ev_var rfl) fun _ _ h => h) rfl hrm fun σ H st' => ?_
      obtain ⟨M', hM', hE'⟩ := hE.step st
      refine ⟨M', (piv s.1 r c, pivB s.2 r c), hM', ⟨h.step _ _ hI st, hE'⟩, (st'.mset rfl (put_to (fun k _ hne => ?_) ?_)).wk (by repeat first | exact Wk.nil | refine Wk.keep ?_ | refine Wk.drop ?_)⟩
      · show Nt (s.2 k) = Nt (pivB s.2 r c k)
        unfold pivB
        rw [if_neg hne]
      · show Nt c = Nt (pivB s.2 r c r)
        unfold pivB
        rw [if_pos rfl]
/-! ### the helpers taken out -/
abbrev s_without_helpers : Stmt := (topS 32)
theorem sc_without_helpers : FnScope ["rows", "basis", "width", "k", "c"] ["rows", "basis", "width"] (defScope s_without_helpers) := ⟨rfl, rfl, rfl, by decide +kernel, rfl, by decide +kernel, by decide +kernel⟩

structure WhV where
  L : Lp
  D : Nat → Int
  E : Int
  cost : Nat → Rat
  T : Nat → Nat → Rat
  B : Nat → Nat
structure WhI (L : Lp) (cost : Nat → Rat) (s : Ts) : Prop where
  tab : Tab L.m L.n L.A cost s.1 s.2
  pos : ∀ k, k < L.m → 0 ≤ s.1 k L.n
  h0 : Lp.H0 L s.1 s.2
structure WhOk (z : WhV) : Prop where
  n : z.L.n ≤ 100
  sc : Lp.Scld z.L z.D z.E
  i : WhI z.L z.cost (z.T, z.B)
def sp_without_helpers (K : PySem.W.Frag) : Sp := spR (fun z : WhV => [Mx K z.L.m (z.L.n + 1) z.T, Il z.L.m z.B, Nt z.L.w]) WhOk (fun z => Exr (fun s : Ts => WhI z.L z.cost s ∧ Lp.HZ z.L s.1 s.2) fun s => Tp K [Mx K z.L.m (z.L.n + 1) s.1, Il z.L.m s.2])
/-- rows up to k are done; of row k the columns up to c -/
structure WhJ (L : Lp) (cost : Nat → Rat) (k c : Nat) (s : Ts) : Prop where
  i : WhI L cost s
  z : ∀ j, j < k → L.w ≤ s.2 j → ∀ d, d < L.w → s.1 j d = 0
  y : L.w ≤ s.2 k → ∀ d, d < c → s.1 k d = 0
def whS (K : PySem.W.Frag) (H0 : Hp) (N : List Addr) (p : Addr) (m n w : Nat) (kc : Option Rp) (s : Ts) : Sta := ⟨H0, N, [(p, m, fun k => Nt (s.2 k))], [some (Mx K m (n + 1) s.1), some (Pt p), some (Nt w), kc, none]⟩
theorem ok_without_helpers (G : Gb K mg) (F : Def0 K mg "without_helpers" s_without_helpers ["rows", "basis", "width"]) (d_pivot : DefOk P w K mg base "pivot" 4 ["rows", "r", "c"] (sp_pivot K)) : DefOk P w K mg base "without_helpers" 5 ["rows", "basis", "width"] (sp_without_helpers K) := by
  refine okD F sc_without_helpers (fun _ => rfl) (by decide) fun f cdv A outer s H E hr ⟨L, Df, Ef, cost, T, B⟩ h => ⟨_, (pss_cons (ps_set (i := 1) sc_without_helpers.nd rfl (.inl rfl) (pe_callTy (r := rListQ K) call_list_of (by rfl) G.list (by decide +kernel) (pa_cons (pv 1) pa_nil)))
        (pss_cons (ps_for PassesOwn.never rfl (pi_range1 (by rfl) G.range (pa_cons (pe_callB (r := rLenQ K) call_len_seq (by rfl) G.len PySem.boot_len (pa_cons (pv 1) pa_nil)) pa_nil)) (pg_name (i := 3) sc_without_helpers.nd rfl (.inl rfl)) (pss_one (ps_if (pt_cmpR op_ge (pe_ix (r := rIxL K) ix_list (pv 1) (pv 3) (fun _ _ => rfl)) (pv 2) (nomark _)) (pss_one (ps_for PassesOwn.never rfl (pi_range1 (by rfl) G.range (pa_cons (pv 2) pa_nil)) (pg_name (i := 4) sc_without_helpers.nd rfl (.inl rfl)) (pss_one (ps_if (PW.pt (pw_and (pt_cmpR op_ge (pe_ix (r := rIxL K) ix_list (pv 1) (pv 3) (fun _ _ => rfl)) (pv 2) (nomark _)) (pw_and1 (pt_cmpR (r := rNeD K) (op_neD hr.units) (pe_ix (r := rIxL K) ix_list (pe_ix (r := rIxL K) ix_list (pv 0) (pv 3) (fun _ _ => rfl)) (pv 4) (fun _ _ => rfl)) (pe_glob (v := .ref G.zero.choose) rfl G.zero.choose_spec.1 rfl) (nomark _))))) (pss_cons (ps_set (i := 0) sc_without_helpers.nd rfl (.inl rfl) (pe_cd d_pivot (hr.mono (by decide)) (by rfl) (pa_cons (pv 0) (pa_cons (pv 3) (pa_cons (pv 4) pa_nil)))))
        (pss_one (ps_asg (pv 4) (pg_sub (pv 1) (pv 3) set_list)))) pss_nil)))) pss_nil)))
        (pss_one (ps_ret (pe_tup (pa_cons (pv 0) (pa_cons (pv 1) pa_nil))))))), fun H0 N D rt => ?_⟩
  have sc : Lp.Scld L Df Ef := h.sc
  have hm : L.m ≤ 6 := sc.m6
  have hn : L.n ≤ 100 := h.n
  have hw : L.w ≤ L.n := Lp.le_wn
  have w0 : WhI L cost (T, B) := h.i
  refine go_seq (go_new (evn_list (ev_var rfl)) fun p => go_seq ?_)
  refine go_forR (n := L.m) (α := Ts) (fun k s => whS K H0 N p L.m L.n L.w none s) (fun k s => WhJ L cost k 0 s) (eva_cons (ev_lenM rfl (List.mem_cons_self ..)) eva_nil) (by omega)
    ⟨(T, B), ⟨w0, fun j hj => absurd hj (Nat.not_lt_zero j), fun _ d hd => absurd hd (Nat.not_lt_zero d)⟩, fun σ H st => st⟩ (fun k s hk J => ?_) fun s J => ?_
  · unfold whS
    have nextk : ∀ s : Ts, WhI L cost s → (∀ j, j < k → L.w ≤ s.2 j → ∀ d, d < L.w → s.1 j d = 0) → (L.w ≤ s.2 k → ∀ d, d < L.w → s.1 k d = 0) → WhJ L cost (k + 1) 0 s := fun s a b c => ⟨a, fun j hj => by
      by_cases e : j = k
      · rw [e]; exact c
      · exact b j (by omega), fun _ d hd => absurd hd (Nat.not_lt_zero d)⟩
    refine go_if (et_test (ev_ige (ev_ixM (f := fun k => Nt (s.2 k)) rfl (List.mem_cons_self ..) (ev_var rfl) rfl hk) (ev_var rfl))) (fun e => ?_) fun e => go_next fun σ H st => ⟨s, nextk s J.i J.z (fun y => ?_), st.wk (by repeat first | exact Wk.nil | refine Wk.keep ?_ | refine Wk.drop ?_)⟩
    · refine go_forR (n := L.w) (α := Ts) (fun c s => whS K H0 N p L.m L.n L.w (some (Nt k)) s) (fun c s => WhJ L cost k c s) (eva_cons (ev_var rfl) eva_nil) (by omega)
        ⟨s, J, fun σ H st => st.wk (by repeat first | exact Wk.nil | refine Wk.keep ?_ | refine Wk.drop ?_)⟩ (fun c s hc J => ?_) fun s J σ H st => ⟨s, nextk s J.i J.z J.y, st.wk (by repeat first | exact Wk.nil | refine Wk.keep ?_ | refine Wk.drop ?_)⟩
      unfold whS
      have hcn : c < L.n + 1 := by omega
      have hkm : k < L.m := hk
      refine go_if (et_and (et_test (ev_ige (ev_ixM (f := fun k => Nt (s.2 k)) rfl (List.mem_cons_self ..) (ev_var rfl) rfl hkm) (ev_var rfl))) fun _ => et_test (ev_op ot_neF (ev_op (ot_ixL rfl hcn) (ev_op (ot_ixL rfl hkm) (ev_var rfl) (ev_var rfl)) (ev_var rfl)) (ev_zero G))) (fun e => ?_) fun e => go_next fun σ H st => ⟨s, ⟨J.i, J.z, fun y d hd => ?_⟩, st.wk (by repeat first | exact Wk.nil | refine Wk.keep ?_ | refine Wk.drop ?_)⟩
      · simp only [Bool.and_eq_true] at e
        obtain ⟨e1, e2⟩ := e
        have hb : L.w ≤ s.2 k := by
          have := of_decide_eq_true e1
          omega
        have ne : s.1 k c ≠ 0 := fun z => by
          rw [decide_eq_true z] at e2
          cases e2
        refine go_seq (go_set (ev_call (⟨L.m, L.n, s.1, k, c⟩ : PivV) (eva_cons (ev_var rfl) (eva_cons (ev_var rfl) (eva_cons (ev_var rfl) eva_nil))) ⟨show L.m ≤ 100 by omega, hn, hkm, hcn, ne, fun j hj i hi => (Lp.ent_sml J.i.tab sc hj hi).mono (by decide) (by decide)⟩) ?_)
        refine go_put (M1 := []) (j := k) rfl rfl (R := Nt c) (ev_var rfl) (ev_var rfl) rfl hkm fun σ H st' => ?_
        obtain ⟨a1, a2, a3⟩ := Lp.wh_step J.i.tab J.i.pos J.i.h0 hkm hb hc ne
        refine ⟨(piv s.1 k c, pivB s.2 k c), ⟨⟨a1, a2, a3⟩, fun j hj hbj d hd => ?_, fun y => ?_⟩, (st'.mset rfl (put_to (fun j _ hne => ?_) ?_)).wk (by repeat first | exact Wk.nil | refine Wk.keep ?_ | refine Wk.drop ?_)⟩
        · have hjk : ¬ j = k := by omega
          have hbj' : L.w ≤ s.2 j := by
            have q : L.w ≤ pivB s.2 k c j := hbj
            unfold pivB at q
            rw [if_neg hjk] at q
            exact q
          have z1 := J.z j hj hbj' d hd
          have z2 := J.z j hj hbj' c hc
          show piv s.1 k c j d = 0
          unfold piv
          rw [if_neg hjk, z1, z2]
          grind
        · have q : L.w ≤ pivB s.2 k c k := y
          unfold pivB at q
          rw [if_pos rfl] at q
          omega
        · show Nt (s.2 j) = Nt (pivB s.2 k c j)
          unfold pivB
          rw [if_neg hne]
        · show Nt c = Nt (pivB s.2 k c k)
          unfold pivB
          rw [if_pos rfl]
      · by_cases ed : d = c
        · rw [ed]
          refine Classical.byContradiction fun ne => ?_
          have e1 : decide ((L.w : Int) ≤ ((s.2 k : Nat) : Int)) = true := decide_eq_true (by omega)
          have e2 : decide (s.1 k c = 0) = false := decide_eq_false ne
          have e3 : (decide ((L.w : Int) ≤ ((s.2 k : Nat) : Int)) && !decide (s.1 k c = 0)) = false := e
          rw [e1, e2] at e3
          cases e3
        · exact J.y y d (by omega)
    · have := of_decide_eq_false e
      omega
  · unfold whS
    refine go_freeze (i := 1) rfl rfl ?_
    exact go_ex (f := fun s : Ts => Tp K [Mx K L.m (L.n + 1) s.1, Il L.m s.2]) rt s ⟨J.i, fun j hj hb => ⟨J.i.h0 j hj hb, J.z j hj hb⟩⟩ (ev_tup (eva_cons (ev_var rfl) (eva_cons (ev_var rfl) eva_nil)))
end
end BB
namespace BB
open PySem PySem.Spec PyProof.Rows L2
section
variable {P : Program} {w : World} {K : PySem.W.Frag} {mg : Str → Option Value} {base : Heap}
/-! ### values, prices, the first basis -/
abbrev s_values_of : Stmt := (topS 33)
theorem sc_values_of : FnScope ["rows", "basis", "count", "k", "values"] ["rows", "basis", "count"] (defScope s_values_of) := ⟨rfl, rfl, rfl, by decide +kernel, rfl, by decide +kernel, by decide +kernel⟩

structure ValV where
  R : Nat
  m : Nat
  n : Nat
  cnt : Nat
  T : Nat → Nat → Rat
  B : Nat → Nat
structure ValOk (z : ValV) : Prop where
  m : z.m ≤ z.R
  R : z.R ≤ 100
  c : z.cnt ≤ 100
  inj : ∀ j k, j < z.m → k < z.m → z.B j = z.B k → j = k
def sp_values_of (K : PySem.W.Frag) : Sp := spR (fun z : ValV => [Mx K z.R (z.n + 1) z.T, Il z.m z.B, Nt z.cnt]) ValOk (fun z => Fl K z.cnt (vals z.m z.n z.T z.B))
theorem ok_values_of (G : Gb K mg) (F : Def0 K mg "values_of" s_values_of ["rows", "basis", "count"]) : DefOk P w K mg base "values_of" 1 ["rows", "basis", "count"] (sp_values_of K) := by
  refine okD F sc_values_of (fun _ => rfl) (by decide) fun f cdv A outer s H E hr ⟨R, m, n, cnt, T, B⟩ h => ⟨_, (pss_cons (ps_setLc (i := 4) (own := [("k", 3)]) (g := (gName 3)) (tt := tYes) rfl sc_values_of.nd rfl rfl (sw_true rfl rfl rfl (by decide +kernel)) (pi_range1 (by rfl) G.range (pa_cons (pv 2) pa_nil)) (blkOk_by (N := ["rows", "basis", "count", "k", "values"]) (own := [("k", 3)]) (sc := (defScope s_values_of)) (by decide +kernel)) (fun _ _ _ _ _ => (pg_name (i := 3) sc_values_of.nd rfl (.inl rfl))) (fun _ _ _ _ _ => pts_nil) (fun _ _ _ _ _ => (pe_glob (v := .ref G.zero.choose) rfl G.zero.choose_spec.1 rfl)))
        (pss_cons (ps_for PassesOwn.never rfl (pi_range1 (by rfl) G.range (pa_cons (pe_callB (r := rLenQ K) call_len_seq (by rfl) G.len PySem.boot_len (pa_cons (pv 1) pa_nil)) pa_nil)) (pg_name (i := 3) sc_values_of.nd rfl (.inl rfl)) (pss_one (ps_if (pt_cmpR op_lt (pe_ix (r := rIxL K) ix_list (pv 1) (pv 3) (fun _ _ => rfl)) (pv 2) (nomark _)) (pss_one (ps_asg (pe_ix (r := rIxL K) ix_list (pe_ix (r := rIxL K) ix_list (pv 0) (pv 3) (fun _ _ => rfl)) (pe_un un_neg pe_int) (fun _ _ => rfl)) (pg_sub (pv 4) (pe_ix (r := rIxL K) ix_list (pv 1) (pv 3) (fun _ _ => rfl)) set_list))) pss_nil)))
        (pss_one (ps_ret (pv 4))))), fun H0 N D rt => ?_⟩
  have hm : m ≤ R := h.m
  have hR : R ≤ 100 := h.R
  have hc : cnt ≤ 100 := h.c
  refine go_seq (go_new (evn_lcR (n := cnt) (R := fun _ => Fr K 0) (eva_cons (ev_var rfl) eva_nil) (by omega) fun D j _ => ev_zero G) fun p => go_seq ?_)
  refine go_forR (n := m) (α := Unit) (fun k _ => ⟨H0, N, [(p, cnt, fun d => Fr K (sm k fun j => if B j = d then T j n else 0))], [some (Mx K R (n + 1) T), some (Il m B), some (Nt cnt), none, some (Pt p)]⟩) (fun _ _ => True) (eva_cons (ev_cb ct_len (eva_cons (ev_var rfl) eva_nil)) eva_nil) (by omega) ⟨(), trivial, fun σ H st => st⟩ (fun k _ hk _ => ?_) fun _ _ => ?_
  · have hkR : k < R := by omega
    have eB : ∀ {S : Sta}, S.Γ[1]? = some (some (Il m B)) → S.Γ[3]? = some (some (Nt k)) → EV S (tOp (rIxL K) (tVar 1) (tVar 3)) (Nt (B k)) := fun h1 h3 => ev_op (ot_ixL (R := fun k => Nt (B k)) (k := k) rfl hk) (ev_var h1) (ev_var h3)
    refine go_if (et_test (ev_ilt (eB rfl rfl) (ev_var rfl))) (fun e => ?_) fun e => go_next fun σ H st => ⟨(), trivial, ?_⟩
    · have hB : B k < cnt := by
        have := of_decide_eq_true e
        omega
      refine go_put (M1 := []) (j := B k) rfl rfl (R := Fr K (T k n)) (ev_op ot_ixLast (ev_op (ot_ixL rfl hkR) (ev_var rfl) (ev_var rfl)) (ev_un ut_neg ev_int)) (eB rfl rfl) rfl hB fun σ H st => ⟨(), trivial, (st.mset rfl (put_to (fun d _ hne => ?_) ?_)).wk (by repeat first | exact Wk.nil | refine Wk.keep ?_ | refine Wk.drop ?_)⟩
      · show Fr K (sm k _) = Fr K (sm k _ + if B k = d then T k n else 0)
        rw [if_neg (fun z => hne z.symm), Rat.add_zero]
      · show Fr K (T k n) = Fr K (sm k (fun j => if B j = B k then T j n else 0) + if B k = B k then T k n else 0)
        rw [if_pos rfl, sm_zero (fun j hj => if_neg fun z => by
          have := h.inj j k (Nat.lt_trans hj hk) hk z
          omega), Rat.zero_add]
    · refine (st.mset rfl fun d hd H v hv => ?_).wk (by repeat first | exact Wk.nil | refine Wk.keep ?_ | refine Wk.drop ?_)
      have : ¬ B k = d := fun z => by
        have := of_decide_eq_false e
        omega
      show (Fr K (sm k _ + if B k = d then T k n else 0)).p H v
      rw [if_neg this, Rat.add_zero]
      exact hv
  · refine go_freeze (i := 4) rfl rfl ?_
    exact go_back rt (ev_var rfl)
abbrev lv (L : Lp) : LnV := ⟨L.m, L.cnt, L.ent, L.kind, L.right⟩
abbrev Sls (L : Lp) : Rp := Cols L.m .equal L.cnt L.kind
abbrev Hls (L : Lp) : Rp := Cols L.m .most L.w L.kind
theorem sl_at {L : Lp} {k : Nat} (h : L.kind k ≠ .equal) : colK .equal L.cnt L.kind k = some (L.cnt + L.sc k) := if_neg h
theorem hl_at {L : Lp} {k : Nat} (h : L.kind k ≠ .most) : colK .most L.w L.kind k = some (L.w + L.hc k) := if_neg h
theorem hl_none {L : Lp} {k : Nat} (h : (colK .most L.w L.kind k).isNone = true) : L.kind k = .most := Classical.byContradiction fun z => by
  rw [hl_at z] at h; cases h
theorem hl_some {L : Lp} {k : Nat} (h : (colK .most L.w L.kind k).isNone = false) : L.kind k ≠ .most := fun z => by
  unfold colK at h
  rw [if_pos z] at h; cases h
abbrev s_prices_of : Stmt := (topS 35)
theorem sc_prices_of : FnScope ["costs", "lines", "slacks", "helpers", "own", "prices", "k", "price"] ["costs", "lines", "slacks", "helpers", "own"] (defScope s_prices_of) := ⟨rfl, rfl, rfl, by decide +kernel, rfl, by decide +kernel, by decide +kernel⟩

def sp_prices_of (K : PySem.W.Frag) : Sp := spR (fun z : Lp × (Nat → Rat) => [Fl K (z.1.n + 1) z.2, (lv z.1).rp K, Sls z.1, Hls z.1, Fr K 0]) (fun z => z.1.m ≤ 6 ∧ z.1.n ≤ 100 ∧ ∀ c, c ≤ z.1.n → Sml (z.2 c)) (fun z => Fl K z.1.m fun k => - z.2 (z.1.u k))
theorem ok_prices_of (G : Gb K mg) (F : Def0 K mg "prices_of" s_prices_of ["costs", "lines", "slacks", "helpers", "own"]) (d_neg : DefOk P w K mg base "neg" 1 ["a"] (sp_neg K)) (d_sub : DefOk P w K mg base "sub" 2 ["a", "b"] (sp_sub K)) : DefOk P w K mg base "prices_of" 3 ["costs", "lines", "slacks", "helpers", "own"] (sp_prices_of K) := by
  refine okD F sc_prices_of (fun _ => rfl) (by decide) fun f cdv A outer s H E hr ⟨L, z⟩ h => ⟨_, (pss_cons (ps_set (i := 5) sc_prices_of.nd rfl (.inl rfl) (pe_lst pa_nil))
        (pss_cons (ps_for PassesOwn.never rfl (pi_range1 (by rfl) G.range (pa_cons (pe_callB (r := rLenQ K) call_len_seq (by rfl) G.len PySem.boot_len (pa_cons (pv 1) pa_nil)) pa_nil)) (pg_name (i := 6) sc_prices_of.nd rfl (.inl rfl)) (pss_cons (ps_if (pt_cmpR op_isN (pe_ix (r := rIxL K) ix_list (pv 3) (pv 6) (fun _ _ => rfl)) pe_non (nomark _)) (pss_one (ps_set (i := 7) sc_prices_of.nd rfl (.inl rfl) (pe_cd d_neg (hr.mono (by decide)) (by rfl) (pa_cons (pe_ix (r := rIxL K) ix_list (pv 0) (pe_ix (r := rIxL K) ix_list (pv 2) (pv 6) (fun _ _ => rfl)) (fun _ _ => rfl)) pa_nil)))) (pss_one (ps_set (i := 7) sc_prices_of.nd rfl (.inl rfl) (pe_cd d_sub (hr.mono (by decide)) (by rfl) (pa_cons (pv 4) (pa_cons (pe_ix (r := rIxL K) ix_list (pv 0) (pe_ix (r := rIxL K) ix_list (pv 3) (pv 6) (fun _ _ => rfl)) (fun _ _ => rfl)) pa_nil))))))
        (pss_one (ps_expr (pe_appK (K := K) rfl (pv 5) (pa_cons (pe_ifExp (pt_val (pe_ix (r := rIxT K) ix_tup (pe_ix (r := rIxL K) ix_list (pv 1) (pv 6) (fun _ _ => rfl)) pe_int (fun _ _ => rfl))) (pe_cd d_neg (hr.mono (by decide)) (by rfl) (pa_cons (pv 7) pa_nil)) (pv 7)) pa_nil))))))
        (pss_one (ps_ret (pv 5))))), fun H0 N D rt => ?_⟩
  have hm : L.m ≤ 6 := h.1
  have hn : L.n ≤ 100 := h.2.1
  have hz : ∀ c, c ≤ L.n → Sml (z c) := h.2.2
  refine go_seq (go_new (evn_lst eva_nil) fun p => go_seq ?_)
  refine go_forR (n := L.m) (α := Unit) (fun k _ => ⟨H0, N, [(p, k, fun j => Fr K (- z (L.u j)))], [some (Fl K (L.n + 1) z), some ((lv L).rp K), some (Sls L), some (Hls L), some (Fr K 0), some (Pt p), none, none]⟩) (fun _ _ => True) (eva_cons (ev_cb ct_len (eva_cons (ev_var rfl) eva_nil)) eva_nil) (by omega)
    ⟨(), trivial, fun σ H st => st.mset rfl fun k hk => absurd hk (Nat.not_lt_zero k)⟩ (fun k _ hk _ => ?_) fun _ _ => ?_
  · have hkl : k < L.m := hk
    have hu : L.u k < L.n := (Lp.unitA hkl).1
    refine go_seq (go_ifj ⟨H0, N, [(p, k, fun j => Fr K (- z (L.u j)))], [some (Fl K (L.n + 1) z), some ((lv L).rp K), some (Sls L), some (Hls L), some (Fr K 0), some (Pt p), some (Nt k), some (Fr K (- z (L.u k)))]⟩
      (et_test (ev_op (ot_isN on_none) (ev_op (ot_ixL rfl hk) (ev_var rfl) (ev_var rfl)) ev_non)) (fun e nx kk => ?_) (fun e nx kk => ?_) ?_)
    · have ek := hl_none e
      have eu : L.u k = L.cnt + L.sc k := if_pos ek
      refine go_set (ev_neg (ev_op (ot_ixL (k := L.u k) rfl (by omega)) (ev_var rfl) (ev_sub (ev_op (ot_ixL rfl hk) (ev_var rfl) (ev_var rfl)) (on_some (by rw [eu]; exact sl_at fun y => by rw [ek] at y; cases y))))) fun σ H st => kk σ H (st.wk (by repeat first | exact Wk.nil | refine Wk.keep ?_ | refine Wk.drop ?_))
    · have ek := hl_some e
      have eu : L.u k = L.w + L.hc k := if_neg ek
      refine go_set (ev_eq (ev_subq (b := z (L.u k)) (ev_var rfl) (ev_op (ot_ixL (k := L.u k) rfl (by omega)) (ev_var rfl) (ev_sub (ev_op (ot_ixL rfl hk) (ev_var rfl) (ev_var rfl)) (on_some (by rw [eu]; exact hl_at ek)))) (Bd.zero.ok2 (hz _ (by omega)) (by decide))) ?_) fun σ H st => kk σ H (st.wk (by repeat first | exact Wk.nil | refine Wk.keep ?_ | refine Wk.drop ?_))
      rw [Rat.sub_eq_add_neg, Rat.zero_add]
    · refine go_app (M1 := []) rfl rfl (by omega) (R := Fr K (- z (L.u k))) (ev_if (b := false) (et_test (ev_op (ot_ixT (k := 3) rfl rfl) (ev_op (ot_ixL rfl hk) (ev_var rfl) (ev_var rfl)) ev_int)) (fun e => by cases e) fun _ => ev_var rfl) fun σ H st => ⟨(), trivial, (st.mset rfl (snoc_at (fun _ _ => rfl) rfl)).wk (by repeat first | exact Wk.nil | refine Wk.keep ?_ | refine Wk.drop ?_)⟩
  · refine go_freeze (i := 5) rfl rfl ?_
    exact go_back rt (ev_var rfl)
abbrev s_first_basis : Stmt := (topS 36)
theorem sc_first_basis : FnScope ["slacks", "helpers", "k"] ["slacks", "helpers"] (defScope s_first_basis) := ⟨rfl, rfl, rfl, by decide +kernel, rfl, by decide +kernel, by decide +kernel⟩

def sp_first_basis (K : PySem.W.Frag) : Sp := spR (fun z : Lp => [Sls z, Hls z]) (fun z => z.m ≤ 6) (fun z => Il z.m z.u)
theorem ok_first_basis (G : Gb K mg) (F : Def0 K mg "first_basis" s_first_basis ["slacks", "helpers"]) : DefOk P w K mg base "first_basis" 1 ["slacks", "helpers"] (sp_first_basis K) := by
  refine okD F sc_first_basis (fun _ => rfl) (by decide) fun f cdv A outer s H E hr L h => ⟨_, (pss_one (ps_ret (pe_lc (own := [("k", 2)]) (g := (gName 2)) (tt := tYes) rfl sc_first_basis.nd (pi_range1 (by rfl) G.range (pa_cons (pe_callB (r := rLenQ K) call_len_seq (by rfl) G.len PySem.boot_len (pa_cons (pv 0) pa_nil)) pa_nil)) (blkOk_by (N := ["slacks", "helpers", "k"]) (own := [("k", 2)]) (sc := (defScope s_first_basis)) (by decide +kernel)) (fun _ _ _ _ _ => (pg_name (i := 2) sc_first_basis.nd rfl (.inl rfl))) (fun _ _ _ _ _ => pts_nil) (fun _ _ _ _ _ => (pe_ifExp (pt_cmpR op_isN (pe_ix (r := rIxL K) ix_list (pv 1) (pv 2) (fun _ _ => rfl)) pe_non (nomark _)) (pe_ix (r := rIxL K) ix_list (pv 0) (pv 2) (fun _ _ => rfl)) (pe_ix (r := rIxL K) ix_list (pv 1) (pv 2) (fun _ _ => rfl))))))), fun H0 N D rt => ?_⟩
  have hm : L.m ≤ 6 := h
  refine go_back rt (evn_lcR (n := L.m) (R := fun k => Nt (L.u k)) (eva_cons (ev_cb ct_len (eva_cons (ev_var rfl) eva_nil)) eva_nil) (by omega) fun D k hk => ev_if (et_test (ev_op (ot_isN on_none) (ev_op (ot_ixL rfl hk) (ev_var rfl) (ev_var rfl)) ev_non)) (fun e => ?_) fun e => ?_).ev
  · have ek := hl_none e
    have eu : L.u k = L.cnt + L.sc k := if_pos ek
    exact ev_sub (ev_op (ot_ixL rfl hk) (ev_var rfl) (ev_var rfl)) (on_some (by rw [eu]; exact sl_at fun y => by rw [ek] at y; cases y))
  · have ek := hl_some e
    have eu : L.u k = L.w + L.hc k := if_neg ek
    exact ev_sub (ev_op (ot_ixL rfl hk) (ev_var rfl) (ev_var rfl)) (on_some (by rw [eu]; exact hl_at ek))
end
end BB
namespace BB
open PySem PySem.Spec PyProof.Rows L2
section
variable {P : Program} {w : World} {K : PySem.W.Frag} {mg : Str → Option Value} {base : Heap}
/-! ### solve -/
abbrev s_solve : Stmt := (topS 37)
theorem sc_solve : FnScope ["costs", "lines", "count", "slacks", "width", "helpers", "total", "rows", "basis", "first", "c", "second", "values", "line", "k"] ["costs", "lines"] (defScope s_solve) := ⟨rfl, rfl, rfl, by decide +kernel, rfl, by decide +kernel, by decide +kernel⟩

structure SolV where
  L : Lp
  cost : Nat → Rat
  D : Nat → Int
  E : Int
  e : Nat
  r : Nat
structure SolOk (z : SolV) : Prop where
  n : z.L.n ≤ 100
  pos : ∀ k, k < z.L.m → 0 < z.L.right k ∧ Mid (z.L.right k)
  sc : Lp.Scld z.L z.D z.E
  eb : z.E.natAbs < 2 ^ z.e
  rr : ∀ i, i < z.L.m → ∃ w : Int, z.E * (z.D i * z.L.right i) = (w : Rat) ∧ w.natAbs ≤ 2 ^ z.r
  cs : ∃ dc, Lp.CScl z.L (z.L.c2 z.cost) dc
  bd : Lp.Bounded z.L z.cost
  fits : ∃ x, z.L.Fits x
structure SolS (z : SolV) (a : Rat × (Nat → Rat) × (Nat → Rat)) : Prop where
  sol : z.L.Sol z.cost a.2.1 a.2.2 a.1
  v : Bd (747 + z.r) (865 + z.e) a.1
  w : ∃ (V : Int) (w : Nat → Int), V ≠ 0 ∧ V.natAbs < 2 ^ 865 ∧ ∀ k, k < z.L.m → (V : Rat) * a.2.2 k = (w k : Rat) * z.D k ∧ (w k).natAbs ≤ 2 ^ 744
  x : ∀ c, c < z.L.cnt → Bd 1797 1765 (a.2.1 c)
  y : ∀ k, k < z.L.m → Sml (a.2.2 k)
abbrev SolR (K : PySem.W.Frag) (cnt m : Nat) (a : Rat × (Nat → Rat) × (Nat → Rat)) : Rp := Tp K [Sr "end", Fr K a.1, Fl K cnt a.2.1, Fl K m a.2.2]
abbrev Lns (K : PySem.W.Frag) (L : Lp) : Rp := Li L.m fun k => Ln K L.cnt (L.ent k) (L.kind k) (L.right k)
def sp_solve (K : PySem.W.Frag) : Sp := spR (fun z : SolV => [Fl K z.L.cnt z.cost, Lns K z.L]) SolOk (fun z => Exr (SolS z) (SolR K z.L.cnt z.L.m))
theorem red_ok {L : Lp} {cost cost0 : Nat → Rat} {T : Nat → Nat → Rat} {B : Nat → Nat} {D : Nat → Int} {E dc : Int} (I : Tab L.m L.n L.A cost0 T B) (S : Lp.Scld L D E) (C : Lp.CScl L cost dc) (hn : L.n ≤ 100) (h0 : cost L.n = 0) : RedOk ⟨L.m, L.n, cost, T, B⟩ :=
  ⟨by have := S.m6; show L.m ≤ 100; omega, hn, h0, I.bd, fun k hk c hc => by
    have b1 := Lp.part_sml I S C (Nat.le_of_lt hk) hc
    have b2 := C.bd (B k)
    have b3 := Lp.ent_sml I S hk hc
    exact ⟨b2.ok2 b3 (by decide), b1.ok2 (b2.mul b3) (by decide), b3.mid (by decide) (by decide)⟩⟩
theorem good_sml {L : Lp} {cost : Nat → Rat} {D : Nat → Int} {E dc : Int} {s : Ts} (I : Tab L.m L.n L.A cost s.1 s.2) (S : Lp.Scld L D E) (C : Lp.CScl L cost dc) : ∀ k, k ≤ L.m → ∀ i, i ≤ L.n → Sml (s.1 k i) := fun k hk i hi => by
  by_cases e : k = L.m
  · rw [e]
    exact Lp.z_sml I S C hi
  · exact (Lp.ent_sml I S (show k < L.m by omega) hi).mono (by decide) (by decide)
theorem recost_rows {m n : Nat} {cost : Nat → Rat} {T : Nat → Nat → Rat} {B : Nat → Nat} : ∀ k, k < m + 1 → glue m (fun k => Fl K n (T k)) (fun j => ([Fl K n (Lp.part cost T B m)] : List Rp).getD j Ay) k = Fl K n (recost m cost T B k) := fun k hk => by
  unfold glue
  by_cases e : k < m
  · rw [if_pos e]
    show Fl K n (T k) = Fl K n (recost m cost T B k)
    congr 1
    funext i
    unfold recost
    rw [if_neg (by omega)]
  · have ek : k = m := by omega
    rw [if_neg e, ek, Nat.sub_self]
    show Fl K n (Lp.part cost T B m) = Fl K n (recost m cost T B m)
    congr 1
    funext i
    unfold recost
    rw [if_pos rfl]
    rfl
theorem recost_low {m n : Nat} {cost : Nat → Rat} {T : Nat → Nat → Rat} {B : Nat → Nat} : ∀ k, k < m → Fl K n (T k) = Fl K n (recost m cost T B k) := fun k hk => by
  congr 1
  funext i
  unfold recost
  rw [if_neg (by omega)]
theorem ok_solve (G : Gb K mg) (F : Def0 K mg "solve" s_solve ["costs", "lines"]) (d_turned : DefOk P w K mg base "turned" 2 ["line"] (sp_turned K))
    (d_slack_columns : DefOk P w K mg base "slack_columns" 1 ["count", "lines"] (sp_cols K .equal)) (d_helper_columns : DefOk P w K mg base "helper_columns" 1 ["column", "lines"] (sp_cols K .most))
    (d_first_rows : DefOk P w K mg base "first_rows" 2 ["lines", "slacks", "helpers", "total"] (sp_first_rows K)) (d_first_basis : DefOk P w K mg base "first_basis" 1 ["slacks", "helpers"] (sp_first_basis K))
    (d_reduced : DefOk P w K mg base "reduced" 4 ["costs", "rows", "basis"] (sp_reduced K)) (d_descend : DefOk P w K mg base "descend" 5 ["rows", "basis", "width"] (sp_descend K))
    (d_less : DefOk P w K mg base "less" 1 ["a", "b"] (sp_less K)) (d_without_helpers : DefOk P w K mg base "without_helpers" 5 ["rows", "basis", "width"] (sp_without_helpers K))
    (d_values_of : DefOk P w K mg base "values_of" 1 ["rows", "basis", "count"] (sp_values_of K)) (d_dot : DefOk P w K mg base "dot" 3 ["a", "b"] (sp_dot K))
    (d_prices_of : DefOk P w K mg base "prices_of" 3 ["costs", "lines", "slacks", "helpers", "own"] (sp_prices_of K))
    {sp_ray : Sp} (d_ray_of : DefOk P w K mg base "ray_of" 5 ["rows", "basis", "count", "c"] sp_ray) : DefOk P w K mg base "solve" 6 ["costs", "lines"] (sp_solve K) := by
  refine okD F sc_solve (fun _ => rfl) (by decide) fun f cdv A outer s H E hr ⟨L, cost, Df, Ef, ee, rr⟩ h => ⟨_, (pss_cons (ps_set (i := 2) sc_solve.nd rfl (.inl rfl) (pe_callB (r := rLenQ K) call_len_seq (by rfl) G.len PySem.boot_len (pa_cons (pv 0) pa_nil)))
        (pss_cons (ps_setLc (i := 1) (own := [("line", 13)]) (g := (gName 13)) (tt := tYes) rfl sc_solve.nd rfl rfl (sw_true rfl rfl rfl (by decide +kernel)) (pi_listK (K := K) rfl (pv 1)) (blkOk_by (N := ["costs", "lines", "count", "slacks", "width", "helpers", "total", "rows", "basis", "first", "c", "second", "values", "line", "k"]) (own := [("line", 13)]) (sc := (defScope s_solve)) (by decide +kernel)) (fun _ _ _ _ _ => (pg_name (i := 13) sc_solve.nd rfl (.inl rfl))) (fun _ _ _ _ _ => pts_nil) (fun _ _ _ _ _ => (pe_cd d_turned (hr.mono (by decide)) (by rfl) (pa_cons (pv 13) pa_nil))))
        (pss_cons (ps_asg (pe_cd d_slack_columns (hr.mono (by decide)) (by rfl) (pa_cons (pv 2) (pa_cons (pv 1) pa_nil))) (pg_tupK (K := K) rfl (by rfl) (pgs_cons (pg_name (i := 3) sc_solve.nd rfl (.inl rfl)) (pgs_cons (pg_name (i := 4) sc_solve.nd rfl (.inl rfl)) pgs_nil))))
        (pss_cons (ps_asg (pe_cd d_helper_columns (hr.mono (by decide)) (by rfl) (pa_cons (pv 4) (pa_cons (pv 1) pa_nil))) (pg_tupK (K := K) rfl (by rfl) (pgs_cons (pg_name (i := 5) sc_solve.nd rfl (.inl rfl)) (pgs_cons (pg_name (i := 6) sc_solve.nd rfl (.inl rfl)) pgs_nil))))
        (pss_cons (ps_set (i := 7) sc_solve.nd rfl (.inl rfl) (pe_cd d_first_rows (hr.mono (by decide)) (by rfl) (pa_cons (pv 1) (pa_cons (pv 3) (pa_cons (pv 5) (pa_cons (pv 6) pa_nil))))))
        (pss_cons (ps_set (i := 8) sc_solve.nd rfl (.inl rfl) (pe_cd d_first_basis (hr.mono (by decide)) (by rfl) (pa_cons (pv 3) (pa_cons (pv 5) pa_nil))))
        (pss_cons (ps_set (i := 9) sc_solve.nd rfl (.inl rfl) (pe_op op_cat (pe_lc (own := [("k", 14)]) (g := (gName 14)) (tt := tYes) rfl sc_solve.nd (pi_range1 (by rfl) G.range (pa_cons (pv 4) pa_nil)) (blkOk_by (N := ["costs", "lines", "count", "slacks", "width", "helpers", "total", "rows", "basis", "first", "c", "second", "values", "line", "k"]) (own := [("k", 14)]) (sc := (defScope s_solve)) (by decide +kernel)) (fun _ _ _ _ _ => (pg_name (i := 14) sc_solve.nd rfl (.inl rfl))) (fun _ _ _ _ _ => pts_nil) (fun _ _ _ _ _ => (pe_glob (v := .ref G.zero.choose) rfl G.zero.choose_spec.1 rfl))) (pe_lc (own := [("k", 14)]) (g := (gName 14)) (tt := tYes) rfl sc_solve.nd (pi_range1 (by rfl) G.range (pa_cons (pe_op op_sub (pv 6) (pv 4)) pa_nil)) (blkOk_by (N := ["costs", "lines", "count", "slacks", "width", "helpers", "total", "rows", "basis", "first", "c", "second", "values", "line", "k"]) (own := [("k", 14)]) (sc := (defScope s_solve)) (by decide +kernel)) (fun _ _ _ _ _ => (pg_name (i := 14) sc_solve.nd rfl (.inl rfl))) (fun _ _ _ _ _ => pts_nil) (fun _ _ _ _ _ => (pe_glob (v := .ref G.one.choose) rfl G.one.choose_spec.1 rfl)))))
        (pss_cons (ps_asg (pe_cd d_descend (hr.mono (by decide)) (by rfl) (pa_cons (pe_op op_cat (pv 7) (pe_lst (pa_cons (pe_cd d_reduced (hr.mono (by decide)) (by rfl) (pa_cons (pv 9) (pa_cons (pv 7) (pa_cons (pv 8) pa_nil)))) pa_nil))) (pa_cons (pv 8) (pa_cons (pv 4) pa_nil)))) (pg_tupK (K := K) rfl (by rfl) (pgs_cons (pg_name (i := 7) sc_solve.nd rfl (.inl rfl)) (pgs_cons (pg_name (i := 8) sc_solve.nd rfl (.inl rfl)) (pgs_cons (pg_name (i := 10) sc_solve.nd rfl (.inl rfl)) pgs_nil)))))
        (pss_cons (ps_if (pt_val (pe_cd d_less (hr.mono (by decide)) (by rfl) (pa_cons (pe_ix (r := rIxL K) ix_list (pe_ix (r := rIxL K) ix_list (pv 7) (pe_un un_neg pe_int) (fun _ _ => rfl)) (pe_un un_neg pe_int) (fun _ _ => rfl)) (pa_cons (pe_glob (v := .ref G.zero.choose) rfl G.zero.choose_spec.1 rfl) pa_nil)))) (pss_one (ps_ret (pe_tup (pa_cons pe_str (pa_cons (pe_cd d_prices_of (hr.mono (by decide)) (by rfl) (pa_cons (pe_ix (r := rIxL K) ix_list (pv 7) (pe_un un_neg pe_int) (fun _ _ => rfl)) (pa_cons (pv 1) (pa_cons (pv 3) (pa_cons (pv 5) (pa_cons (pe_glob (v := .ref G.one.choose) rfl G.one.choose_spec.1 rfl) pa_nil)))))) pa_nil))))) pss_nil)
        (pss_cons (ps_asg (pe_cd d_without_helpers (hr.mono (by decide)) (by rfl) (pa_cons (pe_slice (r := rSlL K) sl_list (pv 7) po_none (po_some (pe_un un_neg pe_int))) (pa_cons (pv 8) (pa_cons (pv 4) pa_nil)))) (pg_tupK (K := K) rfl (by rfl) (pgs_cons (pg_name (i := 7) sc_solve.nd rfl (.inl rfl)) (pgs_cons (pg_name (i := 8) sc_solve.nd rfl (.inl rfl)) pgs_nil))))
        (pss_cons (ps_set (i := 11) sc_solve.nd rfl (.inl rfl) (pe_op op_cat (pe_callTy (r := rListQ K) call_list_of (by rfl) G.list (by decide +kernel) (pa_cons (pv 0) pa_nil)) (pe_lc (own := [("k", 14)]) (g := (gName 14)) (tt := tYes) rfl sc_solve.nd (pi_range1 (by rfl) G.range (pa_cons (pe_op op_sub (pv 6) (pv 2)) pa_nil)) (blkOk_by (N := ["costs", "lines", "count", "slacks", "width", "helpers", "total", "rows", "basis", "first", "c", "second", "values", "line", "k"]) (own := [("k", 14)]) (sc := (defScope s_solve)) (by decide +kernel)) (fun _ _ _ _ _ => (pg_name (i := 14) sc_solve.nd rfl (.inl rfl))) (fun _ _ _ _ _ => pts_nil) (fun _ _ _ _ _ => (pe_glob (v := .ref G.zero.choose) rfl G.zero.choose_spec.1 rfl)))))
        (pss_cons (ps_asg (pe_cd d_descend (hr.mono (by decide)) (by rfl) (pa_cons (pe_op op_cat (pv 7) (pe_lst (pa_cons (pe_cd d_reduced (hr.mono (by decide)) (by rfl) (pa_cons (pv 11) (pa_cons (pv 7) (pa_cons (pv 8) pa_nil)))) pa_nil))) (pa_cons (pv 8) (pa_cons (pv 4) pa_nil)))) (pg_tupK (K := K) rfl (by rfl) (pgs_cons (pg_name (i := 7) sc_solve.nd rfl (.inl rfl)) (pgs_cons (pg_name (i := 8) sc_solve.nd rfl (.inl rfl)) (pgs_cons (pg_name (i := 10) sc_solve.nd rfl (.inl rfl)) pgs_nil)))))
        (pss_cons (ps_set (i := 12) sc_solve.nd rfl (.inl rfl) (pe_cd d_values_of (hr.mono (by decide)) (by rfl) (pa_cons (pv 7) (pa_cons (pv 8) (pa_cons (pv 2) pa_nil)))))
        (pss_cons (ps_if (pt_cmpR op_notN (pv 10) pe_non (nomark _)) (pss_one (ps_ret (pe_tup (pa_cons pe_str (pa_cons (pv 12) (pa_cons (pe_cd d_ray_of (hr.mono (by decide)) (by rfl) (pa_cons (pv 7) (pa_cons (pv 8) (pa_cons (pv 2) (pa_cons (pv 10) pa_nil))))) pa_nil)))))) pss_nil)
        (pss_one (ps_ret (pe_tup (pa_cons pe_str (pa_cons (pe_cd d_dot (hr.mono (by decide)) (by rfl) (pa_cons (pv 0) (pa_cons (pv 12) pa_nil))) (pa_cons (pv 12) (pa_cons (pe_cd d_prices_of (hr.mono (by decide)) (by rfl) (pa_cons (pe_ix (r := rIxL K) ix_list (pv 7) (pe_un un_neg pe_int) (fun _ _ => rfl)) (pa_cons (pv 1) (pa_cons (pv 3) (pa_cons (pv 5) (pa_cons (pe_glob (v := .ref G.zero.choose) rfl G.zero.choose_spec.1 rfl) pa_nil)))))) pa_nil))))))))))))))))))))), fun H0 N D rt => ?_⟩
  have hn : L.n ≤ 100 := h.n
  obtain ⟨dc, cs⟩ := h.cs
  have sc : Lp.Scld L Df Ef := h.sc
  have cs : Lp.CScl L (L.c2 cost) dc := cs
  have bd : Lp.Bounded L cost := h.bd
  have hm : L.m ≤ 6 := sc.m6
  have hwn : L.w ≤ L.n := Lp.le_wn
  have hcw : L.cnt ≤ L.w := Nat.le_add_right _ _
  have pos : ∀ k, k < L.m → 0 < L.right k ∧ Mid (L.right k) := h.pos
  obtain ⟨x0, fx⟩ := h.fits
  have g1 : Good L.m L.n L.w L.A L.c1 (recost L.m L.c1 L.A L.u, L.u) := Lp.p1_start fun k hk => Rat.le_of_lt (pos k hk).1
  have nnw : ((L.n : Int) - (L.w : Int)) = ((L.n - L.w : Nat) : Int) := (Int.ofNat_sub hwn).symm
  have nnc : ((L.n : Int) - (L.cnt : Int)) = ((L.n - L.cnt : Nat) : Int) := (Int.ofNat_sub (Nat.le_trans hcw hwn)).symm
  refine go_seq (go_set (R := Nt L.cnt) (ev_cb ct_len (eva_cons (ev_var rfl) eva_nil)) (go_seq ?_))
  refine go_set (R := (lv L).rp K) (evn_lcL (ev_var rfl) (by show L.m ≤ 1000; omega) fun D k hk => ev_call (L.cnt, L.ent k, L.kind k, L.right k) (eva_cons (ev_var rfl) eva_nil) (pos k hk)).ev (go_seq ?_)
  refine go_asg (R := Tp K [Sls L, Nt L.w]) (ev_call (L.cnt, lv L) (eva_cons (ev_var rfl) (eva_cons (ev_var rfl) eva_nil)) (show L.m ≤ 1000 by omega)) (gt_tup rfl (gl_cons (gl_cons gl_nil))) (go_seq ?_)
  refine go_asg (R := Tp K [Hls L, Nt L.n]) (ev_call (L.w, lv L) (eva_cons (ev_var rfl) (eva_cons (ev_var rfl) eva_nil)) (show L.m ≤ 1000 by omega)) (gt_tup rfl (gl_cons (gl_cons gl_nil))) (go_seq ?_)
  refine go_set (R := Mx K L.m (L.n + 1) (recost L.m L.c1 L.A L.u)) (ev_sub (ev_call (lv L) (eva_cons (ev_var rfl) (eva_cons (ev_var rfl) (eva_cons (ev_var rfl) (eva_cons (ev_var rfl) eva_nil)))) ⟨show L.m ≤ 100 by omega, hn⟩) (li_eq (n := L.m) recost_low)) (go_seq ?_)
  refine go_set (R := Il L.m L.u) (ev_call L (eva_cons (ev_var rfl) (eva_cons (ev_var rfl) eva_nil)) hm) (go_seq ?_)
  refine go_set (R := Fl K L.n L.c1) (evn_eq (evn_cat (evn_lcR (n := L.w) (R := fun _ => Fr K 0) (eva_cons (ev_var rfl) eva_nil) (by omega) fun D k _ => ev_zero G).ev (evn_lcR (n := L.n - L.w) (R := fun _ => Fr K 1) (eva_cons (ev_eq (ev_isub (i := L.n) (j := L.w) (ev_var rfl) (ev_var rfl)) (by rw [nnw])) eva_nil) (by omega) fun D k _ => ev_one G).ev (by omega)) (by omega) fun c hc => ?_).ev (go_seq ?_)
  · unfold glue Lp.c1
    by_cases e : c < L.w
    · rw [if_pos e, if_pos e]
    · rw [if_neg e, if_neg e, if_pos (by omega)]
  show Go ⟨H0, N, [], [some (Fl K L.cnt cost), some ((lv L).rp K), some (Nt L.cnt), some (Sls L), some (Nt L.w), some (Hls L), some (Nt L.n), some (Mx K L.m (L.n + 1) (recost L.m L.c1 L.A L.u)), some (Il L.m L.u), some (Fl K L.n L.c1), none, none, none, none, none]⟩ _
  have s1 : Lp.Scld L Df Ef := sc
  have phase : ∀ (costs : Nat → Rat) (T : Nat → Nat → Rat) (B : Nat → Nat) (cost0 : Nat → Rat) (I : Ts → Prop) {d : Int}, Tab L.m L.n L.A cost0 T B → Lp.CScl L costs d → costs L.n = 0 → (∀ s, I s → Good L.m L.n L.w L.A costs s) → I (recost L.m costs T B, B) → (∀ s s', I s → Stp L.m L.n L.w s s' → I s') → (∀ s c, I s → Enter L.m L.w s.1 c → ∃ k, k < L.m ∧ 0 < s.1 k c) →
      ∀ {S : Sta} {tr tb tc tw : TE} {E1 E2 : XK}, EV S tr (Mx K L.m (L.n + 1) T) → EV S tb (Il L.m B) → EV S tc (Fl K L.n costs) → EV S tw (Nt L.w) →
      EV S (tCall (sp_descend K) [] E1 (tCons (tOp rCat tr (tLst (tCons (tCall (sp_reduced K) [] E2 (tCons tc (tCons tr (tCons tb tNil)))) tNil))) (tCons tb (tCons tw tNil)))) (Exr (fun s : Ts => I s ∧ ∀ d, d < L.w → 0 ≤ s.1 L.m d) fun s => Tp K [Mx K (L.m + 1) (L.n + 1) s.1, Il L.m s.2, No]) := fun costs T B cost0 I d tb0 C h0 hg hi hst hlv S tr tb tc tw E1 E2 er eb ec ew =>
    ev_call (⟨L.m, L.n, L.w, recost L.m costs T B, B, I⟩ : DscV) (eva_cons (ev_sub (evn_cat er (evn_lst (eva_cons (ev_call (⟨L.m, L.n, costs, T, B⟩ : RedV) (eva_cons ec (eva_cons er (eva_cons eb eva_nil))) (red_ok tb0 s1 C hn h0)) eva_nil)).ev (by show L.m + 1 ≤ 1000; omega)).ev (li_eq (n := L.m + 1) recost_rows)) (eva_cons eb (eva_cons ew eva_nil)))
      ⟨show L.m ≤ 50 by omega, hn, hwn, hi, fun s hs => good_sml (hg s hs).tab s1 C, hst, hlv, ⟨_, (hg _ hi).ends hwn⟩⟩
  have rr : recost L.m L.c1 (recost L.m L.c1 L.A L.u) L.u = recost L.m L.c1 L.A L.u := by
    funext k c
    unfold recost
    by_cases e : k = L.m
    · rw [if_pos e, if_pos e]
      congr 1
      exact sm_congr fun l hl => by rw [if_neg (by omega)]
    · rw [if_neg e, if_neg e]
  refine go_asgX (S' := fun s => _) (phase L.c1 _ L.u L.c1 (fun s => Good L.m L.n L.w L.A L.c1 s) g1.tab Lp.c1_scl Lp.c1_n (fun _ h => h) (by rw [rr]; exact g1) (fun s s' h st => h.step hwn st) (fun s c h e => Lp.p1_leaves h e) (ev_var rfl) (ev_var rfl) (ev_var rfl) (ev_var rfl)) (fun s hs => gt_tup rfl (gl_cons (gl_cons (gl_cons gl_nil)))) fun s ⟨gs, zs⟩ => go_seq ?_
  obtain ⟨p1, p2⟩ := Lp.p1_end (T := s.1) (B := s.2) gs zs fx
  show Go ⟨H0, N, [], [some (Fl K L.cnt cost), some ((lv L).rp K), some (Nt L.cnt), some (Sls L), some (Nt L.w), some (Hls L), some (Nt L.n), some (Mx K (L.m + 1) (L.n + 1) s.1), some (Il L.m s.2), some (Fl K L.n L.c1), some No, none, none, none, none]⟩ _
  refine go_if (b := false) (et_eq (et_B (ev_less (ev_op ot_ixLast (ev_op ot_ixLast (ev_var rfl) (ev_un ut_neg ev_int)) (ev_un ut_neg ev_int)) (ev_zero G) ((good_sml gs.tab s1 Lp.c1_scl L.m (Nat.le_refl _) L.n (Nat.le_refl _)).mid (by decide) (by decide)) mid0)) (decide_eq_false (Rat.not_lt.mpr p1))) (fun e => by cases e) fun _ => go_next (go_seq ?_)
  refine go_asgX (S' := fun s => _) (ev_call (⟨L, Df, Ef, L.c1, s.1, s.2⟩ : WhV) (eva_cons (ev_sub (evn_slice (f := fun k => Fl K (L.n + 1) (s.1 k)) (n := L.m + 1) (a := 0) (k := L.m) (ev_var rfl) eo_none (eo_some (ev_un ut_neg ev_int)) six_none (by rw [Nat.zero_add]; exact six_m1) (by omega)).ev (li_eq (n := L.m) (f' := fun k => Fl K (L.n + 1) (s.1 k)) fun k _ => by show Fl K (L.n + 1) (s.1 (0 + k)) = _; rw [Nat.zero_add])) (eva_cons (ev_var rfl) (eva_cons (ev_var rfl) eva_nil))) ⟨hn, sc, ⟨gs.tab, gs.pos, p2⟩⟩) (fun s hs => gt_tup rfl (gl_cons (gl_cons gl_nil))) fun s2 ⟨gs2, hz2⟩ => go_seq ?_
  refine go_set (R := Fl K L.n (L.c2 cost)) (evn_eq (evn_cat (evn_list (ev_var rfl)).ev (evn_lcR (n := L.n - L.cnt) (R := fun _ => Fr K 0) (eva_cons (ev_eq (ev_isub (i := L.n) (j := L.cnt) (ev_var rfl) (ev_var rfl)) (by rw [nnc])) eva_nil) (by omega) fun D k _ => ev_zero G).ev (by show L.cnt + _ ≤ 1000; omega)) (by show L.cnt + _ = L.n; omega) fun c hc => ?_).ev (go_seq ?_)
  · unfold Lp.c2
    show (if c < L.cnt then Fr K (cost c) else Fr K 0) = _
    by_cases e : c < L.cnt
    · rw [if_pos e, if_pos e]
    · rw [if_neg e, if_neg e]
  obtain ⟨g2, hz3⟩ := Lp.p2_start gs2.tab gs2.pos hz2 (L.c2 cost)
  refine go_asgX (S' := fun s => _) (phase (L.c2 cost) s2.1 s2.2 L.c1 (fun s => Good L.m L.n L.w L.A (L.c2 cost) s ∧ Lp.HZ L s.1 s.2) gs2.tab cs Lp.c2_n (fun _ h => h.1) ⟨g2, hz3⟩ (fun s s' h st => ⟨h.1.step hwn st, Lp.p2_step h.2 st⟩) (fun s c h e => Lp.p2_leaves h.1 h.2 bd e) (ev_var rfl) (ev_var rfl) (ev_var rfl) (ev_var rfl)) (fun s hs => gt_tup rfl (gl_cons (gl_cons (gl_cons gl_nil)))) fun s3 ⟨⟨gs3, hz4⟩, zs3⟩ => go_seq ?_
  show Go ⟨H0, N, [], [some (Fl K L.cnt cost), some ((lv L).rp K), some (Nt L.cnt), some (Sls L), some (Nt L.w), some (Hls L), some (Nt L.n), some (Mx K (L.m + 1) (L.n + 1) s3.1), some (Il L.m s3.2), some (Fl K L.n L.c1), some No, some (Fl K L.n (L.c2 cost)), none, none, none]⟩ _
  refine go_set (R := Fl K L.cnt (vals L.m L.n s3.1 s3.2)) (ev_call (⟨L.m + 1, L.m, L.n, L.cnt, s3.1, s3.2⟩ : ValV) (eva_cons (ev_var rfl) (eva_cons (ev_var rfl) (eva_cons (ev_var rfl) eva_nil))) ⟨show L.m ≤ L.m + 1 by omega, show L.m + 1 ≤ 100 by omega, show L.cnt ≤ 100 by omega, fun j k hj hk e => gs3.tab.inj hj hk e⟩) (go_seq ?_)
  refine go_if (b := false) (et_test (ev_op (ot_notN (R := No) (b := true) fun H v h => decide_eq_true h) (ev_var rfl) ev_non)) (fun e => by cases e) fun _ => go_next ?_
  have sol := Lp.p2_end (T := s3.1) (B := s3.2) gs3 hz4 zs3
  have c2c : ∀ c, c < L.cnt → L.c2 cost c = cost c := fun c hc => if_pos hc
  have part0 : ∀ j, j ≤ L.cnt → Bd 1797 1765 (sm j fun c => cost c * vals L.m L.n s3.1 s3.2 c) := fun j hj => by
    have := Lp.dot_sml gs3.tab s1 cs (j := j) (by omega)
    rw [sm_congr (g := fun c => cost c * vals L.m L.n s3.1 s3.2 c) fun i hi => by rw [c2c i (by omega)]] at this
    exact this
  have bc : ∀ c, c < L.cnt → Bd 41 41 (cost c) := fun c hc => by
    have := cs.bd c
    rw [c2c c hc] at this
    exact this
  refine go_ex (f := SolR K L.cnt L.m) rt (_, vals L.m L.n s3.1 s3.2, L.yof cost s3.1) ⟨sol, Lp.val_bd gs3.tab s1 cs h.eb h.rr, Lp.yof_w gs3.tab s1 cs, fun c _ => Lp.vals_sml gs3.tab s1 c, fun k hk => Lp.yof_sml gs3.tab s1 cs hk⟩ ?_
  refine ev_tup (eva_cons ev_str (eva_cons (ev_dot (ev_var rfl) (ev_var rfl) ⟨show L.cnt ≤ 1000 by omega, fun k hk => (bc k hk).ok2 (Lp.vals_sml gs3.tab s1 k) (by decide), fun k hk => (part0 k (Nat.le_of_lt hk)).ok2 ((bc k hk).mul (Lp.vals_sml gs3.tab s1 k)) (by decide)⟩) (eva_cons (ev_var rfl) (eva_cons (ev_sub (ev_call (L, s3.1 L.m) (eva_cons (ev_op ot_ixLast (ev_var rfl) (ev_un ut_neg ev_int)) (eva_cons (ev_var rfl) (eva_cons (ev_var rfl) (eva_cons (ev_var rfl) (eva_cons (ev_zero G) eva_nil))))) ⟨hm, hn, good_sml gs3.tab s1 cs L.m (Nat.le_refl _)⟩) (li_eq (n := L.m) fun k hk => ?_)) eva_nil))))
  show Fr K (- s3.1 L.m (L.u k)) = Fr K (L.yof cost s3.1 k)
  congr 1
  unfold Lp.yof
  rw [Lp.c2_u, Rat.sub_eq_add_neg, Rat.zero_add]
end
end BB
namespace BB
open PySem PySem.Spec PyProof.Rows L2
/-! ### dicts whose keys are pairs of a number and a truth value, whose values are objects -/
structure DE where
  k : Nat
  b : Bool
  ka : Addr
  va : Addr
def nkey (k : Nat) (b : Bool) : NestedKey := .tup [.num (k : Int), .num (if b = true then 1 else 0)]
theorem nkey_inj {k j : Nat} {b c : Bool} (h : nkey k b = nkey j c) : k = j ∧ b = c := by
  unfold nkey at h
  injection h with h
  injection h with h1 h2
  injection h1 with h1
  injection h2 with h2 _
  injection h2 with h2
  refine ⟨by omega, ?_⟩
  cases b <;> cases c <;> simp_all
def xsOf (ys : List DE) : List (NestedKey × Addr × Value) := ys.map fun y => (nkey y.k y.b, y.ka, Value.ref y.va)
def DicO (P : Program) (w : World) (a : Addr) (ys : List DE) : HO :=
  .ext fun h => (a == sysModules) = false ∧ ys.length ≤ 1000 ∧ ∃ o es ep, h.get? a = some o ∧ o.ExactDict ∧ o.data = .dict es ep ∧ es.toList = (xsOf ys).map (entryOfKey (nestedKind P w)) ∧ ((xsOf ys).map (·.1)).Nodup
def KeysAt (H : Hp) (ys : List DE) : Prop := ∀ y ∈ ys, H y.ka = some (.tup [.int (y.k : Int), .bl y.b])
section
variable {P : Program} {w : World} {H : Hp} {h : Heap} {a b : Addr} {ys : List DE} {k : Nat} {t : Bool}
theorem key_is (ok : HOk P w H h) (e : H b = some (.tup [.int (k : Int), .bl t])) : (nestedKind P w).is h (nkey k t) b := by
  have x : ObjOk P w H h b (.tup [.int (k : Int), .bl t]) := ok b _ e
  obtain ⟨_, its, r, ob, hg, hc, n, hd⟩ := x
  cases r with
  | cons r1 r =>
    cases r with
    | cons r2 r =>
      cases r
      obtain ⟨tk, rfl⟩ := r1
      obtain rfl := r2
      refine ⟨.tup hg hc hd ?_, by unfold nkey; simp [NestedKey.depth, NestedKey.depthAll]⟩
      rw [List.toList_toArray]
      exact .cons (.int _ _) (.cons (.bool rfl) .nil)
theorem dd_of (ok : HOk P w H h) (e : H a = some (DicO P w a ys)) (ks : KeysAt H ys) : (a == sysModules) = false ∧ ys.length ≤ 1000 ∧ h.DictOfH (nestedKind P w) a (xsOf ys) := by
  obtain ⟨⟨h1, h2, o, es, ep, g, c, d, he, nd⟩, _⟩ : ObjOk P w H h a (DicO P w a ys) := ok a _ e
  refine ⟨h1, h2, o, es, ep, g, c, d, he, fun x hx => ?_, nd⟩
  obtain ⟨y, hy, rfl⟩ := List.mem_map.mp hx
  exact key_is ok (ks y hy)
theorem dd_new {h' : Heap} {H' : Hp} (h1 : (a == sysModules) = false) (h2 : ys.length ≤ 1000) (d : h'.DictOfH (nestedKind P w) a (xsOf ys)) : ObjOk P w H' h' a (DicO P w a ys) := by
  obtain ⟨o, es, ep, g, c, dt, he, _, nd⟩ := d
  exact ⟨⟨h1, h2, o, es, ep, g, c, dt, he, nd⟩, ⟨o, g⟩, fun x y ⟨z1, z2, o, es, ep, g, r⟩ f => ⟨z1, z2, o, es, ep, f o g, r⟩⟩
end
/-- the entry at a key -/
def atD (ys : List DE) (k : Nat) (b : Bool) : Option DE := ys.find? fun y => decide (y.k = k) && decide (y.b = b)
theorem atD_some {ys : List DE} {k : Nat} {b : Bool} {e : DE} (h : atD ys k b = some e) : e ∈ ys ∧ e.k = k ∧ e.b = b := by
  unfold atD at h
  have h1 := List.mem_of_find?_eq_some h
  have h2 := List.find?_some h
  simp at h2
  exact ⟨h1, h2⟩
theorem atD_none {ys : List DE} {k : Nat} {b : Bool} (h : atD ys k b = none) : ∀ y ∈ ys, ¬ (y.k = k ∧ y.b = b) := fun y hy => by
  unfold atD at h
  have := List.find?_eq_none.mp h y hy
  simpa using this
theorem atKey_xs {k : Nat} {b : Bool} : ∀ {ys : List DE}, atKey (xsOf ys) (nkey k b) = (atD ys k b).map fun y => (y.ka, Value.ref y.va)
  | [] => rfl
  | y :: ys => by
    have ih := atKey_xs (k := k) (b := b) (ys := ys)
    unfold atKey atD xsOf at *
    rw [List.map_cons, List.find?_cons, List.find?_cons]
    by_cases e : y.k = k ∧ y.b = b
    · have e1 : decide (nkey y.k y.b = nkey k b) = true := decide_eq_true (by rw [e.1, e.2])
      have e2 : (decide (y.k = k) && decide (y.b = b)) = true := by simp [e.1, e.2]
      simp only [e1, e2]
      rfl
    · have e1 : decide (nkey y.k y.b = nkey k b) = false := decide_eq_false fun z => e (nkey_inj z)
      have e2 : (decide (y.k = k) && decide (y.b = b)) = false := by
        rw [← Bool.not_eq_true]
        simpa using e
      simp only [e1, e2]
      exact ih
theorem stored_xs {P : Program} {w : World} {k : Nat} {b : Bool} {ys : List DE} {ka va : Addr} (h : atD ys k b = none) : storedH (xsOf ys) (nkey k b) ka (.ref va) = xsOf (ys ++ [⟨k, b, ka, va⟩]) := by
  have : (atKey (xsOf ys) (nkey k b)).isSome = false := by rw [atKey_xs, h]; rfl
  unfold storedH
  rw [this]
  simp [xsOf]
/-- d[k, b]; (k, b) in d; (k, b) not in d; d[k, b] = v of a new key; {(k, b): v} -/
def tQGet (P : Program) (w : World) (td ty : TE) : TE := fun σ H Q => td σ H fun x H1 => ty σ H1 fun y H2 => ∃ a ys k b p e, x = .ref a ∧ H2 a = some (DicO P w a ys) ∧ KeysAt H2 ys ∧ y = .ref p ∧ H2 p = some (.tup [.int ((k : Nat) : Int), .bl b]) ∧ atD ys k b = some e ∧ Q (.ref e.va) H2
def tQIn (P : Program) (w : World) (ty td : TE) : TE := fun σ H Q => ty σ H fun y H1 => td σ H1 fun x H2 => ∃ a ys k b p, x = .ref a ∧ H2 a = some (DicO P w a ys) ∧ KeysAt H2 ys ∧ y = .ref p ∧ H2 p = some (.tup [.int ((k : Nat) : Int), .bl b]) ∧ Q (.bl (atD ys k b).isSome) H2
def tQNotIn (P : Program) (w : World) (ty td : TE) : TE := fun σ H Q => ty σ H fun y H1 => td σ H1 fun x H2 => ∃ a ys k b p, x = .ref a ∧ H2 a = some (DicO P w a ys) ∧ KeysAt H2 ys ∧ y = .ref p ∧ H2 p = some (.tup [.int ((k : Nat) : Int), .bl b]) ∧ Q (.bl (!(atD ys k b).isSome)) H2
def sQPut (P : Program) (w : World) (td ty tv : TE) : TS := fun D σ H => tv σ H fun v H1 => td σ H1 fun x H2 => ty σ H2 fun y H3 => ∃ a ys k b p va, x = .ref a ∧ H3 a = some (DicO P w a ys) ∧ KeysAt H3 ys ∧ ys.length < 1000 ∧ y = .ref p ∧ H3 p = some (.tup [.int ((k : Nat) : Int), .bl b]) ∧ v = .ref va ∧
  atD ys k b = none ∧ D.nx σ (upd H3 a (DicO P w a (ys ++ [⟨k, b, p, va⟩])))
def tQNew (P : Program) (w : World) (tk tv : TE) : TE := fun σ H Q => ∀ p, H p = none → tk σ (upd H p (DicO P w p [])) fun y H1 => tv σ H1 fun v H2 => H2 p = some (DicO P w p []) ∧ ∃ k b q va, y = .ref q ∧ H2 q = some (.tup [.int ((k : Nat) : Int), .bl b]) ∧ v = .ref va ∧
  Q (.ref p) (upd H2 p (DicO P w p [⟨k, b, q, va⟩]))
section
variable {X : Cx} {P : Program} {w : World} {o i e value key : Expr} {pos pos' : Pos} {td ty tv tk : TE}
theorem room8 {A : Around} (hu : A.units + 64 < cLine) : (nestedKind P w).room A.in1 := by
  show A.units + 1 + 8 < cLine
  omega
theorem pe_qget (hP : X.prog = P) (hw : X.w = w) (hu : X.A.units + 64 < cLine) (ho : PE X o td) (hi : PE X i ty) (hs : NoSl i) : PE X (.Subscript o i pos) (tQGet P w td ty) := by
  subst hP hw
  refine ⟨fun pins s σ H Q I h => ?_⟩
  refine subD_of PySem.F.slot_dict_getitem.lookup hs (thn (ho.run pins s σ H _ I h) fun u s1 ⟨x, H1, I1, rx, q1⟩ => thn (hi.run pins s1 σ H1 _ I1 q1) fun iv s2 ⟨y, H2, I2, ry, a, ys, k, b, p, e, ex, hd, hk, ey, hp, l, q2⟩ => ?_)
  subst ex ey
  obtain rfl : u = Value.ref a := rx
  obtain rfl : iv = Value.ref p := ry
  obtain ⟨_, _, dd⟩ := dd_of I2.hok hd hk
  refine ⟨dd.typeIs, wpAny_getItem_heap (room8 hu) (key_is I2.hok hp) dd (by rw [atKey_xs, l]; rfl) ?_⟩
  exact ⟨.ref e.va, H2, I2.tok _, rfl, q2⟩
theorem pc_qin (hP : X.prog = P) (hw : X.w = w) (hu : X.A.units + 64 < cLine) (hi : PE X i ty) (ho : PE X o td) : PC X .In i o (tQIn P w ty td) := by
  subst hP hw
  refine ⟨fun pins s σ H Q I h => ?_⟩
  refine thn (hi.run pins s σ H _ I h) fun iv s1 ⟨y, H1, I1, ry, q1⟩ => thn (ho.run pins s1 σ H1 _ I1 q1) fun u s2 ⟨x, H2, I2, rx, a, ys, k, b, p, ex, hd, hk, ey, hp, q2⟩ => ?_
  subst ex ey
  obtain rfl : u = Value.ref a := rx
  obtain rfl : iv = Value.ref p := ry
  obtain ⟨hn, _, dd⟩ := dd_of I2.hok hd hk
  refine wpAny_in_heap (room8 hu) (key_is I2.hok hp) hn dd ?_
  rw [atKey_xs, Option.isSome_map]
  exact ⟨.bl (atD ys k b).isSome, H2, I2.tok _, rfl, q2⟩
theorem pc_qnotin (hP : X.prog = P) (hw : X.w = w) (hu : X.A.units + 64 < cLine) (hi : PE X i ty) (ho : PE X o td) : PC X .NotIn i o (tQNotIn P w ty td) := by
  subst hP hw
  refine ⟨fun pins s σ H Q I h => ?_⟩
  refine thn (hi.run pins s σ H _ I h) fun iv s1 ⟨y, H1, I1, ry, q1⟩ => thn (ho.run pins s1 σ H1 _ I1 q1) fun u s2 ⟨x, H2, I2, rx, a, ys, k, b, p, ex, hd, hk, ey, hp, q2⟩ => ?_
  subst ex ey
  obtain rfl : u = Value.ref a := rx
  obtain rfl : iv = Value.ref p := ry
  obtain ⟨hn, _, dd⟩ := dd_of I2.hok hd hk
  refine wpAny_notIn_heap (room8 hu) (key_is I2.hok hp) hn dd ?_
  rw [atKey_xs, Option.isSome_map]
  exact ⟨.bl (!(atD ys k b).isSome), H2, I2.tok _, rfl, q2⟩
theorem ps_qput (hP : X.prog = P) (hw : X.w = w) (hu : X.A.units + 64 < cLine) (ho : PE X o td) (hi : PE X i ty) (hv : PE X value tv) (hs : swapsWith value (some (.Subscript o i pos')) pos.line X.env = pure false) :
    PS X (.Assign [.Subscript o i pos'] value pos) (sQPut P w td ty tv) := by
  subst hP hw
  refine ⟨fun pins s σ H D I h => ?_⟩
  refine wpAny_Assign_Subscript (thn (hv.run pins s σ H _ I h) fun r s1 ⟨v, H1, I1, rv, q1⟩ => thn (ho.run pins s1 σ H1 _ I1 q1) fun u s2 ⟨x, H2, I2, rx, q2⟩ => thn (hi.run pins s2 σ H2 _ I2 q2) fun iv s3 ⟨y, H3, I3, ry, a, ys, k, b, p, va, ex, hd, hk, hl, ey, hp, ev, l, q3⟩ => ?_) hs
  subst ex ey ev
  obtain rfl : u = Value.ref a := rx
  obtain rfl : iv = Value.ref p := ry
  obtain rfl : r = Value.ref va := rv
  obtain ⟨hn, hz, dd⟩ := dd_of I3.hok hd hk
  have hxl : (xsOf ys).length ≤ sizeLine := by
    unfold xsOf
    rw [List.length_map]
    have := small1000 hz
    omega
  refine wpAny_setItem_heap (hsz := hxl) (room8 hu) (key_is I3.hok hp) dd fun h' dd' sb => ?_
  rw [stored_xs (P := X.prog) (w := X.w) l] at dd'
  have he : ∃ q, h'.get? a = some q := let ⟨q, _, _, hq, _⟩ := dd'; ⟨q, hq⟩
  exact ⟨σ, _, d_write I3 (by rw [hd]; exact True.intro) sb he (dd_new hn (by rw [List.length_append]; show ys.length + 1 ≤ 1000; omega) dd'), q3⟩
theorem pe_qnew (hP : X.prog = P) (hw : X.w = w) (hu : X.A.units + 64 < cLine) (hk : PE X key tk) (hv : PE X value tv) : PE X (.Dict [some key] [value] pos) (tQNew P w tk tv) := by
  subst hP hw
  refine ⟨fun pins s σ H Q I q => ?_⟩
  have hn := I.hok.fresh (Nat.le_refl s.heap.objs.size)
  have hne : (s.heap.objs.size == sysModules) = false := beq_eq_false_iff_ne.mpr (Ne.symm (Nat.ne_of_lt I.big))
  have I1 := I.laid (a := s.heap.objs.size) (o := DicO X.prog X.w s.heap.objs.size []) (h' := s.heap.push { cls := .type "dict", data := .dict #[] }) (t' := s.toks) (fun _ _ q => Heap.get?_push_of_some _ q) (Nat.le_refl _)
    (dd_new (ys := []) hne (Nat.zero_le _) (Heap.DictOfH.new _))
  refine wpAny_Dict_any rfl rfl (by simp) (Nat.le_of_ble_eq_true rfl) ?_
  refine pairTrees_cons_walk (thn (hk.run pins _ σ _ _ I1 (q _ hn)) fun iv s1 ⟨y, H1, I2, ry, q1⟩ => thn (hv.run pins s1 σ H1 _ I2 q1) fun r s2 ⟨v, H2, I3, rv, hd, k, b, p, va, ey, hp, ev, q2⟩ => pairTrees_nil_walk ?_)
  subst ey ev
  obtain rfl : iv = Value.ref p := ry
  obtain rfl : r = Value.ref va := rv
  obtain ⟨_, _, dd⟩ := dd_of (ys := []) I3.hok hd (fun y hy => by cases hy)
  unfold storeAll
  refine wpAny_storeAllH (knd := nestedKind X.prog X.w) (by show X.A.units + 8 < cLine; omega) _ [(nkey k b, p, .ref va)] [] _ _ ⟨rfl, rfl, key_is I3.hok hp, trivial⟩ dd (by rw [sizeLine_eq]; show 0 + 1 ≤ _; omega) fun h' tk' dd' sb => ?_
  have he : ∃ q, h'.get? s.heap.objs.size = some q := let ⟨q, _, _, hq, _⟩ := dd'; ⟨q, hq⟩
  exact ⟨.ref s.heap.objs.size, _, d_write I3 (by rw [hd]; exact True.intro) sb he (dd_new (ys := [⟨k, b, p, va⟩]) hne (by show 1 ≤ 1000; omega) dd'), rfl, q2⟩
end
end BB
namespace BB
open PySem PySem.Spec PyProof.Rows L2
/-! ### is of a truth value or None -/
def vO : Option Bool → V
  | none => .non
  | some b => .bl b
def rIsO : R2 := fun x y H Q => ∃ (o : Option Bool) (b : Bool), x = vO o ∧ y = .bl b ∧ Q (.bl (decide (o = some b))) H
theorem op_isO {X : Cx} : OpR X (compareOp .Is) rIsO := by
  intro pins s σ H x y v u Q I rx ry h
  obtain ⟨o, b, rfl, rfl, q⟩ := h
  cases (show u = Value.bool b from ry)
  cases o with
  | none =>
    cases (show v = Value.none from rx)
    exact wpAny_is_other rfl (fun z => nomatch z) ⟨.bl false, H, I, rfl, by simpa using q⟩
  | some a =>
    cases (show v = Value.bool a from rx)
    by_cases e : a = b
    · subst e
      exact wpAny_is_self rfl ⟨.bl true, H, I, rfl, by simpa using q⟩
    · exact wpAny_is_other rfl (fun z => e (Value.bool.inj z)) ⟨.bl false, H, I, rfl, by simpa [e] using q⟩
theorem op_notO {X : Cx} : OpR X (compareOp .IsNot) (fun x y H Q => ∃ (o : Option Bool) (b : Bool), x = vO o ∧ y = .bl b ∧ Q (.bl (!decide (o = some b))) H) := by
  intro pins s σ H x y v u Q I rx ry h
  obtain ⟨o, b, rfl, rfl, q⟩ := h
  cases (show u = Value.bool b from ry)
  cases o with
  | none =>
    cases (show v = Value.none from rx)
    exact wpAny_isNot_other rfl (fun z => nomatch z) ⟨.bl true, H, I, rfl, by simpa using q⟩
  | some a =>
    cases (show v = Value.bool a from rx)
    by_cases e : a = b
    · subst e
      exact wpAny_isNot_self rfl ⟨.bl false, H, I, rfl, by simpa using q⟩
    · exact wpAny_isNot_other rfl (fun z => e (Value.bool.inj z)) ⟨.bl true, H, I, rfl, by simpa [e] using q⟩
theorem ob_v {o : Option Bool} {H : Hp} {v : V} (h : (Ob o).p H v) : v = vO o := by
  cases o <;> exact h
theorem ot_isO {o : Option Bool} {b : Bool} : OT rIsO (Ob o) (Bo b) (Bo (decide (o = some b))) := fun H N x y Q _ rx ry q => ⟨o, b, ob_v rx, ry, q _ H (Same.refl H) rfl⟩
theorem ot_notO {o : Option Bool} {b : Bool} : OT (fun x y H Q => ∃ (o : Option Bool) (b : Bool), x = vO o ∧ y = .bl b ∧ Q (.bl (!decide (o = some b))) H) (Ob o) (Bo b) (Bo (!decide (o = some b))) := fun H N x y Q _ rx ry q => ⟨o, b, ob_v rx, ry, q _ H (Same.refl H) rfl⟩
/-! ### dicts -/
def Tq (Rs : List Rp) : Rp := ⟨fun H v => ∃ a vs, v = .ref a ∧ H a = some (.tup vs) ∧ AL Rs H vs, fun s ⟨a, vs, e, h, q⟩ => ⟨a, vs, e, s _ _ h, q.mono s⟩⟩
theorem tq_tp {K : PySem.W.Frag} {Rs : List Rp} (H : Hp) (v : V) (h : (Tq Rs).p H v) : (Tp K Rs).p H v := by
  obtain ⟨a, vs, e, h, q⟩ := h
  exact ⟨a, vs, e, .inl (.inl h), q⟩
theorem ev_tupq {S : Sta} {t : TA} {Rs : List Rp} (ha : EVA S t Rs) (hl : Rs.length ≤ 1000 := by exact Nat.le_of_ble_eq_true rfl) : EV S (tTup t) (Tq Rs) := fun σ H st Q q =>
  ha σ H st _ fun xs H1 s1 r1 => ⟨by rw [r1.length]; exact Nat.le_of_lt (small1000 hl), fun p hp => by
    have np : p ∉ S.hd := fun z => (st.mono s1).used p z hp
    have s2 : Same H1 (upd H1 p (.tup xs)) := same_new hp
    exact q _ _ (s1.trans s2) ⟨p, xs, rfl, hid_out np upd_same, r1.mono (hid_same s2)⟩⟩
abbrev Ky (k : Nat) (b : Bool) : Rp := Tq [Nt k, Bo b]
theorem ky_at {k : Nat} {b : Bool} {H : Hp} {v : V} (h : (Ky k b).p H v) : ∃ a, v = .ref a ∧ H a = some (.tup [.int (k : Int), .bl b]) := by
  obtain ⟨a, vs, e, h1, v1, r1, e1, h2, v2, r2, e2, h3, e3⟩ := h
  have h2' : v1 = .int (k : Int) := h2
  have h3' : v2 = .bl b := h3
  have e3' : r2 = [] := e3
  subst e1 e2 e3' h2' h3'
  exact ⟨a, e, h1⟩
theorem atD_is {ys : List DE} {k : Nat} {b : Bool} : (atD ys k b).isSome = true ↔ ∃ y ∈ ys, y.k = k ∧ y.b = b := by
  constructor
  · intro h
    obtain ⟨e, he⟩ := Option.isSome_iff_exists.mp h
    obtain ⟨a, c⟩ := atD_some he
    exact ⟨e, a, c⟩
  · intro ⟨y, hy, e⟩
    cases h : atD ys k b with
    | none => exact absurd e (atD_none h y hy)
    | some z => rfl
section
variable {P : Program} {w : World}
def Dc (P : Program) (w : World) (A : Nat → Bool → Prop) : Rp := ⟨fun H v => ∃ a ys, v = .ref a ∧ H a = some (DicO P w a ys) ∧ KeysAt H ys ∧ ∀ k b, (∃ y ∈ ys, y.k = k ∧ y.b = b) ↔ A k b,
  fun s ⟨a, ys, e, h, q, r⟩ => ⟨a, ys, e, s _ _ h, fun y hy => s _ _ (q y hy), r⟩⟩
theorem ev_qin {S : Sta} {ty td : TE} {k : Nat} {b c : Bool} {A : Nat → Bool → Prop} (hy : EV S ty (Ky k b)) (hd : EV S td (Dc P w A)) (hc : c = true ↔ A k b) : EV S (tQIn P w ty td) (Bo c) := fun σ H st Q q =>
  hy σ H st _ fun y H1 s1 r1 => hd σ H1 (st.mono s1) _ fun x H2 s2 ⟨a, ys, e, h1, h2, h3⟩ => by
    obtain ⟨p, ep, hp⟩ := ky_at ((Ky k b).mono (hid_same s2) r1)
    refine ⟨a, ys, k, b, p, e, hid_sub _ _ h1, fun y hy => hid_sub _ _ (h2 y hy), ep, hid_sub _ _ hp, q _ H2 (s1.trans s2) ?_⟩
    show V.bl _ = V.bl c
    congr 1
    have := (atD_is.trans (h3 k b)).trans hc.symm
    cases h : (atD ys k b).isSome <;> cases c <;> simp_all
abbrev Chn (L : Nat) : Rp := Exr (fun n => n ≤ L) fun n => Li n fun _ => Ay
/-- the dict at p in the base G -/
structure QB (P : Program) (w : World) (H0 : Hp) (N : List Addr) (p : Addr) (G : Hp) (ys : List DE) : Prop where
  same : Same H0 G
  old : H0 p = none
  pn : p ∉ N
  at' : G p = some (DicO P w p ys)
  keys : ∀ y ∈ ys, hid G (p :: N) y.ka = some (.tup [.int (y.k : Int), .bl y.b])
  vals : ∀ y ∈ ys, (Chn ys.length).p (hid G (p :: N)) (.ref y.va)
section
variable {H0 G : Hp} {N : List Addr} {p : Addr} {ys : List DE} {M : Mt} {Γ : List (Option Rp)} {i : Nat}
theorem qb_up {σ : L2.St} {H : Hp} (st : Stt ⟨G, p :: N, M, Γ⟩ σ H) : Same (hid G (p :: N)) (hid H (adr M ++ p :: N)) := fun b o e => by
  have nb : b ∉ p :: N := fun z => by
    unfold hid at e
    rw [if_pos z] at e; cases e
  have eb : G b = some o := hid_sub _ _ e
  refine hid_out (fun z => ?_) (st.same _ _ eb)
  rcases List.mem_append.mp z with z | z
  · obtain ⟨q, hq, e2⟩ := List.mem_map.mp z
    have : G q.1 = none := st.mnew q hq
    rw [e2, eb] at this; cases this
  · exact nb z
theorem ev_qget {ty : TE} {k : Nat} {b : Bool} (q : QB P w H0 N p G ys) (hi : Γ[i]? = some (some (Pt p))) (hy : EV ⟨G, p :: N, M, Γ⟩ ty (Ky k b)) (hm : ∃ y ∈ ys, y.k = k ∧ y.b = b) : EV ⟨G, p :: N, M, Γ⟩ (tQGet P w (tVar i) ty) (Chn ys.length) := fun σ H st Q qq => by
  obtain ⟨v, e1, e2⟩ := st.sl i _ hi
  have e2' : v = .ref p := e2
  subst e2'
  refine ⟨.ref p, e1, ?_⟩
  refine hy σ H st _ fun y H2 s2 r1 => ?_
  obtain ⟨a, ea, ha⟩ := ky_at r1
  have st2 := st.mono s2
  obtain ⟨e, he⟩ := Option.isSome_iff_exists.mp (atD_is.mpr hm)
  refine ⟨p, ys, k, b, a, e, rfl, st2.same _ _ q.at', fun y hy => st2.same _ _ (hid_sub _ _ (q.keys y hy)), ea, hid_sub _ _ ha, he, qq _ H2 s2 ?_⟩
  exact (Chn ys.length).mono (qb_up st2) (q.vals e (atD_some he).1)
theorem ev_qnotin {ty : TE} {k : Nat} {b : Bool} (q : QB P w H0 N p G ys) (hi : Γ[i]? = some (some (Pt p))) (hy : EV ⟨G, p :: N, M, Γ⟩ ty (Ky k b)) : EV ⟨G, p :: N, M, Γ⟩ (tQNotIn P w ty (tVar i)) (Bo (!(atD ys k b).isSome)) := fun σ H st Q qq => by
  refine hy σ H st _ fun y H2 s2 r1 => ?_
  have st2 := st.mono s2
  obtain ⟨v, e1, e2⟩ := st2.sl i _ hi
  have e2' : v = .ref p := e2
  subst e2'
  obtain ⟨a, ea, ha⟩ := ky_at r1
  exact ⟨.ref p, e1, p, ys, k, b, a, rfl, st2.same _ _ q.at', fun y hy => st2.same _ _ (hid_sub _ _ (q.keys y hy)), ea, hid_sub _ _ ha, qq _ H2 s2 rfl⟩
/-- the dict at p becomes o: a new base -/
theorem Stt.qwr {σ : L2.St} {H : Hp} {o : HO} (st : Stt ⟨G, p :: N, M, Γ⟩ σ H) : Stt ⟨upd (hid H (adr M)) p o, p :: N, M, Γ⟩ σ (upd H p o) := by
  have hGp : G p ≠ none := st.nold p (List.mem_cons_self ..)
  have npM : p ∉ adr M := fun z => by
    obtain ⟨q, hq, e2⟩ := List.mem_map.mp z
    have : G q.1 = none := st.mnew q hq
    rw [e2] at this; exact hGp this
  have pin : p ∈ (⟨G, p :: N, M, Γ⟩ : Sta).hd := List.mem_append_right _ (List.mem_cons_self ..)
  have e0 : hid (upd H p o) (adr M ++ p :: N) = hid H (adr M ++ p :: N) := hid_upd pin
  refine ⟨fun b x e => ?_, fun a ha z => ?_, fun q hq => ?_, fun q hq => ?_, st.len, fun j R e => ?_, st.nd⟩
  · have e' : upd (hid H (adr M)) p o b = some x := e
    by_cases c : b = p
    · subst c
      rw [upd_same] at e' ⊢
      exact e'
    · rw [upd_ne c] at e' ⊢
      exact hid_sub _ _ e'
  · have z' : upd (hid H (adr M)) p o a = none := z
    by_cases c : a = p
    · rw [c, upd_same] at z'; cases z'
    · rw [upd_ne c] at z'
      have hGa : G a ≠ none := st.nold a ha
      cases ea : G a with
      | none => exact hGa ea
      | some x =>
        have nM : a ∉ adr M := fun y => by
          obtain ⟨q, hq, e2⟩ := List.mem_map.mp y
          have : G q.1 = none := st.mnew q hq
          rw [e2] at this; exact hGa this
        rw [hid_out nM (st.same _ _ ea)] at z'; cases z'
  · show upd (hid H (adr M)) p o q.1 = none
    have hq' : q.1 ∈ adr M := List.mem_map.mpr ⟨q, hq, rfl⟩
    rw [upd_ne fun c => npM (by rw [← c]; exact hq')]
    unfold hid
    rw [if_pos hq']
  · obtain ⟨vs, a, b, c⟩ := st.mem q hq
    have hq' : q.1 ∈ adr M := List.mem_map.mpr ⟨q, hq, rfl⟩
    refine ⟨vs, by rw [upd_ne fun c => npM (by rw [← c]; exact hq')]; exact a, b, fun k x z => ?_⟩
    show (q.2.2 k).p (hid (upd H p o) (adr M ++ p :: N)) x
    rw [e0]
    exact c k x z
  · obtain ⟨v, a, b⟩ := st.sl j R e
    refine ⟨v, a, ?_⟩
    show R.p (hid (upd H p o) (adr M ++ p :: N)) v
    rw [e0]
    exact b
theorem hid_cons_hid {H : Hp} {M : Mt} {o : HO} {b : Addr} {x : HO} (h : hid H (adr M ++ p :: N) b = some x) : hid (upd (hid H (adr M)) p o) (p :: N) b = some x := by
  have nb : b ∉ adr M ++ p :: N := fun z => by
    unfold hid at h
    rw [if_pos z] at h; cases h
  have n1 : b ∉ adr M := fun z => nb (List.mem_append_left _ z)
  have n2 : b ∉ p :: N := fun z => nb (List.mem_append_right _ z)
  refine hid_out n2 ?_
  rw [upd_ne fun c => n2 (by rw [c]; exact List.mem_cons_self ..)]
  exact hid_out n1 (hid_sub _ _ h)
/-- found[k, b] = v -/
theorem go_qput {ty tv : TE} {k : Nat} {b : Bool} {nx : L2.St → Hp → Prop} {rt : VK} {bk ct : L2.St → Hp → Prop} (q : QB P w H0 N p G ys) (hi : Γ[i]? = some (some (Pt p))) (hy : EV ⟨G, p :: N, M, Γ⟩ ty (Ky k b)) (hv : EV ⟨G, p :: N, M, Γ⟩ tv (Chn (ys.length + 1)))
    (hn : (atD ys k b).isSome = false) (hl : ys.length < 900) (kont : ∀ G' e, e.k = k → e.b = b → QB P w H0 N p G' (ys ++ [e]) → Go ⟨G', p :: N, M, Γ⟩ nx) : Go ⟨G, p :: N, M, Γ⟩ (sQPut P w (tVar i) ty tv ⟨nx, rt, bk, ct⟩) := fun σ H st => by
  refine hv σ H st _ fun v H1 s1 rv => ?_
  have st1 := st.mono s1
  obtain ⟨x, e1, e2⟩ := st1.sl i _ hi
  have e2' : x = .ref p := e2
  subst e2'
  refine ⟨.ref p, e1, ?_⟩
  refine hy σ H1 st1 _ fun y H2 s2 r1 => ?_
  have st2 := st1.mono s2
  obtain ⟨a, ea, ha⟩ := ky_at r1
  obtain ⟨n, hn', va, vs, ev, h1, h2, h3⟩ := (Chn (ys.length + 1)).mono (hid_same s2) rv
  refine ⟨p, ys, k, b, a, va, rfl, st2.same _ _ q.at', fun y hy => st2.same _ _ (hid_sub _ _ (q.keys y hy)), by omega, ea, hid_sub _ _ ha, ev, ?_, ?_⟩
  · cases h : atD ys k b with
    | none => rfl
    | some z => rw [h] at hn; cases hn
  · refine kont (upd (hid H2 (adr M)) p (DicO P w p (ys ++ [⟨k, b, a, va⟩]))) ⟨k, b, a, va⟩ rfl rfl ?_ σ _ st2.qwr
    have ho : Same (hid G (p :: N)) (hid (upd (hid H2 (adr M)) p (DicO P w p (ys ++ [⟨k, b, a, va⟩]))) (p :: N)) := fun c x z => hid_cons_hid (qb_up st2 _ _ z)
    have lm : (ys ++ [(⟨k, b, a, va⟩ : DE)]).length = ys.length + 1 := by simp
    refine ⟨fun c x z => ?_, q.old, q.pn, upd_same, fun y hy => ?_, fun y hy => ?_⟩
    · have cp : c ≠ p := fun e => by rw [e, q.old] at z; cases z
      rw [upd_ne cp]
      have gz := q.same _ _ z
      refine hid_out (fun m => ?_) (st2.same _ _ gz)
      obtain ⟨r, hr, e3⟩ := List.mem_map.mp m
      have : G r.1 = none := st2.mnew r hr
      rw [e3, gz] at this; cases this
    · rcases List.mem_append.mp hy with m | m
      · exact ho _ _ (q.keys y m)
      · have : y = ⟨k, b, a, va⟩ := by simpa using m
        subst this
        exact hid_cons_hid ha
    · rw [lm]
      rcases List.mem_append.mp hy with m | m
      · obtain ⟨n, a1, a2⟩ := q.vals y m
        exact ⟨n, by omega, (Li n fun _ => Ay).mono ho a2⟩
      · have : y = ⟨k, b, a, va⟩ := by simpa using m
        subst this
        exact ⟨n, hn', va, vs, rfl, hid_cons_hid h1, h2, fun _ _ _ => trivial⟩
/-- {(k, b): v} -/
theorem go_qnew {tk tv : TE} {k : Nat} {b : Bool} {nx : L2.St → Hp → Prop} {rt : VK} {bk ct : L2.St → Hp → Prop} (hy : EV ⟨H0, N, [], Γ⟩ tk (Ky k b)) (hv : EV ⟨H0, N, [], Γ⟩ tv (Chn 1))
    (kont : ∀ p G e, e.k = k → e.b = b → QB P w H0 N p G [e] → Go ⟨G, p :: N, [], Γ.set i (some (Pt p))⟩ nx) : Go ⟨H0, N, [], Γ⟩ (tAsg (tQNew P w tk tv) (gName i) ⟨nx, rt, bk, ct⟩) := fun σ H st p hp => by
  have s0 : Same H (upd H p (DicO P w p [])) := same_new hp
  have hp0 : H0 p = none := st.same.free hp
  have pN : p ∉ N := fun z => st.used p z hp
  refine hy σ _ (st.mono s0) _ fun y H1 s1 r1 => ?_
  refine hv σ H1 ((st.mono s0).mono s1) _ fun v H2 s2 rv => ?_
  have st2 := ((st.mono s0).mono s1).mono s2
  have hpe : H2 p = some (DicO P w p []) := s2 _ _ (s1 _ _ upd_same)
  obtain ⟨a, ea, ha⟩ := ky_at ((Ky k b).mono (hid_same s2) r1)
  obtain ⟨n, hn', va, vs, ev, h1, h2, h3⟩ := rv
  have nap : ∀ {c : Addr} {x : HO}, hid H2 N c = some x → (∀ z, x ≠ .ext z) → hid (upd H2 p (DicO P w p [⟨k, b, a, va⟩])) (p :: N) c = some x := fun {c x} h hx => by
    have cp : c ≠ p := fun e => by
      have := hid_sub _ _ h
      rw [e, hpe] at this
      exact hx _ (Option.some.inj this).symm
    have nb : c ∉ N := fun z => by
      unfold hid at h
      rw [if_pos z] at h; cases h
    refine hid_out (fun z => (List.mem_cons.mp z).elim cp nb) ?_
    rw [upd_ne cp]
    exact hid_sub _ _ h
  refine ⟨hpe, k, b, a, va, ea, hid_sub _ _ ha, ev, ?_⟩
  refine kont p (upd H2 p (DicO P w p [⟨k, b, a, va⟩])) ⟨k, b, a, va⟩ rfl rfl ⟨fun c x z => ?_, hp0, pN, upd_same, fun y hy => ?_, fun y hy => ?_⟩ _ _ ?_
  · rw [upd_ne fun e => by rw [e, hp0] at z; cases z]
    exact st2.same _ _ z
  · have : y = ⟨k, b, a, va⟩ := by simpa using hy
    subst this
    exact nap ha fun z e => nomatch e
  · have : y = ⟨k, b, a, va⟩ := by simpa using hy
    subst this
    exact ⟨n, hn', va, vs, rfl, nap h1 (fun z e => nomatch e), h2, fun _ _ _ => trivial⟩
  · have base : Stt ⟨upd H2 p (DicO P w p [⟨k, b, a, va⟩]), p :: N, [], Γ⟩ σ (upd H2 p (DicO P w p [⟨k, b, a, va⟩])) := by
      have stp : ∀ (j : Nat) (R : Rp), Γ[j]? = some (some R) → ∃ v, σ[j]? = some (some v) ∧ R.p (hid H N) v := fun j R e => st.sl j R e
      refine ⟨Same.refl _, fun c hc z => ?_, fun q hq => (nomatch hq), fun q hq => (nomatch hq), st.len, fun j R e => ?_, List.nodup_nil⟩
      · have z' : upd H2 p (DicO P w p [⟨k, b, a, va⟩]) c = none := z
        by_cases e : c = p
        · rw [e, upd_same] at z'; cases z'
        · rw [upd_ne e] at z'
          have hc' : c ∈ N := (List.mem_cons.mp hc).resolve_left e
          exact st2.used c hc' z'
      · obtain ⟨v, e1, e2⟩ := stp j R e
        refine ⟨v, e1, R.mono ?_ e2⟩
        intro c x z
        have hc : H c = some x := hid_sub _ _ z
        have cp : c ≠ p := fun e => by rw [e, hp] at hc; cases hc
        have nb : c ∉ N := fun m => by
          unfold hid at z
          rw [if_pos m] at z; cases z
        refine hid_out (fun m => (List.mem_cons.mp m).elim cp nb) ?_
        rw [upd_ne cp]
        exact s2 _ _ (s1 _ _ (s0 _ _ hc))
    exact base.set (i := i) (R := Pt p) rfl
/-- return found -/
theorem go_qret {A : Nat → Bool → Prop} {nx : L2.St → Hp → Prop} {rt : VK} {bk ct : L2.St → Hp → Prop} (r : RT rt H0 N (Dc P w A)) (q : QB P w H0 N p G ys) (hi : Γ[i]? = some (some (Pt p))) (hA : ∀ k b, (∃ y ∈ ys, y.k = k ∧ y.b = b) ↔ A k b) : Go ⟨G, p :: N, M, Γ⟩ (tRet (tVar i) ⟨nx, rt, bk, ct⟩) := fun σ H st => by
  obtain ⟨x, e1, e2⟩ := st.sl i _ hi
  have e2' : x = .ref p := e2
  subst e2'
  refine ⟨.ref p, e1, r _ H (fun c x z => st.same _ _ (q.same _ _ z)) ⟨p, ys, rfl, hid_out q.pn (st.same _ _ q.at'), fun y hy => ?_, hA⟩⟩
  have := q.keys y hy
  have nb : y.ka ∉ p :: N := fun m => by
    unfold hid at this
    rw [if_pos m] at this; cases this
  exact hid_out (fun m => nb (List.mem_cons_of_mem _ m)) (st.same _ _ (hid_sub _ _ this))
end
end
end BB
namespace BB
open PySem PySem.Spec PyProof.Rows L2
/-! ### sizes of sums -/
theorem sm_bd {f : Nat → Rat} {p q : Nat} (hp : 0 < p) : ∀ j, (∀ k, k < j → Bd p q (f k)) → Bd (p + j * (q + 1) + 2) (j * q + 1) (sm j f)
  | 0, _ => Bd.zero.mono (by omega) (by omega)
  | j + 1, h => by
    have ih := sm_bd hp j fun k hk => h k (by omega)
    have e1 : (j + 1) * q = j * q + q := by rw [Nat.add_mul]; omega
    have e2 : (j + 1) * (q + 1) = j * (q + 1) + (q + 1) := by rw [Nat.add_mul]; omega
    have e3 : j * q ≤ j * (q + 1) := Nat.mul_le_mul_left _ (by omega)
    rw [sm_succ]
    have := ih.add (h j (by omega)) (e := p + j * (q + 1) + 2 + q) (by omega) (by omega)
    exact this.mono (by omega) (by omega)
theorem mul4 {j a : Nat} (h : j ≤ 4) : j * a ≤ 4 * a := Nat.mul_le_mul_right _ h
theorem dot_ok {g : Nat} {a b : Nat → Rat} {p q r s : Nat} (hg : g ≤ 4) (ha : ∀ k, k < g → Bd p q (a k)) (hb : ∀ k, k < g → Bd r s (b k)) (h1 : 0 < p) (h2 : 5 * (q + s) ≤ 8990) (h3 : p + r ≤ 5000) :
    DotOk g a b ∧ Bd (p + r + 4 * (q + s + 1) + 2) (4 * (q + s) + 1) (sm g fun k => a k * b k) := by
  have hm : ∀ k, k < g → Bd (p + r) (q + s) (a k * b k) := fun k hk => (ha k hk).mul (hb k hk)
  have hs : ∀ j, j ≤ g → Bd (p + r + 4 * (q + s + 1) + 2) (4 * (q + s) + 1) (sm j fun k => a k * b k) := fun j hj => by
    have := sm_bd (by omega) j fun k hk => hm k (by omega)
    have m1 := mul4 (a := q + s + 1) (show j ≤ 4 by omega)
    have m2 := mul4 (a := q + s) (show j ≤ 4 by omega)
    exact this.mono (by omega) (by omega)
  exact ⟨⟨by omega, fun k hk => (ha k hk).ok2 (hb k hk) (by omega), fun k hk => (hs k (by omega)).ok2 (hm k hk) (by omega)⟩, hs g (Nat.le_refl _)⟩
section
variable {P : Program} {w : World} {K : PySem.W.Frag} {mg : Str → Option Value} {base : Heap}
/-- what a book's numbers keep -/
structure DOk (d : DataV) : Prop where
  g : d.g ≤ 4
  c : d.c ≤ 4
  l : d.l ≤ 10
  pr : ∀ i, i < d.c → ∀ k, k < d.g → Bd 40 10 (d.pr i k)
  am : ∀ i, i < d.c → ∀ k, k < d.g → Bd 40 10 (d.am i k)
  lk : ∀ t, t < d.l → (d.lk t).1 < d.c ∧ (d.lk t).2.1 < d.c
variable {d : DataV}
/-- what buy j's goods cost at buy i's prices -/
def DataV.at' (d : DataV) (i j : Nat) : Rat := sm d.g fun k => d.pr i k * d.am j k
theorem DOk.dot (D : DOk d) {i j : Nat} (hi : i < d.c) (hj : j < d.c) : DotOk d.g (d.pr i) (d.am j) ∧ Bd 166 81 (d.at' i j) := dot_ok D.g (D.pr i hi) (D.am j hj) (by decide) (by decide) (by decide)
def stb (d : DataV) (i j : Nat) : Option Bool := if i ≠ j ∧ d.at' i j ≤ d.sp i then some (decide (d.at' i j < d.sp i)) else none
def stp (d : DataV) (i j : Nat) : Option Bool := lkf d.lk i j (stb d i j) d.l
/-! ### step -/
abbrev s_step : Stmt := (topS 39)
theorem sc_step : FnScope ["data", "i", "j", "result", "price", "money", "first", "second", "strict"] ["data", "i", "j"] (defScope s_step) := ⟨rfl, rfl, rfl, by decide +kernel, rfl, by decide +kernel, by decide +kernel⟩

def sp_step (K : PySem.W.Frag) : Sp := spR (fun z : DataV × Nat × Nat => [Dat K z.1, Nt z.2.1, Nt z.2.2]) (fun z => DOk z.1 ∧ z.2.1 < z.1.c ∧ z.2.2 < z.1.c) (fun z => Ob (stp z.1 z.2.1 z.2.2))
theorem ok_step (F : Def0 K mg "step" s_step ["data", "i", "j"]) (d_cost : DefOk P w K mg base "cost" 4 ["prices", "amounts"] (sp_cost K)) (d_spent : DefOk P w K mg base "spent" 4 ["data", "i"] (sp_spent K))
    (d_at_most : DefOk P w K mg base "at_most" 1 ["a", "b"] (sp_at_most K)) (d_less : DefOk P w K mg base "less" 1 ["a", "b"] (sp_less K)) : DefOk P w K mg base "step" 5 ["data", "i", "j"] (sp_step K) := by
  refine okD F sc_step (fun _ => rfl) (by decide) fun f cdv A outer s H E hr ⟨d, i, j⟩ h => ⟨_, (pss_cons (ps_set (i := 3) sc_step.nd rfl (.inl rfl) pe_non)
        (pss_cons (ps_if (pt_cmpR op_ne (pv 1) (pv 2) (nomark _)) (pss_cons (ps_set (i := 4) sc_step.nd rfl (.inl rfl) (pe_cd d_cost (hr.mono (by decide)) (by rfl) (pa_cons (pe_ix (r := rIxT K) ix_tup (pe_ix (r := rIxL K) ix_list (pe_fldK (K := K) rfl (pv 0) rfl) (pv 1) (fun _ _ => rfl)) pe_int (fun _ _ => rfl)) (pa_cons (pe_ix (r := rIxT K) ix_tup (pe_ix (r := rIxL K) ix_list (pe_fldK (K := K) rfl (pv 0) rfl) (pv 2) (fun _ _ => rfl)) pe_int (fun _ _ => rfl)) pa_nil))))
        (pss_cons (ps_set (i := 5) sc_step.nd rfl (.inl rfl) (pe_cd d_spent (hr.mono (by decide)) (by rfl) (pa_cons (pv 0) (pa_cons (pv 1) pa_nil))))
        (pss_one (ps_if (pt_val (pe_cd d_at_most (hr.mono (by decide)) (by rfl) (pa_cons (pv 4) (pa_cons (pv 5) pa_nil)))) (pss_one (ps_set (i := 3) sc_step.nd rfl (.inl rfl) (pe_cd d_less (hr.mono (by decide)) (by rfl) (pa_cons (pv 4) (pa_cons (pv 5) pa_nil))))) pss_nil)))) pss_nil)
        (pss_cons (ps_for PassesOwn.never rfl (pi_listK (K := K) rfl (pe_fldK (K := K) rfl (pv 0) rfl)) (pg_tupK (K := K) rfl (by rfl) (pgs_cons (pg_name (i := 6) sc_step.nd rfl (.inl rfl)) (pgs_cons (pg_name (i := 7) sc_step.nd rfl (.inl rfl)) (pgs_cons (pg_name (i := 8) sc_step.nd rfl (.inl rfl)) pgs_nil)))) (pss_one (ps_if (PW.pt (pw_and (pt_cmpR op_eq (pv 6) (pv 1) (nomark _)) (pw_and1 (pt_cmpR op_eq (pv 7) (pv 2) (nomark _))))) (pss_one (ps_set (i := 3) sc_step.nd rfl (.inl rfl) (pe_or (pe_cmpR (op_isO) (pv 3) pe_bl (nomark _)) (pe_one (pv 8))))) pss_nil)))
        (pss_one (ps_ret (pv 3)))))), fun H0 N D rt => ?_⟩
  obtain ⟨D', hi, hj⟩ := h
  have D' : DOk d := D'
  have hi : i < d.c := hi
  have hj : j < d.c := hj
  refine go_seq (go_set ev_non (go_seq (go_ifj ⟨H0, N, [], [some (Dat K d), some (Nt i), some (Nt j), some (Ob (stb d i j)), none, none, none, none, none]⟩ (et_test (ev_op ot_neI (ev_var rfl) (ev_var rfl))) (fun e nx kk => ?_) (fun e nx kk => go_next fun σ H st => kk σ H ?_) (go_seq ?_))))
  · have ne : i ≠ j := fun z => by
      rw [z] at e
      simp at e
    obtain ⟨o1, b1⟩ := D'.dot hi hj
    obtain ⟨o2, b2⟩ := D'.dot hi hi
    have m1 := b1.mid (by decide) (by decide)
    have m2 : Mid (d.sp i) := b2.mid (by decide) (by decide)
    refine go_seq (go_set (R := Fr K (d.at' i j)) (ev_cost (ev_op (ot_ixT (k := 0) rfl rfl) (ev_op (ot_ixL rfl hi) (ev_buys (ev_var rfl)) (ev_var rfl)) ev_int) (ev_op (ot_ixT (k := 1) rfl rfl) (ev_op (ot_ixL rfl hj) (ev_buys (ev_var rfl)) (ev_var rfl)) ev_int) o1) (go_seq (go_set (ev_spent (ev_var rfl) (ev_var rfl) hi o2) ?_)))
    refine go_if (et_B (ev_at_most (ev_var rfl) (ev_var rfl) m1 m2)) (fun e2 => ?_) fun e2 => go_next fun σ H st => kk σ H ?_
    · have e3 : d.at' i j ≤ d.sp i := of_decide_eq_true e2
      refine go_set (R := Ob (stb d i j)) (ev_sub (ev_less (ev_var rfl) (ev_var rfl) m1 m2) fun H v q => ?_) fun σ H st => kk σ H (st.wk (by repeat first | exact Wk.nil | refine Wk.keep ?_ | refine Wk.drop ?_))
      unfold stb
      rw [if_pos ⟨ne, e3⟩]
      exact q
    · have e3 : ¬ d.at' i j ≤ d.sp i := of_decide_eq_false e2
      have : Ob (stb d i j) = No := by
        unfold stb
        rw [if_neg fun z => e3 z.2]
        rfl
      rw [this]
      exact st.wk (by repeat first | exact Wk.nil | refine Wk.keep ?_ | refine Wk.drop ?_)
  · have eq : i = j := by
      have := of_decide_eq_true (show decide ((i : Int) = (j : Int)) = true by simpa using e)
      omega
    have : Ob (stb d i j) = No := by
      unfold stb
      rw [if_neg fun z => z.1 eq]
      rfl
    rw [this]
    exact st.wk (by repeat first | exact Wk.nil | refine Wk.keep ?_ | refine Wk.drop ?_)
  refine go_forL (α := Unit) (fun G' t _ => ⟨G', N, [], [some (Dat K d), some (Nt i), some (Nt j), some (Ob (lkf d.lk i j (stb d i j) t)), none, none, none, none, none]⟩)
    (fun G' t _ => ⟨G', N, [], [some (Dat K d), some (Nt i), some (Nt j), some (Ob (lkf d.lk i j (stb d i j) t)), none, none, some (Nt (d.lk t).1), some (Nt (d.lk t).2.1), some (Bo (d.lk t).2.2)]⟩) (fun _ _ => True) (ev_links (ev_var rfl)) (fun _ _ _ => ⟨rfl, rfl, rfl⟩)
    (fun G' => ⟨(), trivial, fun σ H st => st⟩) (fun _ _ _ _ => gt_tup rfl (gl_cons (gl_cons (gl_cons gl_nil)))) (fun G' t _ s1 ht _ => ?_) fun G' _ s1 _ => ?_
  · refine go_if (et_and (et_test (ev_op ot_eqI (ev_var rfl) (ev_var rfl))) fun _ => et_test (ev_op ot_eqI (ev_var rfl) (ev_var rfl))) (fun e => ?_) fun e => go_next fun σ H st => ⟨(), trivial, ?_⟩
    · have e2 : (d.lk t).1 = i ∧ (d.lk t).2.1 = j := by
        simp only [Bool.and_eq_true, decide_eq_true_eq] at e
        omega
      refine go_set (ev_orV (ev_op ot_isO (ev_var rfl) ev_bl) fun _ => ev_var rfl) fun σ H st => ⟨(), trivial, ?_⟩
      have : lkf d.lk i j (stb d i j) (t + 1) = some (decide (lkf d.lk i j (stb d i j) t = some true) || (d.lk t).2.2) := if_pos e2
      rw [this]
      exact st.wk (by repeat first | exact Wk.nil | refine Wk.keep ?_ | refine Wk.drop ?_)
    · have e2 : ¬ ((d.lk t).1 = i ∧ (d.lk t).2.1 = j) := fun z => by
        rw [z.1, z.2] at e
        simp at e
      have : lkf d.lk i j (stb d i j) (t + 1) = lkf d.lk i j (stb d i j) t := if_neg e2
      rw [this]
      exact st.wk (by repeat first | exact Wk.nil | refine Wk.keep ?_ | refine Wk.drop ?_)
  · exact go_back (rt.base s1) (ev_var rfl)
abbrev TabR (n : Nat) (T : Nat → Nat → Option Bool) : Rp := Li n fun i => Li n fun j => Ob (T i j)
abbrev s_step_table : Stmt := (topS 40)
theorem sc_step_table : FnScope ["data", "count", "i", "j"] ["data"] (defScope s_step_table) := ⟨rfl, rfl, rfl, by decide +kernel, rfl, by decide +kernel, by decide +kernel⟩

def sp_step_table (K : PySem.W.Frag) : Sp := spR (fun z : DataV => [Dat K z]) DOk (fun z => TabR z.c (stp z))
theorem ok_step_table (G : Gb K mg) (F : Def0 K mg "step_table" s_step_table ["data"]) (d_step : DefOk P w K mg base "step" 5 ["data", "i", "j"] (sp_step K)) : DefOk P w K mg base "step_table" 6 ["data"] (sp_step_table K) := by
  refine okD F sc_step_table (fun _ => rfl) (by decide) fun f cdv A outer s H E hr d D' => ⟨_, (pss_cons (ps_set (i := 1) sc_step_table.nd rfl (.inr rfl) (pe_callB (r := rLenQ K) call_len_seq (by rfl) G.len PySem.boot_len (pa_cons (pe_fldK (K := K) rfl (pv 0) rfl) pa_nil)))
        (pss_one (ps_ret (pe_lc (own := [("i", 2)]) (g := (gName 2)) (tt := tYes) rfl sc_step_table.nd (pi_range1 (by rfl) G.range (pa_cons (pv 1) pa_nil)) (blkOk_by (N := ["data", "count", "i", "j"]) (own := [("i", 2)]) (sc := (defScope s_step_table)) (by decide +kernel)) (fun _ _ _ _ _ => (pg_name (i := 2) sc_step_table.nd rfl (.inr rfl))) (fun _ _ _ _ _ => pts_nil) (fun _ _ _ _ _ => (pe_lc (own := [("j", 3)]) (g := (gName 3)) (tt := tYes) rfl sc_step_table.nd (pi_range1 (by rfl) G.range (pa_cons (pv 1) pa_nil)) (blkOk_by (N := ["data", "count", "i", "j"]) (own := [("j", 3)]) (sc := _) (by rfl)) (fun _ _ _ _ _ => (pg_name (i := 3) sc_step_table.nd rfl (.inl rfl))) (fun _ _ _ _ _ => pts_nil) (fun _ _ _ _ _ => (pe_cd d_step (hr.mono (by decide)) (by rfl) (pa_cons (pv 0) (pa_cons (pv 2) (pa_cons (pv 3) pa_nil))))))))))), fun H0 N D rt => ?_⟩
  have hc := D'.c
  refine go_seq (go_set (ev_cb ct_len (eva_cons (ev_buys (ev_var rfl)) eva_nil)) ?_)
  exact go_back rt (evn_lcR (n := d.c) (eva_cons (ev_var rfl) eva_nil) (by omega) fun Da i hi => (evn_lcR (n := d.c) (eva_cons (ev_var rfl) eva_nil) (by omega) fun Db j hj => ev_call (d, i, j) (eva_cons (ev_var rfl) (eva_cons (ev_var rfl) (eva_cons (ev_var rfl) eva_nil))) ⟨D', hi, hj⟩).ev).ev
end
end BB
namespace BB
open PySem PySem.Spec PyProof.Rows L2
section
variable {P : Program} {w : World} {K : PySem.W.Frag} {mg : Str → Option Value} {base : Heap}
/-! ### find_in -/
abbrev s_find_in : Stmt := (topS 41)
theorem sc_find_in : FnScope ["table", "i", "found", "queue", "at", "j", "strict", "chain", "k", "one"] ["table", "i"] (defScope s_find_in) := ⟨rfl, rfl, rfl, by decide +kernel, rfl, by decide +kernel, by decide +kernel⟩

structure FinV where
  n : Nat
  st : Nat → Nat → Option Bool
  i : Nat
def sp_find_in (P : Program) (w : World) : Sp := spR (fun z : FinV => [TabR z.n z.st, Nt z.i]) (fun z => z.n ≤ 10 ∧ z.i < z.n) (fun z => Dc P w (Rch z.n z.st z.i))
def qf (K : PySem.W.Frag) (ys : List DE) (t : Nat) : Rp := match ys[t]? with
  | none => Ay
  | some y => Tp K [Nt y.k, Bo y.b]
theorem qf_at {ys : List DE} {t : Nat} {y : DE} (h : ys[t]? = some y) : qf K ys t = Tp K [Nt y.k, Bo y.b] := by
  unfold qf
  rw [h]
theorem qf_old {ys zs : List DE} {t : Nat} (h : t < ys.length) : qf K ys t = qf K (ys ++ zs) t := by
  unfold qf
  rw [List.getElem?_append_left h]
/-- what the search has found -/
structure Fnd (n : Nat) (st : Nat → Nat → Option Bool) (i : Nat) (ys : List DE) : Prop where
  first : ∃ y ∈ ys, y.k = i ∧ y.b = false
  snd : ∀ y ∈ ys, Rch n st i y.k y.b
  lt : ∀ y ∈ ys, y.k < n
  inj : ∀ (a b : Nat) (y z : DE), a < b → ys[a]? = some y → ys[b]? = some z → ¬ (y.k = z.k ∧ y.b = z.b)
def Cls (n : Nat) (st : Nat → Nat → Option Bool) (ys : List DE) (j : Nat) (s : Bool) (m : Nat) : Prop := ∀ k o, k < m → st j k = some o → ∃ y ∈ ys, y.k = k ∧ y.b = (s || o)
theorem Cls.app {n : Nat} {st : Nat → Nat → Option Bool} {ys zs : List DE} {j : Nat} {s : Bool} {m : Nat} (h : Cls n st ys j s m) : Cls n st (ys ++ zs) j s m := fun k o hk e => by
  obtain ⟨y, hy, r⟩ := h k o hk e
  exact ⟨y, List.mem_append_left _ hy, r⟩
theorem Fnd.len {n : Nat} {st : Nat → Nat → Option Bool} {i : Nat} {ys : List DE} (h : Fnd n st i ys) : ys.length ≤ 2 * n := by
  refine Classical.byContradiction fun z => ?_
  let f : Nat → Nat := fun t => match ys[t]? with
    | none => 0
    | some y => 2 * y.k + (if y.b = true then 1 else 0)
  have hf : ∀ t, t ≤ 2 * n → f t < 2 * n := fun t ht => by
    have : ys[t]? = some (ys[t]'(by omega)) := List.getElem?_eq_getElem (by omega)
    show (match ys[t]? with | none => 0 | some y => 2 * y.k + (if y.b = true then 1 else 0)) < 2 * n
    rw [this]
    have := h.lt _ (List.getElem_mem (show t < ys.length by omega))
    show 2 * (ys[t]'(by omega)).k + (if (ys[t]'(by omega)).b = true then 1 else 0) < 2 * n
    split <;> omega
  obtain ⟨a, b, h1, h2, h3⟩ := pigeon (2 * n) f hf
  have ea : ys[a]? = some (ys[a]'(by omega)) := List.getElem?_eq_getElem (by omega)
  have eb : ys[b]? = some (ys[b]'(by omega)) := List.getElem?_eq_getElem (by omega)
  refine h.inj a b _ _ h1 ea eb ?_
  have h3' : (match ys[a]? with | none => 0 | some y => 2 * y.k + (if y.b = true then 1 else 0)) = (match ys[b]? with | none => 0 | some y => 2 * y.k + (if y.b = true then 1 else 0)) := h3
  rw [ea, eb] at h3'
  have h4 : 2 * (ys[a]'(by omega)).k + (if (ys[a]'(by omega)).b = true then 1 else 0) = 2 * (ys[b]'(by omega)).k + (if (ys[b]'(by omega)).b = true then 1 else 0) := h3'
  cases e1 : (ys[a]'(by omega)).b <;> cases e2 : (ys[b]'(by omega)).b <;> rw [e1, e2] at h4 <;> simp at h4 <;> first | exact ⟨by omega, rfl⟩ | omega
theorem Fnd.snoc {n : Nat} {st : Nat → Nat → Option Bool} {i : Nat} {ys : List DE} (h : Fnd n st i ys) {e : DE} (r : Rch n st i e.k e.b) (hk : e.k < n) (hn : (atD ys e.k e.b).isSome = false) : Fnd n st i (ys ++ [e]) := by
  have nin : ∀ y ∈ ys, ¬ (y.k = e.k ∧ y.b = e.b) := fun y hy c => by
    rw [atD_is.mpr ⟨y, hy, c⟩] at hn; cases hn
  obtain ⟨y0, a, b⟩ := h.first
  refine ⟨⟨y0, List.mem_append_left _ a, b⟩, fun y hy => ?_, fun y hy => ?_, fun a b y z hab ea eb => ?_⟩
  · rcases List.mem_append.mp hy with m | m
    · exact h.snd y m
    · have : y = e := by simpa using m
      rw [this]; exact r
  · rcases List.mem_append.mp hy with m | m
    · exact h.lt y m
    · have : y = e := by simpa using m
      rw [this]; exact hk
  · have lb : b < (ys ++ [e]).length := (List.getElem?_eq_some_iff.mp eb).1
    rw [List.length_append] at lb
    have lb' : b < ys.length + 1 := lb
    rw [List.getElem?_append_left (by omega)] at ea
    by_cases c : b < ys.length
    · rw [List.getElem?_append_left c] at eb
      exact h.inj a b y z hab ea eb
    · have : b = ys.length := by omega
      subst this
      have : z = e := by simpa using eb.symm
      rw [this]
      exact nin y (List.mem_of_getElem? ea)
theorem ok_find_in (G : Gb K mg) (F : Def0 K mg "find_in" s_find_in ["table", "i"]) : DefOk P w K mg base "find_in" 1 ["table", "i"] (sp_find_in P w) := by
  refine okD F sc_find_in (fun _ => rfl) (by decide) fun f cdv A outer s H E hr ⟨n, st, i⟩ h => ⟨_, (pss_cons (ps_set (i := 2) sc_find_in.nd rfl (.inl rfl) (pe_qnew (P := P) (w := w) rfl rfl hr.units (pe_tup (pa_cons (pv 1) (pa_cons pe_bl pa_nil))) (pe_lst (pa_cons (pv 1) pa_nil))))
        (pss_cons (ps_set (i := 3) sc_find_in.nd rfl (.inl rfl) (pe_lst (pa_cons (pe_tup (pa_cons (pv 1) (pa_cons pe_bl pa_nil))) pa_nil)))
        (pss_cons (ps_set (i := 4) sc_find_in.nd rfl (.inl rfl) pe_int)
        (pss_cons (ps_while PassesOwn.never (pt_cmpR op_lt (pv 4) (pe_callB (r := rLenQ K) call_len_seq (by rfl) G.len PySem.boot_len (pa_cons (pv 3) pa_nil)) (nomark _)) (pss_cons (ps_asg (pe_ix (r := rIxL K) ix_list (pv 3) (pv 4) (fun _ _ => rfl)) (pg_tupK (K := K) rfl (by rfl) (pgs_cons (pg_name (i := 5) sc_find_in.nd rfl (.inl rfl)) (pgs_cons (pg_name (i := 6) sc_find_in.nd rfl (.inl rfl)) pgs_nil))))
        (pss_cons (ps_set (i := 7) sc_find_in.nd rfl (.inl rfl) (pe_qget (P := P) (w := w) rfl rfl hr.units (pv 2) (pe_tup (pa_cons (pv 5) (pa_cons (pv 6) pa_nil))) (by intro _ _; rfl)))
        (pss_cons (ps_for PassesOwn.never rfl (pi_range1 (by rfl) G.range (pa_cons (pe_callB (r := rLenQ K) call_len_seq (by rfl) G.len PySem.boot_len (pa_cons (pv 0) pa_nil)) pa_nil)) (pg_name (i := 8) sc_find_in.nd rfl (.inl rfl)) (pss_cons (ps_set (i := 9) sc_find_in.nd rfl (.inl rfl) (pe_ix (r := rIxL K) ix_list (pe_ix (r := rIxL K) ix_list (pv 0) (pv 5) (fun _ _ => rfl)) (pv 8) (fun _ _ => rfl)))
        (pss_one (ps_if (PW.pt (pw_and (pt_cmpR op_notN (pv 9) pe_non (nomark _)) (pw_and1 (pt_cmp (pc_qnotin (P := P) (w := w) rfl rfl hr.units (pe_tup (pa_cons (pv 8) (pa_cons (pe_or (pv 6) (pe_one (pv 9))) pa_nil))) (pv 2)))))) (pss_cons (ps_qput (P := P) (w := w) rfl rfl hr.units (pv 2) (pe_tup (pa_cons (pv 8) (pa_cons (pe_or (pv 6) (pe_one (pv 9))) pa_nil))) (pe_op op_cat (pv 7) (pe_lst (pa_cons (pv 8) pa_nil))) rfl)
        (pss_one (ps_expr (pe_appK (K := K) rfl (pv 3) (pa_cons (pe_tup (pa_cons (pv 8) (pa_cons (pe_or (pv 6) (pe_one (pv 9))) pa_nil))) pa_nil))))) pss_nil))))
        (pss_one (ps_set (i := 4) sc_find_in.nd rfl (.inl rfl) (pe_op op_add (pv 4) pe_int)))))))
        (pss_one (ps_ret (pv 2))))))), fun H0 N D rt => ?_⟩
  have hn : n ≤ 10 := h.1
  have hi : i < n := h.2
  refine go_seq (go_qnew (b := false) (k := i) (ev_tupq (eva_cons (ev_var rfl) (eva_cons ev_bl eva_nil))) (ev_sub (evn_lst (eva_cons (ev_var rfl) eva_nil)).ev fun H v q => ⟨1, by omega, ?_⟩) fun p B e e1 e2 q0 => go_seq ?_)
  · obtain ⟨a, vs, x1, x2, x3, _⟩ := q
    exact ⟨a, vs, x1, x2, x3, fun _ _ _ => trivial⟩
  refine go_new (n := 1) (f := qf K [e]) (evn_eq (evn_lst (eva_cons (ev_tup (K := K) (eva_cons (ev_var rfl) (eva_cons ev_bl eva_nil))) eva_nil)) rfl fun t ht => ?_) fun q => go_seq ?_
  · have : t = 0 := by
      have ht' : t < 1 := ht
      omega
    subst this
    show Tp K [Nt i, Bo false] = Tp K [Nt e.k, Bo e.b]
    rw [e1, e2]
  refine go_set ev_int (go_seq ?_)
  refine go_while (α := Hp × List DE × Nat) (fun z => ⟨z.1, p :: N, [(q, z.2.1.length, qf K z.2.1)], [some (TabR n st), some (Nt i), some (Pt p), some (Pt q), some (Nt z.2.2), none, none, none, none, none]⟩)
    (fun m z => QB P w H0 N p z.1 z.2.1 ∧ Fnd n st i z.2.1 ∧ z.2.2 ≤ z.2.1.length ∧ m = 2 * n - z.2.2 ∧ ∀ t y, t < z.2.2 → z.2.1[t]? = some y → Cls n st z.2.1 y.k y.b n)
    ⟨_, (B, [e], 0), ⟨q0, ⟨⟨e, List.mem_cons_self .., e1, e2⟩, fun y hy => ?_, fun y hy => ?_, fun a b y z hab ea eb => ?_⟩, Nat.zero_le _, rfl, fun t y ht => absurd ht (Nat.not_lt_zero t)⟩, fun σ H st => st.wk (by repeat first | exact Wk.nil | refine Wk.keep ?_ | refine Wk.drop ?_)⟩ fun m ⟨B1, ys, at1⟩ ⟨qb, fd, hat, hm, cl⟩ => ?_
  · have : y = e := by simpa using hy
    rw [this, e1, e2]; exact .base
  · have : y = e := by simpa using hy
    rw [this, e1]; exact hi
  · have : b < 1 := (List.getElem?_eq_some_iff.mp eb).1
    omega
  have qb : QB P w H0 N p B1 ys := qb
  have fd : Fnd n st i ys := fd
  have hat : at1 ≤ ys.length := hat
  have hm : m = 2 * n - at1 := hm
  have cl : ∀ t y, t < at1 → ys[t]? = some y → Cls n st ys y.k y.b n := cl
  have hyl : ys.length ≤ 2 * n := fd.len
  refine ⟨_, et_test (ev_ilt (ev_var rfl) (ev_lenM rfl (List.mem_cons_self ..))), fun e => ?_, fun e => ?_⟩
  · have hlt : at1 < ys.length := by
      have this : ((at1 : Nat) : Int) < ((ys.length : Nat) : Int) := of_decide_eq_true e
      omega
    have ey : ys[at1]? = some (ys[at1]'hlt) := List.getElem?_eq_getElem hlt
    have ymem : (ys[at1]'hlt) ∈ ys := List.getElem_mem hlt
    have hyn := fd.lt _ ymem
    have hyr := fd.snd _ ymem
    generalize ys[at1]'hlt = y at ey ymem hyn hyr
    refine go_seq (go_asg (R := Tp K [Nt y.k, Bo y.b]) (ev_eq (ev_ixM (k := at1) rfl (List.mem_cons_self ..) (ev_var rfl) rfl hlt) (qf_at ey)) (gt_tup rfl (gl_cons (gl_cons gl_nil))) (go_seq ?_))
    refine go_set (ev_qget (Γ := [some (TabR n st), some (Nt i), some (Pt p), some (Pt q), some (Nt at1), some (Nt y.k), some (Bo y.b), none, none, none]) (k := y.k) (b := y.b) qb rfl (ev_tupq (eva_cons (ev_var rfl) (eva_cons (ev_var rfl) eva_nil))) ⟨y, ymem, rfl, rfl⟩) (go_open (i := 7) rfl fun c hc => go_seq ?_)
    refine go_forR (n := n) (α := Hp × List DE) (fun k z => ⟨z.1, p :: N, [(q, z.2.length, qf K z.2)], [some (TabR n st), some (Nt i), some (Pt p), some (Pt q), some (Nt at1), some (Nt y.k), some (Bo y.b), some (Li c fun _ => Ay), none, none]⟩)
      (fun k z => QB P w H0 N p z.1 z.2 ∧ Fnd n st i z.2 ∧ at1 < z.2.length ∧ z.2[at1]? = some y ∧ c ≤ z.2.length ∧ (∀ t y, t < at1 → z.2[t]? = some y → Cls n st z.2 y.k y.b n) ∧ Cls n st z.2 y.k y.b k)
      (eva_cons (ev_cb ct_len (eva_cons (ev_var rfl) eva_nil)) eva_nil) (by omega) ⟨(B1, ys), ⟨qb, fd, hlt, ey, hc, cl, fun k o hk => absurd hk (Nat.not_lt_zero k)⟩, fun σ H st => st.wk (by repeat first | exact Wk.nil | refine Wk.keep ?_ | refine Wk.drop ?_)⟩ (fun k z hk ⟨qb, fd, hlt, ey, hc, cl, ck⟩ => ?_) fun z ⟨qb, fd, hlt, ey, hc, cl, ck⟩ => ?_
    · obtain ⟨B2, zs⟩ := z
      have qb : QB P w H0 N p B2 zs := qb
      have fd : Fnd n st i zs := fd
      have hlt : at1 < zs.length := hlt
      have ey : zs[at1]? = some y := ey
      have hc : c ≤ zs.length := hc
      have cl : ∀ t y, t < at1 → zs[t]? = some y → Cls n st zs y.k y.b n := cl
      have ck : Cls n st zs y.k y.b k := ck
      have hzl : zs.length ≤ 2 * n := fd.len
      refine go_seq (go_set (R := Ob (st y.k k)) (ev_op (ot_ixL (R := fun j => Ob (st y.k j)) rfl hk) (ev_op (ot_ixL (R := fun i => Li n fun j => Ob (st i j)) rfl hyn) (ev_var rfl) (ev_var rfl)) (ev_var rfl)) ?_)
      have same : (∀ o, st y.k k = some o → ∃ x ∈ zs, x.k = k ∧ x.b = (y.b || o)) → Cls n st zs y.k y.b (k + 1) := fun hh k' o hk' eo => by
        by_cases c : k' = k
        · subst c; exact hh o eo
        · exact ck k' o (by omega) eo
      cases eo : st y.k k with
      | none =>
        refine go_if (et_and (b := false) (et_test (ev_op (ot_notN (R := Ob none) ob_none) (ev_var rfl) ev_non)) fun e => by cases e) (fun e => by cases e) fun _ => go_next fun σ H st' => ⟨(B2, zs), ⟨qb, fd, hlt, ey, hc, cl, same fun o e => by rw [eo] at e; cases e⟩, st'.wk (by repeat first | exact Wk.nil | refine Wk.keep ?_ | refine Wk.drop ?_)⟩
      | some o =>
        have eor : ∀ {M : Mt} {B2 : Hp}, EV ⟨B2, p :: N, M, [some (TabR n st), some (Nt i), some (Pt p), some (Pt q), some (Nt at1), some (Nt y.k), some (Bo y.b), some (Li c fun _ => Ay), some (Nt k), some (Ob (some o))]⟩ (tOrV (tVar 6) (tVar 9)) (Bo (y.b || o)) := fun {M B2} => ev_orV (ev_var rfl) fun _ => ev_sub (R := Ob (some o)) (ev_var rfl) fun _ _ h => h
        have eky : ∀ {M : Mt} {B2 : Hp}, EV ⟨B2, p :: N, M, [some (TabR n st), some (Nt i), some (Pt p), some (Pt q), some (Nt at1), some (Nt y.k), some (Bo y.b), some (Li c fun _ => Ay), some (Nt k), some (Ob (some o))]⟩ (tTup (tCons (tVar 8) (tCons (tOrV (tVar 6) (tVar 9)) tNil))) (Ky k (y.b || o)) := fun {M B2} => ev_tupq (eva_cons (ev_var rfl) (eva_cons eor eva_nil))
        refine go_if (et_and (et_test (ev_op (ot_notN (R := Ob (some o)) ob_none) (ev_var rfl) ev_non)) fun _ => et_B (ev_qnotin qb rfl eky)) (fun e => ?_) fun e => go_next fun σ H st' => ⟨(B2, zs), ⟨qb, fd, hlt, ey, hc, cl, same fun o' e' => ?_⟩, st'.wk (by repeat first | exact Wk.nil | refine Wk.keep ?_ | refine Wk.drop ?_)⟩
        · have hnew : (atD zs k (y.b || o)).isSome = false := by simpa using e
          refine go_seq (go_qput (Γ := [some (TabR n st), some (Nt i), some (Pt p), some (Pt q), some (Nt at1), some (Nt y.k), some (Bo y.b), some (Li c fun _ => Ay), some (Nt k), some (Ob (some o))]) qb rfl eky (ev_sub (evn_cat (n := c) (R := fun _ => Ay) (ev_var rfl) (evn_lst (eva_cons (ev_var rfl) eva_nil)).ev (by show c + 1 ≤ 1000; omega)).ev fun H v r => ⟨c + 1, by omega, ?_⟩) hnew (by omega) fun B3 e3 ek eb qb3 => ?_)
          · obtain ⟨a, vs, x1, x2, x3, _⟩ := r
            exact ⟨a, vs, x1, x2, x3, fun _ _ _ => trivial⟩
          refine go_app (n := zs.length) (M1 := []) rfl rfl (by omega) (R := Tp K [Nt k, Bo (y.b || o)]) (ev_tup (eva_cons (ev_var rfl) (eva_cons eor eva_nil))) fun σ H st' => ⟨(B3, zs ++ [e3]), ⟨qb3, ?_, ?_, ?_, ?_, ?_, ?_⟩, (st'.mset (by simp) (snoc_at (fun t ht => qf_old ht) ?_)).wk (by repeat first | exact Wk.nil | refine Wk.keep ?_ | refine Wk.drop ?_)⟩
          · refine fd.snoc ?_ (by rw [ek]; exact hk) (by rw [ek, eb]; exact hnew)
            rw [ek, eb]
            exact hyr.step hk eo
          · show at1 < (zs ++ [e3]).length
            rw [List.length_append]; omega
          · show (zs ++ [e3])[at1]? = some y
            rw [List.getElem?_append_left hlt]; exact ey
          · show c ≤ (zs ++ [e3]).length
            rw [List.length_append]; omega
          · intro t x ht ex
            have ex' : (zs ++ [e3])[t]? = some x := ex
            rw [List.getElem?_append_left (by omega)] at ex'
            exact (cl t x ht ex').app
          · intro k' o' hk' e'
            by_cases cc : k' = k
            · subst cc
              rw [eo] at e'
              cases e'
              exact ⟨e3, List.mem_append_right _ (List.mem_cons_self ..), ek, eb⟩
            · exact ck.app k' o' (by omega) e'
          · rw [qf_at (y := e3) (by simp), ek, eb]
        · rw [eo] at e'
          cases e'
          refine atD_is.mp ?_
          cases h : (atD zs k (y.b || o)).isSome with
          | true => rfl
          | false =>
            rw [h] at e
            cases e
    · obtain ⟨B2, zs⟩ := z
      have hlt : at1 < zs.length := hlt
      have cl : ∀ t y, t < at1 → zs[t]? = some y → Cls n st zs y.k y.b n := cl
      have ey : zs[at1]? = some y := ey
      refine go_set (ev_iadd (ev_var rfl) ev_int) fun σ H st' => ⟨2 * n - (at1 + 1), (B2, zs, at1 + 1), by omega, ⟨qb, fd, hlt, rfl, fun t x ht ex => ?_⟩, st'.wk (by repeat first | exact Wk.nil | refine Wk.keep ?_ | refine Wk.drop ?_)⟩
      by_cases c : t = at1
      · subst c
        have ex' : zs[t]? = some x := ex
        rw [ey] at ex'
        cases ex'
        exact ck
      · exact cl t x (by
          have ht' : t < at1 + 1 := ht
          omega) ex
  · have hge : at1 = ys.length := by
      have this : ¬ ((at1 : Nat) : Int) < ((ys.length : Nat) : Int) := of_decide_eq_false e
      omega
    refine go_qret (A := Rch n st i) rt qb rfl fun k b => ⟨fun ⟨y, hy, e1, e2⟩ => by rw [← e1, ← e2]; exact fd.snd y hy, fun r => ?_⟩
    refine Rch.sub (S := fun k b => ∃ y ∈ ys, y.k = k ∧ y.b = b) fd.first (fun j s k o ⟨y, hy, e1, e2⟩ hk eo => ?_) r
    obtain ⟨t, ht, ey⟩ := List.getElem_of_mem hy
    have := cl t y (by omega) (by rw [List.getElem?_eq_getElem ht, ey])
    rw [e1, e2] at this
    exact this k o hk eo
end
end BB
namespace BB
open PySem PySem.Spec PyProof.Rows L2
/-! ### tests whose answer does not matter -/
def EU (S : Sta) (t : TT) : Prop := ∀ σ H, Stt S σ H → ∀ Q : Bool → Hp → Prop, (∀ b H', Same H H' → Q b H') → t σ H Q
abbrev BoU : Rp := Exr (fun _ : Bool => True) Bo
section
variable {S : Sta} {te : TE} {t u : TT} {b : Bool}
theorem eu_of (h : ET S t b) : EU S t := fun σ H st Q q => h σ H st Q fun H' s => q b H' s
theorem eu_B (h : EV S te BoU) : EU S (tB te) := fun σ H st Q q => h σ H st _ fun v H' s ⟨b, _, r⟩ => ⟨b, r, q b H' s⟩
theorem eu_test (h : EV S te BoU) : EU S (tTest te) := fun σ H st Q q => h σ H st _ fun v H' s ⟨b, _, r⟩ => ⟨b, r, q b H' s⟩
theorem eu_or (h1 : EU S t) (h2 : EU S u) : EU S (tOr t u) := fun σ H st Q q => h1 σ H st _ fun b H1 s1 => by
  cases b with
  | true => exact q true H1 s1
  | false => exact h2 σ H1 (st.mono s1) Q fun b H2 s2 => q b H2 (s1.trans s2)
theorem go_ifu {a c : TS} {nx : L2.St → Hp → Prop} {rt : VK} {bk ct : L2.St → Hp → Prop} (h : EU S t) (h1 : Go S (a ⟨nx, rt, bk, ct⟩)) (h2 : Go S (c ⟨nx, rt, bk, ct⟩)) : Go S (tIfS t a c ⟨nx, rt, bk, ct⟩) := fun σ H st =>
  h σ H st _ fun b H1 s => by
    cases b with
    | true => exact h1 σ H1 (st.mono s)
    | false => exact h2 σ H1 (st.mono s)
/-- a call of a datum that is found from what is handed in -/
theorem ev_callE {α : Type} {pre : α → List Rp} {side : α → Prop} {post : α → Rp} {E : XK} {t : TA} {Rs : List Rp} {R : Rp} (ha : EVA S t Rs) (h : ∀ H vs, AL Rs H vs → ∃ x, AL (pre x) H vs ∧ side x ∧ ∀ H' v, (post x).p H' v → R.p H' v) : EV S (tCall (spR pre side post) [] E t) R := fun σ H st Q q =>
  ha σ H st _ fun vs H1 s1 r1 => by
    obtain ⟨x, a, b, c⟩ := h _ _ r1
    exact ⟨x, S.hd, (st.mono s1).used, b, by rw [List.append_nil]; exact a, fun v H2 s2 r2 => q v H2 (s1.trans s2) (c _ _ r2)⟩
end
/-! ### comprehensions with a test -/
def selR (L : List Nat) (R : Nat → Rp) (t : Nat) : Rp := match L[t]? with
  | none => Ay
  | some k => R k
theorem selR_at {p : Nat → Bool} {R : Nat → Rp} {k n : Nat} (hk : k < n) (h : p k = true) : selR (sel p n) R (sel p k).length = R k := by
  obtain ⟨r, hr⟩ := sel_pre (p := p) (k := k + 1) (n := n) hk
  have e : sel p (k + 1) = sel p k ++ [k] := by
    show sel p k ++ _ = _
    rw [if_pos h]
  unfold selR
  rw [hr, e, List.append_assoc, List.getElem?_append_right (Nat.le_refl _), Nat.sub_self]
  rfl
section
variable {S : Sta} {K : PySem.W.Frag} {te tl : TE} {ta : TA} {tt : TT} {n i : Nat} {R0 R : Nat → Rp} {p : Nat → Bool}
theorem evn_lcRF (hn : EVA S ta [Nt n]) (hl : n ≤ 1000) (ht : ∀ D m f k, k < n → ET (S.lc D m f i (Nt k)) tt (p k)) (he : ∀ D m f k, k < n → p k = true → EV (S.lc D m f i (Nt k)) te (R k)) : EVN S (tLc (iRng1 ta) (gName i) tt te [i]) (sel p n).length (selR (sel p n) R) := fun σ H st Q q =>
  hn σ H st _ fun vs H1 s1 ⟨v, r, e, ev, er⟩ => by
    have ev' : v = .int (n : Int) := ev
    have er' : r = [] := er
    subst ev' er' e
    refine ⟨(n : Int), rfl, by omega, by omega, fun D hD => ?_⟩
    have st1 := st.mono s1
    rw [Int.toNat_natCast]
    refine lc_range (fun k H' => Same H1 H' ∧ ∃ acc, H' D = some (.lst acc) ∧ acc.length = (sel p k).length ∧ ∀ j x, acc[j]? = some x → (selR (sel p n) R j).p (hid H' (D :: S.hd)) x) ⟨same_new hD, [], upd_same, rfl, fun j x z => by simp at z⟩ (fun k H' hk ⟨s2, acc, e1, e2, e3⟩ => ?_) fun H' ⟨s2, acc, e1, e2, e3⟩ => ?_
    · refine ⟨wipe1 σ i _, ?_⟩
      have sti := st1.inlc (i := i) (Rx := Nt k) (x := .int (0 + (k : Int))) hD s2 e1 e2 e3 (by show V.int (0 + (k : Int)) = V.int k; rw [Int.zero_add])
      refine ht D _ _ k hk _ H' sti _ fun H3 s3 => ?_
      have kp3 : Same (hid H' (D :: S.hd)) (hid H3 (D :: S.hd)) := hid_same s3
      cases hp : p k with
      | false =>
        rw [if_neg Bool.false_ne_true]
        exact ⟨s2.trans s3, acc, s3 _ _ e1, by rw [e2, sel_off hp], fun j x z => (selR (sel p n) R j).mono kp3 (e3 j x z)⟩
      | true =>
        rw [if_pos rfl]
        refine he D _ _ k hk hp _ H3 (sti.mono s3) _ fun y H4 s4 r4 => ?_
        have kp : Same (hid H' (D :: S.hd)) (hid H4 (D :: S.hd)) := hid_same (s3.trans s4)
        have le := sel_le (p := p) k
        refine ⟨acc, s4 _ _ (s3 _ _ e1), by rw [e2]; exact small1000 (by omega), fun b o z => ?_, _, upd_same, ?_⟩
        · rw [upd_ne (ne_of_none z hD)]
          exact s4 _ _ (s3 _ _ (s2 _ _ z))
        · rw [sel_on hp]
          exact st1.grow (R := selR (sel p n) R) hD ((s2.trans s3).trans s4) (s4 _ _ (s3 _ _ e1)) e2 (fun j x z => (selR (sel p n) R j).mono kp (e3 j x z)) (by rw [selR_at hk hp]; exact r4)
    · exact q D acc H' (s1.trans s2) (s1.free hD) e1 e2 e3
theorem evn_lcLF (hn : EV S tl (Li n R0)) (hl : n ≤ 1000) (ht : ∀ D m f k, k < n → ET (S.lc D m f i (R0 k)) tt (p k)) (he : ∀ D m f k, k < n → p k = true → EV (S.lc D m f i (R0 k)) te (R k)) : EVN S (tLc (iList K tl) (gName i) tt te [i]) (sel p n).length (selR (sel p n) R) := fun σ H st Q q =>
  hn σ H st _ fun v H1 s1 ⟨a, vs, e, hs, hlv, f⟩ => by
    subst e
    refine ⟨a, rfl, ⟨vs, .inl (.inl (hid_sub _ _ hs))⟩, fun D hD => ?_⟩
    have st1 := st.mono s1
    have ha : H1 a = some (.lst vs) := hid_sub _ _ hs
    refine lc_list (xs := vs) (fun k H' => Same H1 H' ∧ ∃ acc, H' D = some (.lst acc) ∧ acc.length = (sel p k).length ∧ ∀ j x, acc[j]? = some x → (selR (sel p n) R j).p (hid H' (D :: S.hd)) x) ⟨same_new hD, [], upd_same, rfl, fun j x z => by simp at z⟩ (fun k H' _ ⟨s2, _⟩ => .inl (.inl (s2 _ _ ha))) (fun k x H' hk ⟨s2, acc, e1, e2, e3⟩ => ?_) fun H' ⟨s2, acc, e1, e2, e3⟩ => ?_
    · refine ⟨wipe1 σ i _, ?_⟩
      have hkn : k < n := by rw [← hlv]; exact (List.getElem?_eq_some_iff.mp hk).1
      have sti := st1.inlc (i := i) (Rx := R0 k) (x := x) hD s2 e1 e2 e3 ((R0 k).mono (hid_fresh s2 hD) (f k x hk))
      refine ht D _ _ k hkn _ H' sti _ fun H3 s3 => ?_
      have kp3 : Same (hid H' (D :: S.hd)) (hid H3 (D :: S.hd)) := hid_same s3
      cases hp : p k with
      | false =>
        rw [if_neg Bool.false_ne_true]
        exact ⟨s2.trans s3, acc, s3 _ _ e1, by rw [e2, sel_off hp], fun j x z => (selR (sel p n) R j).mono kp3 (e3 j x z)⟩
      | true =>
        rw [if_pos rfl]
        refine he D _ _ k hkn hp _ H3 (sti.mono s3) _ fun y H4 s4 r4 => ?_
        have kp : Same (hid H' (D :: S.hd)) (hid H4 (D :: S.hd)) := hid_same (s3.trans s4)
        have le := sel_le (p := p) k
        refine ⟨acc, s4 _ _ (s3 _ _ e1), by rw [e2]; exact small1000 (by omega), fun b o z => ?_, _, upd_same, ?_⟩
        · rw [upd_ne (ne_of_none z hD)]
          exact s4 _ _ (s3 _ _ (s2 _ _ z))
        · rw [sel_on hp]
          exact st1.grow (R := selR (sel p n) R) hD ((s2.trans s3).trans s4) (s4 _ _ (s3 _ _ e1)) e2 (fun j x z => (selR (sel p n) R j).mono kp (e3 j x z)) (by rw [selR_at hkn hp]; exact r4)
    · rw [hlv] at e2
      exact q D acc H' (s1.trans s2) (s1.free hD) e1 e2 e3
end
/-! ### bounded fractions -/
abbrev BF (K : PySem.W.Frag) (a : Nat) : Rp := Exr (fun x => Bd a a x) (Fr K)
abbrev BFn (K : PySem.W.Frag) (a : Nat) : Rp := Exr (fun x => x ≠ 0 ∧ Bd a a x) (Fr K)
section
variable {K : PySem.W.Frag} {S : Sta} {ta tb te : TE} {a b c : Nat} {E : XK}
theorem bf_of {x : Rat} (h : Bd a b x) (ha : a ≤ c) (hb : b ≤ c) (H : Hp) (v : V) (r : (Fr K x).p H v) : (BF K c).p H v := ⟨x, h.mono ha hb, r⟩
theorem bf_mono (h : a ≤ b) (H : Hp) (v : V) (r : (BF K a).p H v) : (BF K b).p H v := by
  obtain ⟨x, q, r⟩ := r
  exact ⟨x, q.mono h h, r⟩
theorem al2 {R1 R2' : Rp} {H : Hp} {vs : List V} (h : AL [R1, R2'] H vs) : ∃ v u, vs = [v, u] ∧ R1.p H v ∧ R2'.p H u := by
  obtain ⟨v, r, e, h1, u, r2, e2, h2, e3⟩ := h
  have e3' : r2 = [] := e3
  subst e e2 e3'
  exact ⟨v, u, rfl, h1, h2⟩
theorem al2' {R1 R2' : Rp} {H : Hp} {v u : V} (h1 : R1.p H v) (h2 : R2'.p H u) : AL [R1, R2'] H [v, u] := ⟨v, [u], rfl, h1, u, [], rfl, h2, rfl⟩
theorem ev_addB (ha : EV S ta (BF K a)) (hb : EV S tb (BF K b)) (h : a + b ≤ 8990) (hc : a + b + 1 ≤ c) : EV S (tCall (sp_add K) [] E (tCons ta (tCons tb tNil))) (BF K c) :=
  ev_callE (eva_cons ha (eva_cons hb eva_nil)) fun H vs q => by
    obtain ⟨v, u, rfl, ⟨x, hx, rx⟩, y, hy, ry⟩ := al2 q
    exact ⟨(x, y), al2' rx ry, hx.ok2 hy (by omega), fun H' v r => bf_of (hx.add hy (e := a + b) (by omega) (by omega)) (by omega) (by omega) H' v r⟩
theorem ev_subB (ha : EV S ta (BF K a)) (hb : EV S tb (BF K b)) (h : a + b ≤ 8990) (hc : a + b + 1 ≤ c) : EV S (tCall (sp_sub K) [] E (tCons ta (tCons tb tNil))) (BF K c) :=
  ev_callE (eva_cons ha (eva_cons hb eva_nil)) fun H vs q => by
    obtain ⟨v, u, rfl, ⟨x, hx, rx⟩, y, hy, ry⟩ := al2 q
    exact ⟨(x, y), al2' rx ry, hx.ok2 hy (by omega), fun H' v r => bf_of (hx.sub hy (e := a + b) (by omega) (by omega)) (by omega) (by omega) H' v r⟩
theorem ev_mulB (ha : EV S ta (BF K a)) (hb : EV S tb (BF K b)) (h : a + b ≤ 8990) (hc : a + b ≤ c) : EV S (tCall (sp_mul K) [] E (tCons ta (tCons tb tNil))) (BF K c) :=
  ev_callE (eva_cons ha (eva_cons hb eva_nil)) fun H vs q => by
    obtain ⟨v, u, rfl, ⟨x, hx, rx⟩, y, hy, ry⟩ := al2 q
    exact ⟨(x, y), al2' rx ry, hx.ok2 hy (by omega), fun H' v r => bf_of (hx.mul hy) (by omega) (by omega) H' v r⟩
theorem ev_divB (ha : EV S ta (BF K a)) (hb : EV S tb (BFn K b)) (h : a + b ≤ 8990) (hc : a + b ≤ c) : EV S (tCall (sp_div K) [] E (tCons ta (tCons tb tNil))) (BF K c) :=
  ev_callE (eva_cons ha (eva_cons hb eva_nil)) fun H vs q => by
    obtain ⟨v, u, rfl, ⟨x, hx, rx⟩, y, ⟨hn, hy⟩, ry⟩ := al2 q
    exact ⟨(x, y), al2' rx ry, hx.okD hy hn (by omega), fun H' v r => bf_of (hx.div hy hn) (by omega) (by omega) H' v r⟩
theorem ev_lessB (ha : EV S ta (BF K a)) (hb : EV S tb (BF K b)) (h : a + b ≤ 8990) : EV S (tCall (sp_less K) [] E (tCons ta (tCons tb tNil))) BoU :=
  ev_callE (eva_cons ha (eva_cons hb eva_nil)) fun H vs q => by
    obtain ⟨v, u, rfl, ⟨x, hx, rx⟩, y, hy, ry⟩ := al2 q
    exact ⟨(x, y), al2' rx ry, ⟨hx.mid (by omega) (by omega), hy.mid (by omega) (by omega)⟩, fun H' v r => ⟨_, trivial, r⟩⟩
end
end BB
namespace BB
open PySem PySem.Spec PyProof.Rows L2
section
variable {P : Program} {w : World} {K : PySem.W.Frag} {mg : Str → Option Value} {base : Heap}
/-! ### leads -/
abbrev s_leads : Stmt := (topS 42)
theorem sc_leads : FnScope ["data", "table", "count", "result", "i", "found", "row", "j"] ["data"] (defScope s_leads) := ⟨rfl, rfl, rfl, by decide +kernel, rfl, by decide +kernel, by decide +kernel⟩

noncomputable def DataV.led (d : DataV) (i j : Nat) : Option Bool := BB.led d.c (stp d) i j
def sp_leads (K : PySem.W.Frag) : Sp := spR (fun z : DataV => [Dat K z]) DOk (fun z => TabR z.c z.led)
theorem ok_leads (G : Gb K mg) (F : Def0 K mg "leads" s_leads ["data"]) (d_step_table : DefOk P w K mg base "step_table" 6 ["data"] (sp_step_table K)) (d_find_in : DefOk P w K mg base "find_in" 1 ["table", "i"] (sp_find_in P w)) : DefOk P w K mg base "leads" 7 ["data"] (sp_leads K) := by
  refine okD F sc_leads (fun _ => rfl) (by decide) fun f cdv A outer s H E hr d D' => ⟨_, (pss_cons (ps_set (i := 1) sc_leads.nd rfl (.inl rfl) (pe_cd d_step_table (hr.mono (by decide)) (by rfl) (pa_cons (pv 0) pa_nil)))
        (pss_cons (ps_set (i := 2) sc_leads.nd rfl (.inl rfl) (pe_callB (r := rLenQ K) call_len_seq (by rfl) G.len PySem.boot_len (pa_cons (pe_fldK (K := K) rfl (pv 0) rfl) pa_nil)))
        (pss_cons (ps_set (i := 3) sc_leads.nd rfl (.inl rfl) (pe_lst pa_nil))
        (pss_cons (ps_for PassesOwn.never rfl (pi_range1 (by rfl) G.range (pa_cons (pv 2) pa_nil)) (pg_name (i := 4) sc_leads.nd rfl (.inl rfl)) (pss_cons (ps_set (i := 5) sc_leads.nd rfl (.inl rfl) (pe_cd d_find_in (hr.mono (by decide)) (by rfl) (pa_cons (pv 1) (pa_cons (pv 4) pa_nil))))
        (pss_cons (ps_set (i := 6) sc_leads.nd rfl (.inl rfl) (pe_lst pa_nil))
        (pss_cons (ps_for PassesOwn.never rfl (pi_range1 (by rfl) G.range (pa_cons (pv 2) pa_nil)) (pg_name (i := 7) sc_leads.nd rfl (.inl rfl)) (pss_one (ps_if (pt_cmp (pc_qin (P := P) (w := w) rfl rfl hr.units (pe_tup (pa_cons (pv 7) (pa_cons pe_bl pa_nil))) (pv 5))) (pss_one (ps_expr (pe_appK (K := K) rfl (pv 6) (pa_cons pe_bl pa_nil)))) (pss_one (ps_if (pt_cmp (pc_qin (P := P) (w := w) rfl rfl hr.units (pe_tup (pa_cons (pv 7) (pa_cons pe_bl pa_nil))) (pv 5))) (pss_one (ps_expr (pe_appK (K := K) rfl (pv 6) (pa_cons pe_bl pa_nil)))) (pss_one (ps_expr (pe_appK (K := K) rfl (pv 6) (pa_cons pe_non pa_nil)))))))))
        (pss_one (ps_expr (pe_appK (K := K) rfl (pv 3) (pa_cons (pv 6) pa_nil))))))))
        (pss_one (ps_ret (pv 3))))))), fun H0 N D rt => ?_⟩
  have hc := D'.c
  refine go_seq (go_set (ev_call d (eva_cons (ev_var rfl) eva_nil) D') (go_seq (go_set (R := Nt d.c) (ev_cb ct_len (eva_cons (ev_buys (ev_var rfl)) eva_nil)) (go_seq (go_new (evn_lst eva_nil) fun p => go_seq ?_)))))
  refine go_forR (n := d.c) (α := Unit) (fun k _ => ⟨H0, N, [(p, k, fun i => Li d.c fun j => Ob (d.led i j))], [some (Dat K d), some (TabR d.c (stp d)), some (Nt d.c), some (Pt p), none, none, none, none]⟩) (fun _ _ => True) (eva_cons (ev_var rfl) eva_nil) (by omega)
    ⟨(), trivial, fun σ H st => (st.mset rfl fun k hk => absurd hk (Nat.not_lt_zero k)).wk (by repeat first | exact Wk.nil | refine Wk.keep ?_ | refine Wk.drop ?_)⟩ (fun i _ hi _ => ?_) fun _ _ => ?_
  · refine go_seq (go_set (ev_call (⟨d.c, stp d, i⟩ : FinV) (eva_cons (ev_var rfl) (eva_cons (ev_var rfl) eva_nil)) ⟨show d.c ≤ 10 by omega, hi⟩) (go_seq (go_new (evn_lst eva_nil) fun q => go_seq ?_)))
    refine go_forR (n := d.c) (α := Unit) (fun j _ => ⟨H0, N, [(q, j, fun j => Ob (d.led i j)), (p, i, fun i => Li d.c fun j => Ob (d.led i j))], [some (Dat K d), some (TabR d.c (stp d)), some (Nt d.c), some (Pt p), some (Nt i), some (Dc P w (Rch d.c (stp d) i)), some (Pt q), none]⟩) (fun _ _ => True) (eva_cons (ev_var rfl) eva_nil) (by omega)
      ⟨(), trivial, fun σ H st => st.mset rfl fun k hk => absurd hk (Nat.not_lt_zero k)⟩ (fun j _ hj _ => ?_) fun _ _ => ?_
    · have fin : ∀ {te : TE} {nx : L2.St → Hp → Prop} {rt' : VK} {bk ct : L2.St → Hp → Prop}, (∀ {S : Sta}, EV S te (Ob (d.led i j))) → (∀ σ H, Stt ⟨H0, N, [(q, j + 1, fun j => Ob (d.led i j)), (p, i, fun i => Li d.c fun j => Ob (d.led i j))], [some (Dat K d), some (TabR d.c (stp d)), some (Nt d.c), some (Pt p), some (Nt i), some (Dc P w (Rch d.c (stp d) i)), some (Pt q), none]⟩ σ H → nx σ H) →
          Go ⟨H0, N, [(q, j, fun j => Ob (d.led i j)), (p, i, fun i => Li d.c fun j => Ob (d.led i j))], [some (Dat K d), some (TabR d.c (stp d)), some (Nt d.c), some (Pt p), some (Nt i), some (Dc P w (Rch d.c (stp d) i)), some (Pt q), some (Nt j)]⟩ (tDrop (tBM K "list" rAppend (tVar 6) (tCons te tNil)) ⟨nx, rt', bk, ct⟩) := fun he kk =>
        go_app (M1 := []) rfl rfl (by omega) he fun σ H st => kk σ H ((st.mset rfl (snoc_at (fun _ _ => rfl) rfl)).wk (by repeat first | exact Wk.nil | refine Wk.keep ?_ | refine Wk.drop ?_))
      have eky : ∀ {b : Bool} {M : Mt}, EV ⟨H0, N, M, [some (Dat K d), some (TabR d.c (stp d)), some (Nt d.c), some (Pt p), some (Nt i), some (Dc P w (Rch d.c (stp d) i)), some (Pt q), some (Nt j)]⟩ (tTup (tCons (tVar 7) (tCons (tC (.bl b)) tNil))) (Ky j b) := fun {b M} => ev_tupq (eva_cons (ev_var rfl) (eva_cons ev_bl eva_nil))
      refine go_if (et_B (ev_qin (c := decide (d.led i j = some true)) eky (ev_var rfl) (by rw [decide_eq_true_eq]; exact led_true))) (fun e => ?_) fun e => ?_
      · have e' : d.led i j = some true := of_decide_eq_true e
        exact fin (by rw [e']; exact fun {S} => ev_bl) fun σ H st => ⟨(), trivial, st⟩
      · have e' : ¬ d.led i j = some true := of_decide_eq_false e
        refine go_if (et_B (ev_qin (c := decide (d.led i j = some false)) eky (ev_var rfl) ?_)) (fun e2 => ?_) fun e2 => ?_
        · rw [decide_eq_true_eq]
          constructor
          · intro z
            obtain ⟨s, r⟩ := led_some (n := d.c) (st := stp d) (i := i) (j := j) (by
              show d.led i j ≠ none
              rw [z]; exact fun y => nomatch y)
            cases s with
            | false => exact r
            | true => exact absurd (led_true.mpr r) e'
          · intro r
            have h1 : d.led i j ≠ none := led_of r
            cases z : d.led i j with
            | none => exact absurd z h1
            | some s =>
              cases s with
              | false => rfl
              | true => exact absurd z e'
        · have e3 : d.led i j = some false := of_decide_eq_true e2
          exact fin (by rw [e3]; exact fun {S} => ev_bl) fun σ H st => ⟨(), trivial, st⟩
        · have e3 : d.led i j = none := by
            have e3 := of_decide_eq_false e2
            cases z : d.led i j with
            | none => rfl
            | some s =>
              cases s with
              | false => exact absurd z e3
              | true => exact absurd z e'
          exact fin (by rw [e3]; exact fun {S} => ev_non) fun σ H st => ⟨(), trivial, st⟩
    · refine go_freeze (i := 6) rfl rfl ?_
      refine go_app (M1 := []) rfl rfl (by omega) (ev_var rfl) fun σ H st => ⟨(), trivial, (st.mset rfl (snoc_at (fun _ _ => rfl) rfl)).wk (by repeat first | exact Wk.nil | refine Wk.keep ?_ | refine Wk.drop ?_)⟩
  · refine go_freeze (i := 3) rfl rfl ?_
    exact go_back rt (ev_var rfl)
/-! ### a basket against a row -/
abbrev s_keeps_row : Stmt := (topS 45)
theorem sc_keeps_row : FnScope ["data", "j", "strict", "basket", "price", "money"] ["data", "j", "strict", "basket"] (defScope s_keeps_row) := ⟨rfl, rfl, rfl, by decide +kernel, rfl, by decide +kernel, by decide +kernel⟩

structure KrV where
  d : DataV
  j : Nat
  b : Bool
  x : Nat → Rat
abbrev DataV.val (d : DataV) (j : Nat) (x : Nat → Rat) : Rat := sm d.g fun k => d.pr j k * x k
def keepsR (d : DataV) (j : Nat) (b : Bool) (x : Nat → Rat) : Bool := if b = true then decide (d.sp j < d.val j x) else decide (d.sp j ≤ d.val j x)
structure KrOk (z : KrV) : Prop where
  d : DOk z.d
  j : z.j < z.d.c
  x : ∀ k, k < z.d.g → Bd 1797 1765 (z.x k)
def sp_keeps_row (K : PySem.W.Frag) : Sp := spR (fun z : KrV => [Dat K z.d, Nt z.j, Bo z.b, Fl K z.d.g z.x]) KrOk (fun z => Bo (keepsR z.d z.j z.b z.x))
theorem ok_keeps_row (F : Def0 K mg "keeps_row" s_keeps_row ["data", "j", "strict", "basket"]) (d_cost : DefOk P w K mg base "cost" 4 ["prices", "amounts"] (sp_cost K)) (d_spent : DefOk P w K mg base "spent" 4 ["data", "i"] (sp_spent K))
    (d_at_most : DefOk P w K mg base "at_most" 1 ["a", "b"] (sp_at_most K)) (d_less : DefOk P w K mg base "less" 1 ["a", "b"] (sp_less K)) : DefOk P w K mg base "keeps_row" 5 ["data", "j", "strict", "basket"] (sp_keeps_row K) := by
  refine okD F sc_keeps_row (fun _ => rfl) (by decide) fun f cdv A outer s H E hr ⟨d, j, b, x⟩ h => ⟨_, (pss_cons (ps_set (i := 4) sc_keeps_row.nd rfl (.inl rfl) (pe_cd d_cost (hr.mono (by decide)) (by rfl) (pa_cons (pe_ix (r := rIxT K) ix_tup (pe_ix (r := rIxL K) ix_list (pe_fldK (K := K) rfl (pv 0) rfl) (pv 1) (fun _ _ => rfl)) pe_int (fun _ _ => rfl)) (pa_cons (pv 3) pa_nil))))
        (pss_cons (ps_set (i := 5) sc_keeps_row.nd rfl (.inl rfl) (pe_cd d_spent (hr.mono (by decide)) (by rfl) (pa_cons (pv 0) (pa_cons (pv 1) pa_nil))))
        (pss_cons (ps_if (pt_val (pv 2)) (pss_one (ps_ret (pe_cd d_less (hr.mono (by decide)) (by rfl) (pa_cons (pv 5) (pa_cons (pv 4) pa_nil))))) pss_nil)
        (pss_one (ps_ret (pe_cd d_at_most (hr.mono (by decide)) (by rfl) (pa_cons (pv 5) (pa_cons (pv 4) pa_nil)))))))), fun H0 N D rt => ?_⟩
  have D' : DOk d := h.d
  have hj : j < d.c := h.j
  obtain ⟨o1, b1⟩ := dot_ok D'.g (D'.pr j hj) h.x (by decide) (by decide) (by decide)
  obtain ⟨o2, b2⟩ := D'.dot hj hj
  have m1 : Mid (d.val j x) := b1.mid (by decide) (by decide)
  have m2 : Mid (d.sp j) := b2.mid (by decide) (by decide)
  refine go_seq (go_set (R := Fr K (d.val j x)) (ev_cost (ev_op (ot_ixT (k := 0) rfl rfl) (ev_op (ot_ixL rfl hj) (ev_buys (ev_var rfl)) (ev_var rfl)) ev_int) (ev_var rfl) o1) (go_seq (go_set (ev_spent (ev_var rfl) (ev_var rfl) hj o2) (go_seq ?_))))
  refine go_if (et_test (ev_var rfl)) (fun e => ?_) fun e => go_next ?_
  · have e' : b = true := e
    refine go_ret (R := Bo (keepsR d j b x)) (ev_eq (ev_less (ev_var rfl) (ev_var rfl) m2 m1) ?_) rt
    unfold keepsR
    rw [if_pos e']
  · have e' : ¬ b = true := by rw [show b = false from e]; exact Bool.false_ne_true
    refine go_ret (R := Bo (keepsR d j b x)) (ev_eq (ev_at_most (ev_var rfl) (ev_var rfl) m2 m1) ?_) rt
    unfold keepsR
    rw [if_neg e']
abbrev s_first_broken : Stmt := (topS 46)
theorem sc_first_broken : FnScope ["data", "rows", "basket", "j"] ["data", "rows", "basket"] (defScope s_first_broken) := ⟨rfl, rfl, rfl, by decide +kernel, rfl, by decide +kernel, by decide +kernel⟩

structure FbV where
  d : DataV
  T : Nat → Option Bool
  x : Nat → Rat
def FbS (d : DataV) (T : Nat → Option Bool) (x : Nat → Rat) : Option Nat → Prop
  | none => ∀ j, j < d.c → ∀ b, T j = some b → keepsR d j b x = true
  | some _ => True
abbrev Row (n : Nat) (T : Nat → Option Bool) : Rp := Li n fun j => Ob (T j)
def sp_first_broken (K : PySem.W.Frag) : Sp := spR (fun z : FbV => [Dat K z.d, Row z.d.c z.T, Fl K z.d.g z.x]) (fun z => DOk z.d ∧ ∀ k, k < z.d.g → Bd 1797 1765 (z.x k)) (fun z => Exr (FbS z.d z.T z.x) On)
theorem ob_some {S : Sta} {te : TE} {b : Bool} (h : EV S te (Ob (some b))) : EV S te (Bo b) := ev_sub h fun _ _ q => q
theorem ok_first_broken (G : Gb K mg) (F : Def0 K mg "first_broken" s_first_broken ["data", "rows", "basket"]) (d_keeps_row : DefOk P w K mg base "keeps_row" 5 ["data", "j", "strict", "basket"] (sp_keeps_row K)) : DefOk P w K mg base "first_broken" 6 ["data", "rows", "basket"] (sp_first_broken K) := by
  refine okD F sc_first_broken (fun _ => rfl) (by decide) fun f cdv A outer s H E hr ⟨d, T, x⟩ h => ⟨_, (pss_cons (ps_for PassesOwn.never rfl (pi_range1 (by rfl) G.range (pa_cons (pe_callB (r := rLenQ K) call_len_seq (by rfl) G.len PySem.boot_len (pa_cons (pv 1) pa_nil)) pa_nil)) (pg_name (i := 3) sc_first_broken.nd rfl (.inl rfl)) (pss_one (ps_if (PW.pt (pw_and (pt_cmpR op_notN (pe_ix (r := rIxL K) ix_list (pv 1) (pv 3) (fun _ _ => rfl)) pe_non (nomark _)) (pw_and1 (pt_not (pt_val (pe_cd d_keeps_row (hr.mono (by decide)) (by rfl) (pa_cons (pv 0) (pa_cons (pv 3) (pa_cons (pe_ix (r := rIxL K) ix_list (pv 1) (pv 3) (fun _ _ => rfl)) (pa_cons (pv 2) pa_nil)))))))))) (pss_one (ps_ret (pv 3))) pss_nil)))
        (pss_one (ps_ret pe_non))), fun H0 N D rt => ?_⟩
  have D' : DOk d := h.1
  have hc := D'.c
  refine go_seq ?_
  refine go_forR (n := d.c) (α := Unit) (fun k _ => ⟨H0, N, [], [some (Dat K d), some (Row d.c T), some (Fl K d.g x), none]⟩) (fun k _ => ∀ j, j < k → ∀ b, T j = some b → keepsR d j b x = true) (eva_cons (ev_cb ct_len (eva_cons (ev_var rfl) eva_nil)) eva_nil) (by omega)
    ⟨(), fun j hj => absurd hj (Nat.not_lt_zero j), fun σ H st => st⟩ (fun k _ hk I => ?_) fun _ I => go_ex (f := On) rt none I ev_non
  have er : ∀ {M : Mt}, EV ⟨H0, N, M, [some (Dat K d), some (Row d.c T), some (Fl K d.g x), some (Nt k)]⟩ (tOp (rIxL K) (tVar 1) (tVar 3)) (Ob (T k)) := fun {M} => ev_op (ot_ixL (R := fun j => Ob (T j)) rfl hk) (ev_var rfl) (ev_var rfl)
  have nxt : (∀ b, T k = some b → keepsR d k b x = true) → ∀ j, j < k + 1 → ∀ b, T j = some b → keepsR d j b x = true := fun hh j hj => by
    by_cases c : j = k
    · rw [c]; exact hh
    · exact I j (by omega)
  cases eT : T k with
  | none =>
    rw [eT] at er
    exact go_if (et_and (b := false) (et_test (ev_op (ot_notN ob_none) er ev_non)) fun e => by cases e) (fun e => by cases e) fun _ => go_next fun σ H st => ⟨(), nxt fun b e => (by rw [eT] at e; cases e), st.wk (by repeat first | exact Wk.nil | refine Wk.keep ?_ | refine Wk.drop ?_)⟩
  | some b =>
    rw [eT] at er
    refine go_if (et_and (et_test (ev_op (ot_notN ob_none) er ev_non)) fun _ => et_not (et_B (ev_call (⟨d, k, b, x⟩ : KrV) (eva_cons (ev_var rfl) (eva_cons (ev_var rfl) (eva_cons (ob_some er) (eva_cons (ev_var rfl) eva_nil)))) ⟨D', hk, h.2⟩))) (fun e => ?_) fun e => go_next fun σ H st => ⟨(), nxt fun b' e' => ?_, st.wk (by repeat first | exact Wk.nil | refine Wk.keep ?_ | refine Wk.drop ?_)⟩
    · exact go_ex (f := On) rt (some k) trivial (ev_var rfl)
    · rw [eT] at e'
      cases e'
      simpa using e
end
end BB
namespace BB
open PySem PySem.Spec PyProof.Rows L2
theorem li_sub {n : Nat} {f f' : Nat → Rp} (h : ∀ k, k < n → ∀ H v, (f k).p H v → (f' k).p H v) (H : Hp) (v : V) (r : (Li n f).p H v) : (Li n f').p H v := by
  obtain ⟨a, vs, e, h1, h2, h3⟩ := r
  exact ⟨a, vs, e, h1, h2, fun k x z => h k (by rw [← h2]; exact (List.getElem?_eq_some_iff.mp z).1) _ _ (h3 k x z)⟩
inductive Mw : Mt → Mt → Prop
  | nil : Mw [] []
  | keep {q : Addr × Nat × (Nat → Rp)} {M M' : Mt} : Mw M M' → Mw (q :: M) (q :: M')
  | sub {p : Addr} {n : Nat} {f f' : Nat → Rp} {M M' : Mt} : (∀ k, k < n → ∀ H v, (f k).p H v → (f' k).p H v) → Mw M M' → Mw ((p, n, f) :: M) ((p, n, f') :: M')
theorem Mw.adr {M M' : Mt} (h : Mw M M') : adr M = adr M' := by
  induction h with
  | nil => rfl
  | keep _ ih => exact congrArg (List.cons _) ih
  | sub _ _ ih => exact congrArg (List.cons _) ih
theorem Mw.lm {M M' : Mt} {A B : Hp} (h : Mw M M') (l : LM M A B) : LM M' A B := by
  induction h with
  | nil => exact l
  | @keep q' M1 M2 _ ih =>
    intro q hq
    rcases List.mem_cons.mp hq with e | e
    · rw [e]; exact l q' (List.mem_cons_self ..)
    · exact ih (fun q hq => l q (List.mem_cons_of_mem _ hq)) q e
  | @sub p n f f' M1 M2 g _ ih =>
    intro q hq
    rcases List.mem_cons.mp hq with e | e
    · subst e
      obtain ⟨vs, a, b, c⟩ := l (p, n, f) (List.mem_cons_self ..)
      have b' : vs.length = n := b
      exact ⟨vs, a, b, fun k x z => g k (by rw [← b']; exact (List.getElem?_eq_some_iff.mp z).1) _ _ (c k x z)⟩
    · exact ih (fun q hq => l q (List.mem_cons_of_mem _ hq)) q e
theorem Stt.mw {H0 : Hp} {N : List Addr} {M M' : Mt} {Γ : List (Option Rp)} {σ : L2.St} {H : Hp} (st : Stt ⟨H0, N, M, Γ⟩ σ H) (h : Mw M M') : Stt ⟨H0, N, M', Γ⟩ σ H := by
  have e := h.adr
  refine ⟨st.same, st.nold, fun q hq => ?_, ?_, st.len, ?_, ?_⟩
  · have : q.1 ∈ adr M := by
      rw [e]
      exact List.mem_map.mpr ⟨q, hq, rfl⟩
    obtain ⟨r, hr, e2⟩ := List.mem_map.mp this
    rw [← e2]
    exact st.mnew r hr
  · have := h.lm st.mem
    show LM M' (hid H (adr M' ++ N)) H
    rw [← e]; exact this
  · show ∀ (i : Nat) (R : Rp), Γ[i]? = some (some R) → ∃ v, σ[i]? = some (some v) ∧ R.p (hid H (adr M' ++ N)) v
    rw [← e]; exact st.sl
  · show (adr M').Nodup
    rw [← e]; exact st.nd
section
variable {P : Program} {w : World} {K : PySem.W.Frag} {mg : Str → Option Value} {base : Heap}
/-! ### next_class -/
abbrev s_next_class : Stmt := (topS 50)
theorem sc_next_class : FnScope ["table", "done", "count", "i", "free", "j"] ["table", "done"] (defScope s_next_class) := ⟨rfl, rfl, rfl, by decide +kernel, rfl, by decide +kernel, by decide +kernel⟩

structure NcV where
  n : Nat
  T : Nat → Nat → Option Bool
  dn : Nat → Bool
structure NcS (z : NcV) (ms : List Nat) : Prop where
  len : ms.length ≤ z.n
  lt : ∀ x ∈ ms, x < z.n
  ok : ms = [] ∨ ∃ i, i < z.n ∧ z.dn i = false ∧ (∀ j, j < z.n → z.dn j = false → z.T j i ≠ none → z.T i j ≠ none) ∧ ∀ x, x ∈ ms ↔ x < z.n ∧ z.T i x ≠ none ∧ z.T x i ≠ none
abbrev IL (ms : List Nat) : Rp := Il ms.length fun t => ms.getD t 0
abbrev Bl (n : Nat) (f : Nat → Bool) : Rp := Li n fun k => Bo (f k)
def sp_next_class : Sp := spR (fun z : NcV => [TabR z.n z.T, Bl z.n z.dn]) (fun z => z.n ≤ 10) (fun z => Exr (NcS z) IL)
theorem isn_iff {o : Option Bool} : (!o.isNone) = true ↔ o ≠ none := by cases o <;> simp
theorem ok_next_class (G : Gb K mg) (F : Def0 K mg "next_class" s_next_class ["table", "done"]) : DefOk P w K mg base "next_class" 1 ["table", "done"] sp_next_class := by
  refine okD F sc_next_class (fun _ => rfl) (by decide) fun f cdv A outer s H E hr ⟨n, T, dn⟩ h => ⟨_, (pss_cons (ps_set (i := 2) sc_next_class.nd rfl (.inl rfl) (pe_callB (r := rLenQ K) call_len_seq (by rfl) G.len PySem.boot_len (pa_cons (pv 0) pa_nil)))
        (pss_cons (ps_for PassesOwn.never rfl (pi_range1 (by rfl) G.range (pa_cons (pv 2) pa_nil)) (pg_name (i := 3) sc_next_class.nd rfl (.inr rfl)) (pss_one (ps_if (pt_not (pt_val (pe_ix (r := rIxL K) ix_list (pv 1) (pv 3) (fun _ _ => rfl)))) (pss_cons (ps_set (i := 4) sc_next_class.nd rfl (.inl rfl) pe_bl)
        (pss_cons (ps_for PassesOwn.never rfl (pi_range1 (by rfl) G.range (pa_cons (pv 2) pa_nil)) (pg_name (i := 5) sc_next_class.nd rfl (.inl rfl)) (pss_one (ps_if (PW.pt (pw_and (pt_not (pt_val (pe_ix (r := rIxL K) ix_list (pv 1) (pv 5) (fun _ _ => rfl)))) (pw_and (pt_cmpR op_notN (pe_ix (r := rIxL K) ix_list (pe_ix (r := rIxL K) ix_list (pv 0) (pv 5) (fun _ _ => rfl)) (pv 3) (fun _ _ => rfl)) pe_non (nomark _)) (pw_and1 (pt_cmpR op_isN (pe_ix (r := rIxL K) ix_list (pe_ix (r := rIxL K) ix_list (pv 0) (pv 3) (fun _ _ => rfl)) (pv 5) (fun _ _ => rfl)) pe_non (nomark _)))))) (pss_one (ps_set (i := 4) sc_next_class.nd rfl (.inl rfl) pe_bl)) pss_nil)))
        (pss_one (ps_if (pt_val (pv 4)) (pss_one (ps_ret (pe_lc (own := [("j", 5)]) (g := (gName 5)) (tt := _) rfl sc_next_class.nd (pi_range1 (by rfl) G.range (pa_cons (pv 2) pa_nil)) (blkOk_by (N := ["table", "done", "count", "i", "free", "j"]) (own := [("j", 5)]) (sc := (defScope s_next_class)) (by decide +kernel)) (fun _ _ _ _ _ => (pg_name (i := 5) sc_next_class.nd rfl (.inl rfl))) (fun _ _ _ _ _ => pts_one (PW.pt (pw_and (pt_cmpR op_notN (pe_ix (r := rIxL K) ix_list (pe_ix (r := rIxL K) ix_list (pv 0) (pv 3) (fun _ _ => rfl)) (pv 5) (fun _ _ => rfl)) pe_non (nomark _)) (pw_and1 (pt_cmpR op_notN (pe_ix (r := rIxL K) ix_list (pe_ix (r := rIxL K) ix_list (pv 0) (pv 5) (fun _ _ => rfl)) (pv 3) (fun _ _ => rfl)) pe_non (nomark _)))))) (fun _ _ _ _ _ => (pv 5))))) pss_nil)))) pss_nil)))
        (pss_one (ps_ret (pe_lst pa_nil))))), fun H0 N D rt => ?_⟩
  have hn : n ≤ 10 := h
  refine go_seq (go_set (R := Nt n) (ev_cb ct_len (eva_cons (ev_var rfl) eva_nil)) (go_seq ?_))
  refine go_forR (n := n) (α := Unit) (fun i _ => ⟨H0, N, [], [some (TabR n T), some (Bl n dn), some (Nt n), none, none, none]⟩) (fun _ _ => True) (eva_cons (ev_var rfl) eva_nil) (by omega) ⟨(), trivial, fun σ H st => st⟩ (fun i _ hi _ => ?_) fun _ _ => ?_
  · have eT : ∀ {S : Sta} {a b : Nat} {x y : Nat}, S.Γ[0]? = some (some (TabR n T)) → S.Γ[x]? = some (some (Nt a)) → S.Γ[y]? = some (some (Nt b)) → a < n → b < n → EV S (tOp (rIxL K) (tOp (rIxL K) (tVar 0) (tVar x)) (tVar y)) (Ob (T a b)) := fun {S a b x y} h0 hx hy ha hb =>
      ev_op (ot_ixL (R := fun j => Ob (T a j)) rfl hb) (ev_op (ot_ixL (R := fun i => Li n fun j => Ob (T i j)) rfl ha) (ev_var h0) (ev_var hx)) (ev_var hy)
    refine go_if (et_not (et_test (ev_op (ot_ixL (R := fun k => Bo (dn k)) rfl hi) (ev_var rfl) (ev_var rfl)))) (fun e => ?_) fun e => go_next fun σ H st => ⟨(), trivial, st.wk (by repeat first | exact Wk.nil | refine Wk.keep ?_ | refine Wk.drop ?_)⟩
    have hdi : dn i = false := by simpa using e
    refine go_seq (go_set ev_bl (go_seq ?_))
    refine go_forR (n := n) (α := Bool) (fun j b => ⟨H0, N, [], [some (TabR n T), some (Bl n dn), some (Nt n), some (Nt i), some (Bo b), none]⟩) (fun k b => b = true → ∀ j, j < k → dn j = false → T j i ≠ none → T i j ≠ none) (eva_cons (ev_var rfl) eva_nil) (by omega)
      ⟨true, fun _ j hj => absurd hj (Nat.not_lt_zero j), fun σ H st => st⟩ (fun j b hj I => ?_) fun b I => ?_
    · refine go_if (et_and (et_not (et_test (ev_op (ot_ixL (R := fun k => Bo (dn k)) rfl hj) (ev_var rfl) (ev_var rfl)))) fun _ => et_and (et_test (ev_op (ot_notN ob_none) (eT rfl rfl rfl hj hi) ev_non)) fun _ => et_test (ev_op (ot_isN ob_none) (eT rfl rfl rfl hi hj) ev_non)) (fun e => ?_) fun e => go_next fun σ H st => ⟨b, fun hb k hk h1 h2 h3 => ?_, st.wk (by repeat first | exact Wk.nil | refine Wk.keep ?_ | refine Wk.drop ?_)⟩
      · exact go_set ev_bl fun σ H st => ⟨false, (fun z => nomatch z), st.wk (by repeat first | exact Wk.nil | refine Wk.keep ?_ | refine Wk.drop ?_)⟩
      · by_cases c : k = j
        · subst c
          rw [h1] at e
          cases e1 : T k i with
          | none => exact h2 e1
          | some a =>
            rw [e1, h3] at e
            cases e
        · exact I hb k (by omega) h1 h2 h3
    · refine go_if (et_test (ev_var rfl)) (fun e => ?_) fun e => go_next fun σ H st => ⟨(), trivial, st.wk (by repeat first | exact Wk.nil | refine Wk.keep ?_ | refine Wk.drop ?_)⟩
      have I' := I e
      refine go_ex (f := IL) rt (sel (fun j => !(T i j).isNone && !(T j i).isNone) n) ⟨sel_le n, fun x hx => (sel_mem.mp hx).1, .inr ⟨i, hi, hdi, I', fun x => ?_⟩⟩ (ev_sub (evn_lcRF (n := n) (R := Nt) (eva_cons (ev_var rfl) eva_nil) (by omega) (fun D m f k hk => et_and (et_test (ev_op (ot_notN ob_none) (eT rfl rfl rfl hi hk) ev_non)) fun _ => et_test (ev_op (ot_notN ob_none) (eT rfl rfl rfl hk hi) ev_non)) fun D m f k hk _ => ev_var rfl).ev (li_sub fun t ht H v r => ?_))
      · rw [sel_mem]
        show x < n ∧ (!(T i x).isNone && !(T x i).isNone) = true ↔ _
        rw [Bool.and_eq_true, isn_iff, isn_iff]
      · unfold selR at r
        rw [List.getElem?_eq_getElem ht] at r
        show (Nt ((sel (fun j => !(T i j).isNone && !(T j i).isNone) n).getD t 0)).p H v
        rw [List.getD_eq_getElem?_getD, List.getElem?_eq_getElem ht]
        exact r
  · exact go_ex (f := IL) rt [] ⟨Nat.zero_le _, fun x hx => (nomatch hx), .inl rfl⟩ (ev_sub (evn_lst eva_nil).ev (li_sub fun k hk => absurd hk (Nat.not_lt_zero k)))
/-! ### plane -/
abbrev s_plane : Stmt := (topS 48)
theorem sc_plane : FnScope ["data", "taste", "i", "basket", "numbers", "weights"] ["data", "taste", "i", "basket"] (defScope s_plane) := ⟨rfl, rfl, rfl, by decide +kernel, rfl, by decide +kernel, by decide +kernel⟩

structure PlV where
  d : DataV
  a : Nat
  b : Nat
  i : Nat
  j : Nat
structure PlOk (z : PlV) : Prop where
  d : DOk z.d
  i : z.i < z.d.c
  j : z.j < z.d.c
  ab : z.a + z.b ≤ 4000
abbrev Tst (K : PySem.W.Frag) (c a b : Nat) : Rp := Tp K [Li c fun _ => BF K a, Li c fun _ => BF K b]
def sp_plane (K : PySem.W.Frag) : Sp := spR (fun z : PlV => [Dat K z.d, Tst K z.d.c z.a z.b, Nt z.i, Fl K z.d.g (z.d.am z.j)]) PlOk (fun z => BF K (z.a + z.b + 334))
theorem ok_plane (F : Def0 K mg "plane" s_plane ["data", "taste", "i", "basket"]) (d_cost : DefOk P w K mg base "cost" 4 ["prices", "amounts"] (sp_cost K)) (d_spent : DefOk P w K mg base "spent" 4 ["data", "i"] (sp_spent K))
    (d_add : DefOk P w K mg base "add" 2 ["a", "b"] (sp_add K)) (d_mul : DefOk P w K mg base "mul" 2 ["a", "b"] (sp_mul K)) (d_sub : DefOk P w K mg base "sub" 2 ["a", "b"] (sp_sub K)) : DefOk P w K mg base "plane" 5 ["data", "taste", "i", "basket"] (sp_plane K) := by
  refine okD F sc_plane (fun _ => rfl) (by decide) fun f cdv A outer s H E hr ⟨d, a, b, i, j⟩ h => ⟨_, (pss_cons (ps_asg (pv 1) (pg_tupK (K := K) rfl (by rfl) (pgs_cons (pg_name (i := 4) sc_plane.nd rfl (.inl rfl)) (pgs_cons (pg_name (i := 5) sc_plane.nd rfl (.inl rfl)) pgs_nil))))
        (pss_one (ps_ret (pe_cd d_add (hr.mono (by decide)) (by rfl) (pa_cons (pe_ix (r := rIxL K) ix_list (pv 4) (pv 2) (fun _ _ => rfl)) (pa_cons (pe_cd d_mul (hr.mono (by decide)) (by rfl) (pa_cons (pe_ix (r := rIxL K) ix_list (pv 5) (pv 2) (fun _ _ => rfl)) (pa_cons (pe_cd d_sub (hr.mono (by decide)) (by rfl) (pa_cons (pe_cd d_cost (hr.mono (by decide)) (by rfl) (pa_cons (pe_ix (r := rIxT K) ix_tup (pe_ix (r := rIxL K) ix_list (pe_fldK (K := K) rfl (pv 0) rfl) (pv 2) (fun _ _ => rfl)) pe_int (fun _ _ => rfl)) (pa_cons (pv 3) pa_nil))) (pa_cons (pe_cd d_spent (hr.mono (by decide)) (by rfl) (pa_cons (pv 0) (pa_cons (pv 2) pa_nil))) pa_nil))) pa_nil))) pa_nil)))))), fun H0 N D rt => ?_⟩
  have D' : DOk d := h.d
  have hi : i < d.c := h.i
  have hj : j < d.c := h.j
  have hab : a + b ≤ 4000 := h.ab
  obtain ⟨o1, b1⟩ := D'.dot hi hj
  obtain ⟨o2, b2⟩ := D'.dot hi hi
  refine go_seq (go_asg (ev_var rfl) (gt_tup rfl (gl_cons (gl_cons gl_nil))) ?_)
  refine go_back (R := BF K (a + b + 334)) rt (ev_addB (a := a) (b := b + 333) (ev_op (ot_ixL (R := fun _ => BF K a) rfl hi) (ev_var rfl) (ev_var rfl)) (ev_mulB (a := b) (b := 333) (ev_op (ot_ixL (R := fun _ => BF K b) rfl hi) (ev_var rfl) (ev_var rfl)) (ev_subB (a := 166) (b := 166) (ev_sub (ev_cost (ev_op (ot_ixT (k := 0) rfl rfl) (ev_op (ot_ixL rfl hi) (ev_buys (ev_var rfl)) (ev_var rfl)) ev_int) (ev_var rfl) o1) (bf_of b1 (by omega) (by omega))) (ev_sub (ev_spent (ev_var rfl) (ev_var rfl) hi o2) (bf_of b2 (by omega) (by omega))) (by omega) (by omega)) (by omega) (by omega)) (by omega) (by omega))
/-! ### class_number, member_weight -/
abbrev s_class_number : Stmt := (topS 51)
theorem sc_class_number : FnScope ["data", "taste", "done", "members", "numbers", "best", "k", "found", "value", "j"] ["data", "taste", "done", "members"] (defScope s_class_number) := ⟨rfl, rfl, rfl, by decide +kernel, rfl, by decide +kernel, by decide +kernel⟩

structure CnV where
  d : DataV
  a : Nat
  b : Nat
  dn : Nat → Bool
  ms : List Nat
structure CnOk (z : CnV) : Prop where
  d : DOk z.d
  ab : z.a + z.b ≤ 3500
  l : z.ms.length ≤ 10
  m : ∀ x ∈ z.ms, x < z.d.c
def sp_class_number (K : PySem.W.Frag) : Sp := spR (fun z : CnV => [Dat K z.d, Tst K z.d.c z.a z.b, Bl z.d.c z.dn, IL z.ms]) CnOk (fun z => Exr (fun x => Bd (z.a + z.b + 336) (z.a + z.b + 336) x ∧ ((∀ k, k < z.d.c → z.dn k = false) → x = 0)) (Fr K))
def bstR (K : PySem.W.Frag) (B : Nat) : Bool → Rp
  | false => No
  | true => BF K B
theorem getD_mem {ms : List Nat} {t : Nat} (h : t < ms.length) : ms.getD t 0 ∈ ms := by
  rw [List.getD_eq_getElem?_getD, List.getElem?_eq_getElem h]
  exact List.getElem_mem h
theorem bf_none {B : Nat} (H : Hp) (v : V) (h : (BF K B).p H v) : decide (v = .non) = false := by
  obtain ⟨x, _, a, vs, e, _⟩ := h
  exact ref_none e
theorem ok_class_number (G : Gb K mg) (F : Def0 K mg "class_number" s_class_number ["data", "taste", "done", "members"]) (d_plane : DefOk P w K mg base "plane" 5 ["data", "taste", "i", "basket"] (sp_plane K)) (d_less : DefOk P w K mg base "less" 1 ["a", "b"] (sp_less K))
    (d_sub : DefOk P w K mg base "sub" 2 ["a", "b"] (sp_sub K)) : DefOk P w K mg base "class_number" 6 ["data", "taste", "done", "members"] (sp_class_number K) := by
  refine okD F sc_class_number (fun _ => rfl) (by decide) fun f cdv A outer s H E hr ⟨d, a, b, dn, ms⟩ h => ⟨_, (pss_cons (ps_set (i := 4) sc_class_number.nd rfl (.inl rfl) (pe_ix (r := rIxT K) ix_tup (pv 1) pe_int (fun _ _ => rfl)))
        (pss_cons (ps_set (i := 5) sc_class_number.nd rfl (.inl rfl) pe_non)
        (pss_cons (ps_for PassesOwn.never rfl (pi_range1 (by rfl) G.range (pa_cons (pe_callB (r := rLenQ K) call_len_seq (by rfl) G.len PySem.boot_len (pa_cons (pv 2) pa_nil)) pa_nil)) (pg_name (i := 6) sc_class_number.nd rfl (.inr rfl)) (pss_one (ps_if (pt_val (pe_ix (r := rIxL K) ix_list (pv 2) (pv 6) (fun _ _ => rfl))) (pss_cons (ps_set (i := 7) sc_class_number.nd rfl (.inl rfl) (pe_op op_cat (pe_lst (pa_cons (pe_ix (r := rIxL K) ix_list (pv 4) (pv 6) (fun _ _ => rfl)) pa_nil)) (pe_lc (own := [("j", 9)]) (g := (gName 9)) (tt := tYes) rfl sc_class_number.nd (pi_listK (K := K) rfl (pv 3)) (blkOk_by (N := ["data", "taste", "done", "members", "numbers", "best", "k", "found", "value", "j"]) (own := [("j", 9)]) (sc := (defScope s_class_number)) (by decide +kernel)) (fun _ _ _ _ _ => (pg_name (i := 9) sc_class_number.nd rfl (.inl rfl))) (fun _ _ _ _ _ => pts_nil) (fun _ _ _ _ _ => (pe_cd d_plane (hr.mono (by decide)) (by rfl) (pa_cons (pv 0) (pa_cons (pv 1) (pa_cons (pv 6) (pa_cons (pe_ix (r := rIxT K) ix_tup (pe_ix (r := rIxL K) ix_list (pe_fldK (K := K) rfl (pv 0) rfl) (pv 9) (fun _ _ => rfl)) pe_int (fun _ _ => rfl)) pa_nil)))))))))
        (pss_one (ps_for PassesOwn.never rfl (pi_listK (K := K) rfl (pv 7)) (pg_name (i := 8) sc_class_number.nd rfl (.inl rfl)) (pss_one (ps_if (PW.pt (pw_or (pt_cmpR op_isN (pv 5) pe_non (nomark _)) (pw_or1 (pt_val (pe_cd d_less (hr.mono (by decide)) (by rfl) (pa_cons (pv 8) (pa_cons (pv 5) pa_nil))))))) (pss_one (ps_set (i := 5) sc_class_number.nd rfl (.inl rfl) (pv 8))) pss_nil))))) pss_nil)))
        (pss_cons (ps_if (pt_cmpR op_isN (pv 5) pe_non (nomark _)) (pss_one (ps_ret (pe_glob (v := .ref G.zero.choose) rfl G.zero.choose_spec.1 rfl))) pss_nil)
        (pss_one (ps_ret (pe_cd d_sub (hr.mono (by decide)) (by rfl) (pa_cons (pv 5) (pa_cons (pe_glob (v := .ref G.one.choose) rfl G.one.choose_spec.1 rfl) pa_nil))))))))), fun H0 N D rt => ?_⟩
  have D' : DOk d := h.d
  have hab : a + b ≤ 3500 := h.ab
  have hl : ms.length ≤ 10 := h.l
  have hms : ∀ x ∈ ms, x < d.c := h.m
  have hc := D'.c
  refine go_seq (go_set (R := Li d.c fun _ => BF K a) (ev_op (ot_ixT (k := 0) rfl rfl) (ev_var rfl) ev_int) (go_seq (go_set ev_non (go_seq ?_))))
  refine go_forR (n := d.c) (α := Hp × Bool) (fun k z => ⟨z.1, N, [], [some (Dat K d), some (Tst K d.c a b), some (Bl d.c dn), some (IL ms), some (Li d.c fun _ => BF K a), some (bstR K (a + b + 334) z.2), none, none, none, none]⟩) (fun k z => Same H0 z.1 ∧ ((∀ j, j < k → dn j = false) → z.2 = false)) (eva_cons (ev_cb ct_len (eva_cons (ev_var rfl) eva_nil)) eva_nil) (by omega)
    ⟨(H0, false), ⟨Same.refl _, fun _ => rfl⟩, fun σ H st => st.wk (by repeat first | exact Wk.nil | refine Wk.keep ?_ | refine Wk.drop ?_)⟩ (fun k ⟨B0, o⟩ hk ⟨sB, I⟩ => ?_) fun ⟨B0, o⟩ ⟨sB, I⟩ => ?_
  · refine go_if (et_test (ev_op (ot_ixL (R := fun k => Bo (dn k)) rfl hk) (ev_var rfl) (ev_var rfl))) (fun e => ?_) fun e => go_next fun σ H st => ⟨(B0, o), ⟨sB, fun hh => I fun j hj => hh j (by omega)⟩, st.wk (by repeat first | exact Wk.nil | refine Wk.keep ?_ | refine Wk.drop ?_)⟩
    have hdk : dn k = true := e
    refine go_seq (go_set (R := Li (1 + ms.length) fun _ => BF K (a + b + 334)) (ev_sub (evn_cat (n := 1) (m := ms.length) (R' := fun _ => BF K (a + b + 334)) (evn_lst (eva_cons (ev_op (ot_ixL (R := fun _ => BF K a) rfl hk) (ev_var rfl) (ev_var rfl)) eva_nil)).ev (evn_lcL (n := ms.length) (ev_var rfl) (by omega) fun Dq t ht => ev_call (⟨d, a, b, k, ms.getD t 0⟩ : PlV) (eva_cons (ev_var rfl) (eva_cons (ev_var rfl) (eva_cons (ev_var rfl) (eva_cons (ev_op (ot_ixT (k := 1) rfl rfl) (ev_op (ot_ixL (R := fun i => Buy K d.g (d.pr i) (d.am i)) rfl (hms _ (getD_mem ht))) (ev_buys (ev_var rfl)) (ev_var rfl)) ev_int) eva_nil)))) ⟨D', hk, hms _ (getD_mem ht), show a + b ≤ 4000 by omega⟩).ev (by omega)).ev (li_sub fun t ht H v r => ?_)) ?_)
    · unfold glue at r
      by_cases c : t < 1
      · rw [if_pos c] at r
        have : t = 0 := by omega
        subst this
        exact bf_mono (by omega) H v r
      · rw [if_neg c] at r
        exact r
    refine go_forL (α := Bool) (fun G' t o => ⟨G', N, [], [some (Dat K d), some (Tst K d.c a b), some (Bl d.c dn), some (IL ms), some (Li d.c fun _ => BF K a), some (bstR K (a + b + 334) o), some (Nt k), some (Li (1 + ms.length) fun _ => BF K (a + b + 334)), none, none]⟩)
      (fun G' t o => ⟨G', N, [], [some (Dat K d), some (Tst K d.c a b), some (Bl d.c dn), some (IL ms), some (Li d.c fun _ => BF K a), some (bstR K (a + b + 334) o), some (Nt k), some (Li (1 + ms.length) fun _ => BF K (a + b + 334)), some (BF K (a + b + 334)), none]⟩) (fun _ _ => True) (ev_var rfl) (fun _ _ _ => ⟨rfl, rfl, rfl⟩) (fun G' => ⟨o, trivial, fun σ H st => st.wk (by repeat first | exact Wk.nil | refine Wk.keep ?_ | refine Wk.drop ?_)⟩) (fun _ _ _ _ => gt_name) (fun G' t o s1 ht _ => ?_) fun G' o s1 _ => ?_
    · cases o with
      | false =>
        refine go_if (et_or (b := true) (et_test (ev_op (ot_isN (R := No) (b := true) fun H v h => decide_eq_true h) (ev_var rfl) ev_non)) fun e => by cases e) (fun _ => ?_) fun e => by cases e
        exact go_set (ev_var rfl) fun σ H st => ⟨true, trivial, st.wk (by repeat first | exact Wk.nil | refine Wk.keep ?_ | refine Wk.drop ?_)⟩
      | true =>
        refine go_ifu (eu_or (eu_of (et_test (ev_op (ot_isN (R := BF K (a + b + 334)) bf_none) (ev_var rfl) ev_non))) (eu_B (ev_lessB (a := a + b + 334) (b := a + b + 334) (ev_var rfl) (ev_sub (R := bstR K (a + b + 334) true) (ev_var rfl) fun _ _ h => h) (by omega)))) ?_ (go_next fun σ H st => ⟨true, trivial, st.wk (by repeat first | exact Wk.nil | refine Wk.keep ?_ | refine Wk.drop ?_)⟩)
        exact go_set (ev_var rfl) fun σ H st => ⟨true, trivial, st.wk (by repeat first | exact Wk.nil | refine Wk.keep ?_ | refine Wk.drop ?_)⟩
    · exact fun σ H st => ⟨(G', o), ⟨sB.trans s1, fun hh => by
        have := hh k (by omega)
        rw [hdk] at this; cases this⟩, st.wk (by repeat first | exact Wk.nil | refine Wk.keep ?_ | refine Wk.drop ?_)⟩
  · cases o with
    | false =>
      refine go_seq (go_if (b := true) (et_test (ev_op (ot_isN (R := No) (b := true) fun H v h => decide_eq_true h) (ev_var rfl) ev_non)) (fun _ => ?_) fun e => by cases e)
      exact go_ex (f := Fr K) (rt.base sB) 0 ⟨Bd.zero.mono (by omega) (by omega), fun _ => rfl⟩ (ev_zero G)
    | true =>
      refine go_seq (go_if (b := false) (et_test (ev_op (ot_isN (R := BF K (a + b + 334)) bf_none) (ev_var rfl) ev_non)) (fun e => by cases e) fun _ => go_next ?_)
      refine go_back (rt.base sB) (ev_sub (ev_subB (a := a + b + 334) (b := 1) (c := a + b + 336) (ev_sub (R := bstR K (a + b + 334) true) (ev_var rfl) fun _ _ h => h) (ev_sub (ev_one G) (bf_of Bd.one (by omega) (by omega))) (by omega) (by omega)) fun H v r => ?_)
      obtain ⟨x, hx, r⟩ := r
      exact ⟨x, ⟨hx, fun hh => by
        have : true = false := I hh
        cases this⟩, r⟩
abbrev s_member_weight : Stmt := (topS 52)
theorem sc_member_weight : FnScope ["data", "numbers", "done", "number", "j", "best", "prices", "money", "k", "value"] ["data", "numbers", "done", "number", "j"] (defScope s_member_weight) := ⟨rfl, rfl, rfl, by decide +kernel, rfl, by decide +kernel, by decide +kernel⟩

structure MwV where
  d : DataV
  a : Nat
  e : Nat
  dn : Nat → Bool
  j : Nat
structure MwOk (z : MwV) : Prop where
  d : DOk z.d
  ae : z.a + z.e ≤ 5200
  j : z.j < z.d.c
  ne : ∀ k, k < z.d.c → z.dn k = true → z.d.at' z.j k ≠ z.d.sp z.j
def sp_member_weight (K : PySem.W.Frag) : Sp := spR (fun z : MwV => [Dat K z.d, Li z.d.c fun _ => BF K z.a, Bl z.d.c z.dn, BF K z.e, Nt z.j]) MwOk (fun z => Exr (fun x => Bd (z.a + z.e + 334) (z.a + z.e + 334) x ∧ ((∀ k, k < z.d.c → z.dn k = false) → x = 1)) (Fr K))
theorem ok_member_weight (G : Gb K mg) (F : Def0 K mg "member_weight" s_member_weight ["data", "numbers", "done", "number", "j"]) (d_cost : DefOk P w K mg base "cost" 4 ["prices", "amounts"] (sp_cost K)) (d_spent : DefOk P w K mg base "spent" 4 ["data", "i"] (sp_spent K))
    (d_div : DefOk P w K mg base "div" 2 ["a", "b"] (sp_div K)) (d_sub : DefOk P w K mg base "sub" 2 ["a", "b"] (sp_sub K)) (d_less : DefOk P w K mg base "less" 1 ["a", "b"] (sp_less K)) : DefOk P w K mg base "member_weight" 5 ["data", "numbers", "done", "number", "j"] (sp_member_weight K) := by
  refine okD F sc_member_weight (fun _ => rfl) (by decide) fun f cdv A outer s H E hr ⟨d, a, e, dn, j⟩ h => ⟨_, (pss_cons (ps_set (i := 5) sc_member_weight.nd rfl (.inl rfl) (pe_glob (v := .ref G.one.choose) rfl G.one.choose_spec.1 rfl))
        (pss_cons (ps_set (i := 6) sc_member_weight.nd rfl (.inl rfl) (pe_ix (r := rIxT K) ix_tup (pe_ix (r := rIxL K) ix_list (pe_fldK (K := K) rfl (pv 0) rfl) (pv 4) (fun _ _ => rfl)) pe_int (fun _ _ => rfl)))
        (pss_cons (ps_set (i := 7) sc_member_weight.nd rfl (.inl rfl) (pe_cd d_spent (hr.mono (by decide)) (by rfl) (pa_cons (pv 0) (pa_cons (pv 4) pa_nil))))
        (pss_cons (ps_for PassesOwn.never rfl (pi_range1 (by rfl) G.range (pa_cons (pe_callB (r := rLenQ K) call_len_seq (by rfl) G.len PySem.boot_len (pa_cons (pv 2) pa_nil)) pa_nil)) (pg_name (i := 8) sc_member_weight.nd rfl (.inl rfl)) (pss_one (ps_if (pt_val (pe_ix (r := rIxL K) ix_list (pv 2) (pv 8) (fun _ _ => rfl))) (pss_cons (ps_set (i := 9) sc_member_weight.nd rfl (.inl rfl) (pe_cd d_div (hr.mono (by decide)) (by rfl) (pa_cons (pe_cd d_sub (hr.mono (by decide)) (by rfl) (pa_cons (pe_ix (r := rIxL K) ix_list (pv 1) (pv 8) (fun _ _ => rfl)) (pa_cons (pv 3) pa_nil))) (pa_cons (pe_cd d_sub (hr.mono (by decide)) (by rfl) (pa_cons (pe_cd d_cost (hr.mono (by decide)) (by rfl) (pa_cons (pv 6) (pa_cons (pe_ix (r := rIxT K) ix_tup (pe_ix (r := rIxL K) ix_list (pe_fldK (K := K) rfl (pv 0) rfl) (pv 8) (fun _ _ => rfl)) pe_int (fun _ _ => rfl)) pa_nil))) (pa_cons (pv 7) pa_nil))) pa_nil))))
        (pss_one (ps_if (pt_val (pe_cd d_less (hr.mono (by decide)) (by rfl) (pa_cons (pv 5) (pa_cons (pv 9) pa_nil)))) (pss_one (ps_set (i := 5) sc_member_weight.nd rfl (.inl rfl) (pv 9))) pss_nil))) pss_nil)))
        (pss_one (ps_ret (pv 5))))))), fun H0 N D rt => ?_⟩
  have D' : DOk d := h.d
  have hae : a + e ≤ 5200 := h.ae
  have hj : j < d.c := h.j
  have hne : ∀ k, k < d.c → dn k = true → d.at' j k ≠ d.sp j := h.ne
  have hc := D'.c
  obtain ⟨o2, b2⟩ := D'.dot hj hj
  refine go_seq (go_set (ev_one G) (go_seq (go_set (R := Fl K d.g (d.pr j)) (ev_op (ot_ixT (k := 0) rfl rfl) (ev_op (ot_ixL rfl hj) (ev_buys (ev_var rfl)) (ev_var rfl)) ev_int) (go_seq (go_set (ev_spent (ev_var rfl) (ev_var rfl) hj o2) (go_seq ?_))))))
  refine go_forR (n := d.c) (α := Rat) (fun k y => ⟨H0, N, [], [some (Dat K d), some (Li d.c fun _ => BF K a), some (Bl d.c dn), some (BF K e), some (Nt j), some (Fr K y), some (Fl K d.g (d.pr j)), some (Fr K (d.sp j)), none, none]⟩) (fun k y => Bd (a + e + 334) (a + e + 334) y ∧ ((∀ j, j < k → dn j = false) → y = 1)) (eva_cons (ev_cb ct_len (eva_cons (ev_var rfl) eva_nil)) eva_nil) (by omega)
    ⟨1, ⟨Bd.one.mono (by omega) (by omega), fun _ => rfl⟩, fun σ H st => st⟩ (fun k y hk ⟨hy, I⟩ => ?_) fun y I => go_ex (f := Fr K) rt y I (ev_var rfl)
  refine go_if (et_test (ev_op (ot_ixL (R := fun k => Bo (dn k)) rfl hk) (ev_var rfl) (ev_var rfl))) (fun e1 => ?_) fun e1 => go_next fun σ H st => ⟨y, ⟨hy, fun hh => I fun j hj => hh j (by omega)⟩, st.wk (by repeat first | exact Wk.nil | refine Wk.keep ?_ | refine Wk.drop ?_)⟩
  have hdk : dn k = true := e1
  obtain ⟨o1, b1⟩ := D'.dot hj hk
  have hnz : d.at' j k - d.sp j ≠ 0 := fun z => hne k hk hdk (by grind)
  have no : ∀ {Q : Prop}, (∀ j, j < k + 1 → dn j = false) → Q := fun hh => by
    have := hh k (by omega)
    rw [hdk] at this; cases this
  refine go_seq (go_set (ev_divB (c := a + e + 334) (a := a + e + 1) (b := 333) (ev_subB (a := a) (b := e) (ev_op (ot_ixL (R := fun _ => BF K a) rfl hk) (ev_var rfl) (ev_var rfl)) (ev_var rfl) (by omega) (by omega)) (ev_sub (ev_subq (a := d.at' j k) (b := d.sp j) (ev_cost (ev_var rfl) (ev_op (ot_ixT (k := 1) rfl rfl) (ev_op (ot_ixL rfl hk) (ev_buys (ev_var rfl)) (ev_var rfl)) ev_int) o1) (ev_var rfl) (b1.ok2 b2 (by omega))) fun H v r => ⟨_, ⟨hnz, (b1.sub b2 (e := 332) (by omega) (by omega)).mono (by omega) (by omega)⟩, r⟩) (by omega) (by omega)) (go_open (i := 9) rfl fun x hx => ?_))
  refine go_ifu (eu_B (ev_sub (ev_less (ev_var rfl) (ev_var rfl) (hy.mid (by omega) (by omega)) (hx.mid (by omega) (by omega))) fun H v r => ⟨_, trivial, r⟩)) ?_ (go_next fun σ H st => ⟨y, ⟨hy, fun hh => no hh⟩, st.wk (by repeat first | exact Wk.nil | refine Wk.keep ?_ | refine Wk.drop ?_)⟩)
  exact go_set (ev_var rfl) fun σ H st => ⟨x, ⟨hx, fun hh => no hh⟩, st.wk (by repeat first | exact Wk.nil | refine Wk.keep ?_ | refine Wk.drop ?_)⟩
end
end BB
namespace BB
open PySem PySem.Spec PyProof.Rows L2
section
variable {P : Program} {w : World} {K : PySem.W.Frag} {mg : Str → Option Value} {base : Heap}
/-! ### make_taste -/
abbrev s_make_taste : Stmt := (topS 53)
theorem sc_make_taste : FnScope ["data", "table", "count", "k", "numbers", "weights", "done", "_", "members", "number", "found", "j"] ["data", "table"] (defScope s_make_taste) := ⟨rfl, rfl, rfl, by decide +kernel, rfl, by decide +kernel, by decide +kernel⟩

def nb : Nat → Nat
  | 0 => 1
  | 1 => 1
  | 2 => 338
  | 3 => 1347
  | _ => 3702
def wb : Nat → Nat
  | 0 => 1
  | 1 => 1
  | 2 => 673
  | 3 => 2019
  | _ => 5383
theorem nb_next {r : Nat} (h : r < 4) : (r ≠ 0 → nb r + wb r + 336 ≤ nb (r + 1) ∧ nb r + nb (r + 1) + 334 ≤ wb (r + 1)) ∧ nb r ≤ nb (r + 1) ∧ wb r ≤ wb (r + 1) ∧ nb r + wb r ≤ 3500 ∧ nb r + nb (r + 1) ≤ 5200 ∧ 1 ≤ nb (r + 1) ∧ 1 ≤ wb (r + 1) := by
  rcases r with _ | _ | _ | _ | r
  · exact ⟨fun z => absurd rfl z, by decide⟩
  · exact ⟨fun _ => by decide, by decide⟩
  · exact ⟨fun _ => by decide, by decide⟩
  · exact ⟨fun _ => by decide, by decide⟩
  · omega
def dnx (dn : Nat → Bool) (f : Nat → Nat) : Nat → Nat → Bool
  | 0, j => dn j
  | k + 1, j => if j = f k then true else dnx dn f k j
theorem dnx_true {dn : Nat → Bool} {f : Nat → Nat} {j : Nat} : ∀ {k}, dnx dn f k j = true → dn j = true ∨ ∃ t, t < k ∧ f t = j
  | 0, h => .inl h
  | k + 1, h => by
    unfold dnx at h
    by_cases e : j = f k
    · exact .inr ⟨k, by omega, e.symm⟩
    · rw [if_neg e] at h
      rcases dnx_true h with a | ⟨t, a, b⟩
      · exact .inl a
      · exact .inr ⟨t, by omega, b⟩
theorem dnx_false {dn : Nat → Bool} {f : Nat → Nat} {j : Nat} : ∀ {k}, dnx dn f k j = false → dn j = false ∧ ∀ t, t < k → f t ≠ j
  | 0, h => ⟨h, fun t ht => absurd ht (Nat.not_lt_zero t)⟩
  | k + 1, h => by
    unfold dnx at h
    by_cases e : j = f k
    · rw [if_pos e] at h; cases h
    · rw [if_neg e] at h
      obtain ⟨a, b⟩ := dnx_false h
      refine ⟨a, fun t ht => ?_⟩
      by_cases c : t = k
      · rw [c]; exact fun z => e z.symm
      · exact b t (by omega)
/-- what is done leads, seen backwards, only to what is done -/
def Up (d : DataV) (dn : Nat → Bool) : Prop := ∀ j k, j < d.c → k < d.c → dn j = false → dn k = true → d.led j k = none
theorem up_next {d : DataV} {dn : Nat → Bool} {ms : List Nat} (U : Up d dn) (S : NcS ⟨d.c, d.led, dn⟩ ms) : Up d (dnx dn (fun t => ms.getD t 0) ms.length) := fun j k hj hk e1 e2 => by
  obtain ⟨a, b⟩ := dnx_false e1
  rcases dnx_true e2 with c | ⟨t, ht, c⟩
  · exact U j k hj hk a c
  · have hm : k ∈ ms := by rw [← c]; exact getD_mem ht
    rcases S.ok with z | ⟨i, hi, hdi, fr, al⟩
    · rw [z] at hm; cases hm
    · refine Classical.byContradiction fun ne => ?_
      have h1 := (al k).mp hm
      have h2 : d.led j i ≠ none := led_trans ne h1.2.2
      have h3 : d.led i j ≠ none := fr j hj a h2
      have hj' : j ∈ ms := (al j).mpr ⟨hj, h3, h2⟩
      obtain ⟨t, ht, et⟩ := List.getElem_of_mem hj'
      refine b t ht ?_
      rw [List.getD_eq_getElem?_getD, List.getElem?_eq_getElem ht]
      exact et
theorem mem_ne {d : DataV} {dn : Nat → Bool} {ms : List Nat} (U : Up d dn) (S : NcS ⟨d.c, d.led, dn⟩ ms) {j : Nat} (hj : j ∈ ms) : ∀ k, k < d.c → dn k = true → d.at' j k ≠ d.sp j := fun k hk hd e => by
  rcases S.ok with z | ⟨i, hi, hdi, fr, al⟩
  · rw [z] at hj; cases hj
  · obtain ⟨h1, h2, h3⟩ := (al j).mp hj
    by_cases c : j = k
    · subst c
      exact h2 (U i j hi hk hdi hd)
    · have : stb d j k ≠ none := by
        unfold stb
        rw [if_pos ⟨c, by rw [e]; exact Rat.le_refl⟩]
        exact fun z => nomatch z
      have st : stp d j k ≠ none := by
        unfold stp
        have : ∀ m, lkf d.lk j k (stb d j k) m ≠ none := fun m => by
          induction m with
          | zero => exact this
          | succ m ih =>
            unfold lkf
            split
            · exact fun z => nomatch z
            · exact ih
        exact this _
      have l1 : d.led j k ≠ none := led_step hk st
      exact led_trans h2 l1 (U i k hi hk hdi hd)
def sp_make_taste (K : PySem.W.Frag) : Sp := spR (fun z : DataV => [Dat K z, TabR z.c z.led]) DOk (fun _ => Ay)
theorem off_BF {K : PySem.W.Frag} {a : Nat} : Off (BF K a) := off_Ex fun _ => off_Fr
theorem ok_make_taste (G : Gb K mg) (F : Def0 K mg "make_taste" s_make_taste ["data", "table"]) (d_next_class : DefOk P w K mg base "next_class" 1 ["table", "done"] sp_next_class) (d_class_number : DefOk P w K mg base "class_number" 6 ["data", "taste", "done", "members"] (sp_class_number K))
    (d_member_weight : DefOk P w K mg base "member_weight" 5 ["data", "numbers", "done", "number", "j"] (sp_member_weight K)) : DefOk P w K mg base "make_taste" 7 ["data", "table"] (sp_make_taste K) := by
  refine okD F sc_make_taste (fun _ => rfl) (by decide) fun f cdv A outer s H E hr d D' => ⟨_, (pss_cons (ps_set (i := 2) sc_make_taste.nd rfl (.inl rfl) (pe_callB (r := rLenQ K) call_len_seq (by rfl) G.len PySem.boot_len (pa_cons (pv 1) pa_nil)))
        (pss_cons (ps_set (i := 4) sc_make_taste.nd rfl (.inr rfl) (pe_lc (own := [("k", 3)]) (g := (gName 3)) (tt := tYes) rfl sc_make_taste.nd (pi_range1 (by rfl) G.range (pa_cons (pv 2) pa_nil)) (blkOk_by (N := ["data", "table", "count", "k", "numbers", "weights", "done", "_", "members", "number", "found", "j"]) (own := [("k", 3)]) (sc := (defScope s_make_taste)) (by decide +kernel)) (fun _ _ _ _ _ => (pg_name (i := 3) sc_make_taste.nd rfl (.inl rfl))) (fun _ _ _ _ _ => pts_nil) (fun _ _ _ _ _ => (pe_glob (v := .ref G.zero.choose) rfl G.zero.choose_spec.1 rfl))))
        (pss_cons (ps_setLc (i := 5) (own := [("k", 3)]) (g := (gName 3)) (tt := tYes) rfl sc_make_taste.nd rfl rfl (sw_true rfl rfl rfl (by decide +kernel)) (pi_range1 (by rfl) G.range (pa_cons (pv 2) pa_nil)) (blkOk_by (N := ["data", "table", "count", "k", "numbers", "weights", "done", "_", "members", "number", "found", "j"]) (own := [("k", 3)]) (sc := (defScope s_make_taste)) (by decide +kernel)) (fun _ _ _ _ _ => (pg_name (i := 3) sc_make_taste.nd rfl (.inl rfl))) (fun _ _ _ _ _ => pts_nil) (fun _ _ _ _ _ => (pe_glob (v := .ref G.one.choose) rfl G.one.choose_spec.1 rfl)))
        (pss_cons (ps_set (i := 6) sc_make_taste.nd rfl (.inr rfl) (pe_lc (own := [("k", 3)]) (g := (gName 3)) (tt := tYes) rfl sc_make_taste.nd (pi_range1 (by rfl) G.range (pa_cons (pv 2) pa_nil)) (blkOk_by (N := ["data", "table", "count", "k", "numbers", "weights", "done", "_", "members", "number", "found", "j"]) (own := [("k", 3)]) (sc := (defScope s_make_taste)) (by decide +kernel)) (fun _ _ _ _ _ => (pg_name (i := 3) sc_make_taste.nd rfl (.inl rfl))) (fun _ _ _ _ _ => pts_nil) (fun _ _ _ _ _ => pe_bl)))
        (pss_cons (ps_for PassesOwn.never rfl (pi_range1 (by rfl) G.range (pa_cons (pv 2) pa_nil)) (pg_name (i := 7) sc_make_taste.nd rfl (.inl rfl)) (pss_cons (ps_set (i := 8) sc_make_taste.nd rfl (.inl rfl) (pe_cd d_next_class (hr.mono (by decide)) (by rfl) (pa_cons (pv 1) (pa_cons (pv 6) pa_nil))))
        (pss_cons (ps_set (i := 9) sc_make_taste.nd rfl (.inr rfl) (pe_cd d_class_number (hr.mono (by decide)) (by rfl) (pa_cons (pv 0) (pa_cons (pe_tup (pa_cons (pv 4) (pa_cons (pv 5) pa_nil))) (pa_cons (pv 6) (pa_cons (pv 8) pa_nil))))))
        (pss_cons (ps_setLc (i := 10) (own := [("j", 11)]) (g := (gName 11)) (tt := tYes) rfl sc_make_taste.nd rfl rfl (sw_true rfl rfl rfl (by decide +kernel)) (pi_listK (K := K) rfl (pv 8)) (blkOk_by (N := ["data", "table", "count", "k", "numbers", "weights", "done", "_", "members", "number", "found", "j"]) (own := [("j", 11)]) (sc := (defScope s_make_taste)) (by decide +kernel)) (fun _ _ _ _ _ => (pg_name (i := 11) sc_make_taste.nd rfl (.inl rfl))) (fun _ _ _ _ _ => pts_nil) (fun _ _ _ _ _ => (pe_cd d_member_weight (hr.mono (by decide)) (by rfl) (pa_cons (pv 0) (pa_cons (pv 4) (pa_cons (pv 6) (pa_cons (pv 9) (pa_cons (pv 11) pa_nil))))))))
        (pss_one (ps_for PassesOwn.never rfl (pi_range1 (by rfl) G.range (pa_cons (pe_callB (r := rLenQ K) call_len_seq (by rfl) G.len PySem.boot_len (pa_cons (pv 8) pa_nil)) pa_nil)) (pg_name (i := 3) sc_make_taste.nd rfl (.inl rfl)) (pss_cons (ps_asg (pv 9) (pg_sub (pv 4) (pe_ix (r := rIxL K) ix_list (pv 8) (pv 3) (fun _ _ => rfl)) set_list))
        (pss_cons (ps_asg (pe_ix (r := rIxL K) ix_list (pv 10) (pv 3) (fun _ _ => rfl)) (pg_sub (pv 5) (pe_ix (r := rIxL K) ix_list (pv 8) (pv 3) (fun _ _ => rfl)) set_list))
        (pss_one (ps_asg pe_bl (pg_sub (pv 6) (pe_ix (r := rIxL K) ix_list (pv 8) (pv 3) (fun _ _ => rfl)) set_list)))))))))))
        (pss_one (ps_ret (pe_tup (pa_cons (pv 4) (pa_cons (pv 5) pa_nil)))))))))), fun H0 N D rt => ?_⟩
  have hc := D'.c
  refine go_seq (go_set (R := Nt d.c) (ev_cb ct_len (eva_cons (ev_var rfl) eva_nil)) (go_seq ?_))
  refine go_new (n := d.c) (f := fun _ => BF K 1) (evn_lcR (eva_cons (ev_var rfl) eva_nil) (by omega) fun Dq k _ => ev_sub (ev_zero G) (bf_of Bd.zero (by omega) (by omega))) fun pn => go_seq ?_
  refine go_new (n := d.c) (f := fun _ => BF K 1) (evn_lcR (eva_cons (ev_var rfl) eva_nil) (by omega) fun Dq k _ => ev_sub (ev_one G) (bf_of Bd.one (by omega) (by omega))) fun pw => go_seq ?_
  refine go_new (n := d.c) (f := fun _ => Bo false) (evn_lcR (eva_cons (ev_var rfl) eva_nil) (by omega) fun Dq k _ => ev_bl) fun pd => go_seq ?_
  refine go_forR (n := d.c) (α := Nat → Bool) (fun r dn => ⟨H0, N, [(pd, d.c, fun k => Bo (dn k)), (pw, d.c, fun _ => BF K (wb r)), (pn, d.c, fun _ => BF K (nb r))], [some (Dat K d), some (TabR d.c d.led), some (Nt d.c), none, some (Pt pn), some (Pt pw), some (Pt pd), none, none, none, none, none]⟩)
    (fun r dn => (r = 0 → ∀ k, k < d.c → dn k = false) ∧ Up d dn) (eva_cons (ev_var rfl) eva_nil) (by omega) ⟨fun _ => false, ⟨fun _ _ _ => rfl, fun j k _ _ _ z => by cases z⟩, fun σ H st => st.wk (by repeat first | exact Wk.nil | refine Wk.keep ?_ | refine Wk.drop ?_)⟩ (fun r dn hr' ⟨I0, U⟩ => ?_) fun dn _ => ?_
  · have hr4 : r < 4 := by omega
    obtain ⟨nx1, nx2, nx3, nx4, nx5, nx6, nx7⟩ := nb_next hr4
    refine go_seq (go_set (ev_thaw (i := 6) (p := pd) (n := d.c) (f := fun k => Bo (dn k)) rfl rfl ?_ (ev_call (⟨d.c, d.led, dn⟩ : NcV) (eva_cons (ev_var rfl) (eva_cons (ev_var rfl) eva_nil)) (show d.c ≤ 10 by omega))) (go_open (i := 8) rfl fun ms S => go_seq ?_))
    · intro H v vs e1 e2 e3 ⟨ms, S, a, us, ev, h1, h2, h3⟩
      refine ⟨ms, S, a, us, ev, ?_, h2, h3⟩
      have ne : a ≠ pd := fun z => by
        have := hid_sub _ _ h1
        rw [z, e1] at this
        cases this
        have h0 : vs[0]? = some (vs[0]'(by omega)) := List.getElem?_eq_getElem (by omega)
        have q1 : vs[0]'(by omega) = V.bl (dn 0) := e3 0 _ h0
        have q2 : vs[0]'(by omega) = V.int _ := h3 0 _ h0
        rw [q1] at q2
        cases q2
      exact hid_cons ne h1
    have S : NcS ⟨d.c, d.led, dn⟩ ms := S
    have hml : ms.length ≤ d.c := S.len
    have hmt : ∀ x ∈ ms, x < d.c := S.lt
    refine go_set (ev_thaw (i := 6) (p := pd) (n := d.c) (f := fun k => Bo (dn k)) rfl rfl (thaw_off rfl (off_Ex fun _ => off_Fr)) (ev_thaw (i := 5) (p := pw) (n := d.c) (f := fun _ => BF K (wb r)) rfl rfl (thaw_off rfl (off_Ex fun _ => off_Fr)) (ev_thaw (i := 4) (p := pn) (n := d.c) (f := fun _ => BF K (nb r)) rfl rfl (thaw_off rfl (off_Ex fun _ => off_Fr))
      (ev_call (⟨d, nb r, wb r, dn, ms⟩ : CnV) (eva_cons (ev_var rfl) (eva_cons (ev_tup (eva_cons (ev_var rfl) (eva_cons (ev_var rfl) eva_nil))) (eva_cons (ev_var rfl) (eva_cons (ev_var rfl) eva_nil)))) ⟨D', nx4, show ms.length ≤ 10 by omega, hmt⟩)))) (go_open (i := 9) rfl fun x hx => go_seq ?_)
    have bx : Bd (nb (r + 1)) (nb (r + 1)) x := by
      by_cases e : r = 0
      · rw [hx.2 (I0 e)]
        exact Bd.zero.mono nx6 nx6
      · exact hx.1.mono (nx1 e).1 (nx1 e).1
    refine go_set (R := Li ms.length fun _ => BF K (wb (r + 1))) ((evn_thaw (i := 6) (p := pd) (n := d.c) (f := fun k => Bo (dn k)) rfl rfl (fun _ => off_BF) (evn_thaw (i := 5) (p := pw) (n := d.c) (f := fun _ => BF K (wb r)) rfl rfl (fun _ => off_BF) (evn_thaw (i := 4) (p := pn) (n := d.c) (f := fun _ => BF K (nb r)) rfl rfl (fun _ => off_BF)
      (evn_lcL (n := ms.length) (R := fun _ => BF K (wb (r + 1))) (ev_var rfl) (by omega) fun Dq t ht => ev_sub (R := Exr (fun x => Bd (nb r + nb (r + 1) + 334) (nb r + nb (r + 1) + 334) x ∧ ((∀ k, k < d.c → dn k = false) → x = 1)) (Fr K)) (ev_call (⟨d, nb r, nb (r + 1), dn, ms.getD t 0⟩ : MwV) (eva_cons (ev_var rfl) (eva_cons (ev_var rfl) (eva_cons (ev_var rfl) (eva_cons (ev_sub (ev_var rfl) (bf_of bx (Nat.le_refl _) (Nat.le_refl _))) (eva_cons (ev_var rfl) eva_nil))))) ⟨D', nx5, hmt _ (getD_mem ht), mem_ne U S (getD_mem ht)⟩) fun H v q => ?_)))).ev) ?_
    · obtain ⟨y, hy, ry⟩ := q
      refine ⟨y, ?_, ry⟩
      by_cases e : r = 0
      · rw [hy.2 (I0 e)]
        exact Bd.one.mono nx7 nx7
      · exact hy.1.mono (nx1 e).2 (nx1 e).2
    refine go_forR (n := ms.length) (α := Unit) (fun k _ => ⟨H0, N, [(pd, d.c, fun j => Bo (dnx dn (fun t => ms.getD t 0) k j)), (pw, d.c, fun _ => BF K (wb (r + 1))), (pn, d.c, fun _ => BF K (nb (r + 1)))], [some (Dat K d), some (TabR d.c d.led), some (Nt d.c), none, some (Pt pn), some (Pt pw), some (Pt pd), none, some (IL ms), some (Fr K x), some (Li ms.length fun _ => BF K (wb (r + 1))), none]⟩) (fun _ _ => True) (eva_cons (ev_cb ct_len (eva_cons (ev_var rfl) eva_nil)) eva_nil) (by omega)
      ⟨(), trivial, fun σ H st => (st.mw (.keep (.sub (fun k _ H v q => bf_mono nx3 H v q) (.sub (fun k _ H v q => bf_mono nx2 H v q) .nil)))).wk (by repeat first | exact Wk.nil | refine Wk.keep ?_ | refine Wk.drop ?_)⟩ (fun k _ hk _ => ?_) fun _ _ => ?_
    · have hmk : ms.getD k 0 < d.c := hmt _ (getD_mem hk)
      have eix : ∀ {S : Sta}, S.Γ[8]? = some (some (IL ms)) → S.Γ[3]? = some (some (Nt k)) → EV S (tOp (rIxL K) (tVar 8) (tVar 3)) (Nt (ms.getD k 0)) := fun h8 h3 => ev_op (ot_ixL (R := fun t => Nt (ms.getD t 0)) rfl hk) (ev_var h8) (ev_var h3)
      refine go_seq (go_put (M1 := [(pd, d.c, fun j => Bo (dnx dn (fun t => ms.getD t 0) k j)), (pw, d.c, fun _ => BF K (wb (r + 1)))]) (M2 := []) (j := ms.getD k 0) (R := BF K (nb (r + 1))) rfl rfl (ev_sub (ev_var rfl) (bf_of bx (Nat.le_refl _) (Nat.le_refl _))) (eix rfl rfl) rfl hmk (go_seq ?_))
      refine go_put (M1 := [(pd, d.c, fun j => Bo (dnx dn (fun t => ms.getD t 0) k j))]) (M2 := [(pn, d.c, putAt (ms.getD k 0) (fun _ => BF K (nb (r + 1))) (BF K (nb (r + 1))))]) (j := ms.getD k 0) (R := BF K (wb (r + 1))) rfl rfl (ev_op (ot_ixL (R := fun _ => BF K (wb (r + 1))) rfl hk) (ev_var rfl) (ev_var rfl)) (eix rfl rfl) rfl hmk ?_
      refine go_put (M1 := []) (M2 := [(pw, d.c, putAt (ms.getD k 0) (fun _ => BF K (wb (r + 1))) (BF K (wb (r + 1)))), (pn, d.c, putAt (ms.getD k 0) (fun _ => BF K (nb (r + 1))) (BF K (nb (r + 1))))]) (j := ms.getD k 0) (R := Bo true) rfl rfl ev_bl (eix rfl rfl) rfl hmk fun σ H st => ⟨(), trivial, (st.mw (.sub (put_to (fun j _ hne => ?_) ?_) (.sub (put_to (fun _ _ _ => rfl) rfl) (.sub (put_to (fun _ _ _ => rfl) rfl) .nil)))).wk (by repeat first | exact Wk.nil | refine Wk.keep ?_ | refine Wk.drop ?_)⟩
      · show Bo (dnx dn (fun t => ms.getD t 0) k j) = Bo (if j = ms.getD k 0 then true else dnx dn (fun t => ms.getD t 0) k j)
        rw [if_neg hne]
      · show Bo true = Bo (if ms.getD k 0 = ms.getD k 0 then true else _)
        rw [if_pos rfl]
    · exact fun σ H st => ⟨dnx dn (fun t => ms.getD t 0) ms.length, ⟨fun z => by omega, up_next U S⟩, st.wk (by repeat first | exact Wk.nil | refine Wk.keep ?_ | refine Wk.drop ?_)⟩
  · refine go_freeze (i := 6) rfl rfl (go_freeze (i := 5) rfl rfl (go_freeze (i := 4) rfl rfl ?_))
    exact go_back rt (ev_sub (ev_tup (K := K) (eva_cons (ev_var rfl) (eva_cons (ev_var rfl) eva_nil))) fun _ _ _ => trivial)
/-! ### check -/
abbrev s_find_chain : Stmt := (topS 43)
theorem sc_find_chain : FnScope ["data", "i", "j", "found"] ["data", "i", "j"] (defScope s_find_chain) := ⟨rfl, rfl, rfl, by decide +kernel, rfl, by decide +kernel, by decide +kernel⟩

def sp_find_chain : Sp := spR (fun z : Unit => [Ay, Ay, Ay]) (fun _ => False) (fun _ => Ay)
theorem ok_find_chain (F : Def0 K mg "find_chain" s_find_chain ["data", "i", "j"]) : DefOk P w K mg base "find_chain" 1 ["data", "i", "j"] sp_find_chain :=
  okD F sc_find_chain (fun _ => rfl) (by decide) fun _ _ _ _ _ _ _ _ _ h => False.elim h
abbrev s_check : Stmt := (topS 54)
theorem sc_check : FnScope ["data", "table", "i"] ["data"] (defScope s_check) := ⟨rfl, rfl, rfl, by decide +kernel, rfl, by decide +kernel, by decide +kernel⟩

def sp_check (K : PySem.W.Frag) : Sp := spR (fun z : DataV => [Dat K z]) (fun z => DOk z ∧ ∀ k, k < z.c → z.led k k ≠ some true) (fun _ => Tp K [Sr "taste", Ay])
theorem ok_check (G : Gb K mg) (F : Def0 K mg "check" s_check ["data"]) (d_leads : DefOk P w K mg base "leads" 7 ["data"] (sp_leads K)) (d_find_chain : DefOk P w K mg base "find_chain" 1 ["data", "i", "j"] sp_find_chain) (d_make_taste : DefOk P w K mg base "make_taste" 7 ["data", "table"] (sp_make_taste K)) : DefOk P w K mg base "check" 8 ["data"] (sp_check K) := by
  refine okD F sc_check (fun _ => rfl) (by decide) fun f cdv A outer s H E hr d h => ⟨_, (pss_cons (ps_set (i := 1) sc_check.nd rfl (.inl rfl) (pe_cd d_leads (hr.mono (by decide)) (by rfl) (pa_cons (pv 0) pa_nil)))
        (pss_cons (ps_for PassesOwn.never rfl (pi_range1 (by rfl) G.range (pa_cons (pe_callB (r := rLenQ K) call_len_seq (by rfl) G.len PySem.boot_len (pa_cons (pv 1) pa_nil)) pa_nil)) (pg_name (i := 2) sc_check.nd rfl (.inl rfl)) (pss_one (ps_if (pt_cmpR (op_isO) (pe_ix (r := rIxL K) ix_list (pe_ix (r := rIxL K) ix_list (pv 1) (pv 2) (fun _ _ => rfl)) (pv 2) (fun _ _ => rfl)) pe_bl (nomark _)) (pss_one (ps_ret (pe_tup (pa_cons pe_str (pa_cons (pe_cd d_find_chain (hr.mono (by decide)) (by rfl) (pa_cons (pv 0) (pa_cons (pv 2) (pa_cons (pv 2) pa_nil)))) pa_nil))))) pss_nil)))
        (pss_one (ps_ret (pe_tup (pa_cons pe_str (pa_cons (pe_cd d_make_taste (hr.mono (by decide)) (by rfl) (pa_cons (pv 0) (pa_cons (pv 1) pa_nil))) pa_nil))))))), fun H0 N D rt => ?_⟩
  obtain ⟨D', nr⟩ := h
  have hc := D'.c
  refine go_seq (go_set (ev_call d (eva_cons (ev_var rfl) eva_nil) D') (go_seq ?_))
  refine go_forR (n := d.c) (α := Unit) (fun _ _ => ⟨H0, N, [], [some (Dat K d), some (TabR d.c d.led), none]⟩) (fun _ _ => True) (eva_cons (ev_cb ct_len (eva_cons (ev_var rfl) eva_nil)) eva_nil) (by omega) ⟨(), trivial, fun σ H st => st⟩ (fun i _ hi _ => ?_) fun _ _ => ?_
  · refine go_if (et_test (ev_op ot_isO (ev_op (ot_ixL (R := fun j => Ob (d.led i j)) rfl hi) (ev_op (ot_ixL (R := fun i => Li d.c fun j => Ob (d.led i j)) rfl hi) (ev_var rfl) (ev_var rfl)) (ev_var rfl)) ev_bl)) (fun e => absurd (of_decide_eq_true e) (nr i hi)) fun e => go_next fun σ H st => ⟨(), trivial, st.wk (by repeat first | exact Wk.nil | refine Wk.keep ?_ | refine Wk.drop ?_)⟩
  · exact go_back rt (ev_tup (eva_cons ev_str (eva_cons (ev_call d (eva_cons (ev_var rfl) (eva_cons (ev_var rfl) eva_nil)) D') eva_nil)))
end
end BB
namespace BB
open PySem PySem.Spec PyProof.Rows L2
section
variable {S : Sta} {ta tb te : TE}
theorem ot_isNU {R : Rp} : OT rIsNn R No BoU := fun H N x y Q _ rx ry q => ⟨ry, q _ H (Same.refl H) ⟨_, trivial, rfl⟩⟩
theorem ev_andE {A B : Bool → Prop} (h1 : EV S ta (Exr A Bo)) (h2 : EV S tb (Exr B Bo)) : EV S (tAndV ta tb) (Exr (fun b => ∃ a, A a ∧ ((a = false ∧ b = false) ∨ (a = true ∧ B b))) Bo) := fun σ H st Q q => h1 σ H st _ fun v H1 s1 ⟨a, ha, r⟩ => ⟨a, r, by
  cases a with
  | true =>
    rw [if_pos rfl]
    exact h2 σ H1 (st.mono s1) _ fun u H2 s2 ⟨b, hb, r2⟩ => q u H2 (s1.trans s2) ⟨b, ⟨true, ha, .inr ⟨rfl, hb⟩⟩, r2⟩
  | false =>
    rw [if_neg Bool.false_ne_true]
    exact q _ H1 s1 ⟨false, ⟨false, ha, .inl ⟨rfl, rfl⟩⟩, rfl⟩⟩
end
section
variable {P : Program} {w : World} {K : PySem.W.Frag} {mg : Str → Option Value} {base : Heap}
structure NdV where
  d : DataV
  T : Nat → Option Bool
  q : Nat → Rat
abbrev NdV.nd (z : NdV) : Nd := ⟨z.d.g, z.d.c, z.d.pr, z.d.am, z.T, z.q⟩
/-! ### the lines of rows -/
abbrev s_row_lines : Stmt := (topS 56)
theorem sc_row_lines : FnScope ["data", "rows", "shared", "lines", "j", "entries"] ["data", "rows", "shared"] (defScope s_row_lines) := ⟨rfl, rfl, rfl, by decide +kernel, rfl, by decide +kernel, by decide +kernel⟩

def entS (z : NdV) (sh : Bool) (j c : Nat) : Rat := if c < z.d.g then z.d.pr j c else if sh = true then (if z.T j = some true then -1 else 0) else z.d.pr j c
theorem entS_f {z : NdV} {j : Nat} : entS z false j = z.d.pr j := by
  funext c
  unfold entS
  by_cases e : c < z.d.g
  · rw [if_pos e]
  · rw [if_neg e]; rfl
def cntS (z : NdV) (sh : Bool) : Nat := if sh = true then z.d.g + 1 else z.d.g
abbrev RlR (K : PySem.W.Frag) (z : NdV) (sh : Bool) (m : Nat) : Rp := Li m fun k => Ln K (cntS z sh) (entS z sh (z.nd.row k)) .least (z.nd.sp (z.nd.row k))
def sp_row_lines (K : PySem.W.Frag) : Sp := spR (fun z : NdV × Bool => [Dat K z.1.d, Row z.1.d.c z.1.T, Bo z.2]) (fun z => DOk z.1.d) (fun z => RlR K z.1 z.2 z.1.nd.rl.length)
theorem ok_row_lines (G : Gb K mg) (F : Def0 K mg "row_lines" s_row_lines ["data", "rows", "shared"]) (d_neg : DefOk P w K mg base "neg" 1 ["a"] (sp_neg K)) (d_spent : DefOk P w K mg base "spent" 4 ["data", "i"] (sp_spent K)) : DefOk P w K mg base "row_lines" 5 ["data", "rows", "shared"] (sp_row_lines K) := by
  refine okD F sc_row_lines (fun _ => rfl) (by decide) fun f cdv A outer s H E hr ⟨z, sh⟩ D' => ⟨_, (pss_cons (ps_set (i := 3) sc_row_lines.nd rfl (.inl rfl) (pe_lst pa_nil))
        (pss_cons (ps_for PassesOwn.never rfl (pi_range1 (by rfl) G.range (pa_cons (pe_callB (r := rLenQ K) call_len_seq (by rfl) G.len PySem.boot_len (pa_cons (pv 1) pa_nil)) pa_nil)) (pg_name (i := 4) sc_row_lines.nd rfl (.inl rfl)) (pss_one (ps_if (pt_cmpR op_notN (pe_ix (r := rIxL K) ix_list (pv 1) (pv 4) (fun _ _ => rfl)) pe_non (nomark _)) (pss_cons (ps_set (i := 5) sc_row_lines.nd rfl (.inl rfl) (pe_callTy (r := rListQ K) call_list_of (by rfl) G.list (by decide +kernel) (pa_cons (pe_ix (r := rIxT K) ix_tup (pe_ix (r := rIxL K) ix_list (pe_fldK (K := K) rfl (pv 0) rfl) (pv 4) (fun _ _ => rfl)) pe_int (fun _ _ => rfl)) pa_nil)))
        (pss_cons (ps_if (pt_val (pv 2)) (pss_one (ps_expr (pe_appK (K := K) rfl (pv 5) (pa_cons (pe_ifExp (pt_val (pe_ix (r := rIxL K) ix_list (pv 1) (pv 4) (fun _ _ => rfl))) (pe_cd d_neg (hr.mono (by decide)) (by rfl) (pa_cons (pe_glob (v := .ref G.one.choose) rfl G.one.choose_spec.1 rfl) pa_nil)) (pe_glob (v := .ref G.zero.choose) rfl G.zero.choose_spec.1 rfl)) pa_nil)))) pss_nil)
        (pss_one (ps_expr (pe_appK (K := K) rfl (pv 3) (pa_cons (pe_tup (pa_cons (pv 5) (pa_cons pe_str (pa_cons (pe_cd d_spent (hr.mono (by decide)) (by rfl) (pa_cons (pv 0) (pa_cons (pv 4) pa_nil))) pa_nil)))) pa_nil)))))) pss_nil)))
        (pss_one (ps_ret (pv 3))))), fun H0 N D rt => ?_⟩
  have D' : DOk z.d := D'
  have hc := D'.c
  have hg := D'.g
  refine go_seq (go_new (evn_lst eva_nil) fun p => go_seq ?_)
  refine go_forR (n := z.d.c) (α := Unit) (fun j _ => ⟨H0, N, [(p, (sel z.nd.p j).length, fun k => Ln K (cntS z sh) (entS z sh (z.nd.row k)) .least (z.nd.sp (z.nd.row k)))], [some (Dat K z.d), some (Row z.d.c z.T), some (Bo sh), some (Pt p), none, none]⟩) (fun _ _ => True) (eva_cons (ev_cb ct_len (eva_cons (ev_var rfl) eva_nil)) eva_nil) (by omega)
    ⟨(), trivial, fun σ H st => (st.mset rfl fun k hk => absurd hk (Nat.not_lt_zero k)).wk (by repeat first | exact Wk.nil | refine Wk.keep ?_ | refine Wk.drop ?_)⟩ (fun j _ hj _ => ?_) fun _ _ => ?_
  · have er : ∀ {M : Mt} {a b c : Option Rp}, EV ⟨H0, N, M, [a, some (Row z.d.c z.T), b, c, some (Nt j), none]⟩ (tOp (rIxL K) (tVar 1) (tVar 4)) (Ob (z.T j)) := fun {M a b c} => ev_op (ot_ixL (R := fun j => Ob (z.T j)) rfl hj) (ev_var rfl) (ev_var rfl)
    have hl := sel_le (p := z.nd.p) j
    cases eT : z.T j with
    | none =>
      have pj : z.nd.p j = false := Nd.p_none (z := z.nd) eT
      rw [eT] at er
      exact go_if (b := false) (et_test (ev_op (ot_notN ob_none) er ev_non)) (fun e => by cases e) fun _ => go_next fun σ H st => ⟨(), trivial, by rw [sel_off pj]; exact st.wk (by repeat first | exact Wk.nil | refine Wk.keep ?_ | refine Wk.drop ?_)⟩
    | some b =>
      have pj : z.nd.p j = true := Nd.p_some (z := z.nd) (b := b) eT
      have hjz : j < z.nd.c := hj
      obtain ⟨_, rk⟩ := sel_rank hjz pj
      have rk' : z.nd.row (sel z.nd.p j).length = j := rk
      rw [eT] at er
      refine go_if (b := true) (et_test (ev_op (ot_notN ob_none) er ev_non)) (fun _ => ?_) fun e => by cases e
      refine go_seq (go_new (n := z.d.g) (f := fun c => Fr K (z.d.pr j c)) (evn_list (ev_op (ot_ixT (k := 0) rfl rfl) (ev_op (ot_ixL rfl hj) (ev_buys (ev_var rfl)) (ev_var rfl)) ev_int)) fun q => go_seq ?_)
      refine go_ifj ⟨H0, N, [(q, cntS z sh, fun c => Fr K (entS z sh j c)), (p, (sel z.nd.p j).length, fun k => Ln K (cntS z sh) (entS z sh (z.nd.row k)) .least (z.nd.sp (z.nd.row k)))], [some (Dat K z.d), some (Row z.d.c z.T), some (Bo sh), some (Pt p), some (Nt j), some (Pt q)]⟩
        (et_test (ev_var rfl)) (fun e nx kk => ?_) (fun e nx kk => go_next fun σ H st => kk σ H ?_) ?_
      · have hs : sh = true := e
        refine go_app (M1 := []) rfl rfl (by omega) (R := Fr K (if b = true then -1 else 0)) (ev_if (b := b) (et_test (ob_some (ev_eq (ev_op (ot_ixL (R := fun j => Ob (z.T j)) rfl hj) (ev_var rfl) (ev_var rfl)) (by rw [eT])))) (fun hb => by rw [if_pos hb]; exact ev_neg (ev_one G)) fun hb => by rw [if_neg (by rw [hb]; exact Bool.false_ne_true)]; exact ev_zero G) fun σ H st => kk σ H ?_
        refine (st.mset (by unfold cntS; rw [if_pos hs]) (snoc_at (fun c hc' => ?_) ?_)).wk (by repeat first | exact Wk.nil | refine Wk.keep ?_ | refine Wk.drop ?_)
        · show Fr K (z.d.pr j c) = Fr K (entS z sh j c)
          unfold entS
          rw [if_pos hc']
        · show Fr K (if b = true then -1 else 0) = Fr K (entS z sh j z.d.g)
          unfold entS
          rw [if_neg (Nat.lt_irrefl _), if_pos hs, eT]
          congr 1
          cases b <;> rfl
      · have hs : sh = false := e
        refine (st.mset (by unfold cntS; rw [if_neg (by rw [hs]; exact Bool.false_ne_true)]) fun c hc' H v r => ?_).wk (by repeat first | exact Wk.nil | refine Wk.keep ?_ | refine Wk.drop ?_)
        show (Fr K (entS z sh j c)).p H v
        unfold entS
        rw [if_pos hc']
        exact r
      · refine go_freeze (i := 5) rfl rfl ?_
        obtain ⟨o2, _⟩ := D'.dot hj hj
        refine go_app (M1 := []) rfl rfl (by omega) (R := Ln K (cntS z sh) (entS z sh j) .least (z.nd.sp j)) (ev_tup (eva_cons (ev_var rfl) (eva_cons ev_str (eva_cons (ev_spent (ev_var rfl) (ev_var rfl) hj o2) eva_nil)))) fun σ H st => ⟨(), trivial, (st.mset (sel_on pj).symm (snoc_at (fun _ _ => rfl) ?_)).wk (by repeat first | exact Wk.nil | refine Wk.keep ?_ | refine Wk.drop ?_)⟩
        show Ln K (cntS z sh) (entS z sh j) .least (z.nd.sp j) = Ln K (cntS z sh) (entS z sh (z.nd.row (sel z.nd.p j).length)) .least (z.nd.sp (z.nd.row (sel z.nd.p j).length))
        rw [rk']
  · refine go_freeze (i := 3) rfl rfl ?_
    exact go_back rt (ev_var rfl)
abbrev s_row_prices : Stmt := (topS 57)
theorem sc_row_prices : FnScope ["rows", "prices", "result", "at", "row"] ["rows", "prices"] (defScope s_row_prices) := ⟨rfl, rfl, rfl, by decide +kernel, rfl, by decide +kernel, by decide +kernel⟩

structure RpV where
  z : NdV
  y : Nat → Rat
def sp_row_prices (K : PySem.W.Frag) : Sp := spR (fun z : RpV => [Row z.z.d.c z.z.T, Fl K z.z.nd.rl.length z.y]) (fun z => z.z.d.c ≤ 4) (fun z => Fl K z.z.d.c (z.z.nd.pap z.y))
theorem ok_row_prices (G : Gb K mg) (F : Def0 K mg "row_prices" s_row_prices ["rows", "prices"]) : DefOk P w K mg base "row_prices" 1 ["rows", "prices"] (sp_row_prices K) := by
  refine okD F sc_row_prices (fun _ => rfl) (by decide) fun f cdv A outer s H E hr ⟨z, y⟩ hc => ⟨_, (pss_cons (ps_set (i := 2) sc_row_prices.nd rfl (.inl rfl) (pe_lst pa_nil))
        (pss_cons (ps_set (i := 3) sc_row_prices.nd rfl (.inl rfl) pe_int)
        (pss_cons (ps_for PassesOwn.never rfl (pi_listK (K := K) rfl (pv 0)) (pg_name (i := 4) sc_row_prices.nd rfl (.inl rfl)) (pss_one (ps_if (pt_cmpR op_isN (pv 4) pe_non (nomark _)) (pss_one (ps_expr (pe_appK (K := K) rfl (pv 2) (pa_cons (pe_glob (v := .ref G.zero.choose) rfl G.zero.choose_spec.1 rfl) pa_nil)))) (pss_cons (ps_expr (pe_appK (K := K) rfl (pv 2) (pa_cons (pe_ix (r := rIxL K) ix_list (pv 1) (pv 3) (fun _ _ => rfl)) pa_nil)))
        (pss_one (ps_set (i := 3) sc_row_prices.nd rfl (.inl rfl) (pe_op op_add (pv 3) pe_int)))))))
        (pss_one (ps_ret (pv 2)))))), fun H0 N D rt => ?_⟩
  have hc : z.d.c ≤ 4 := hc
  refine go_seq (go_new (evn_lst eva_nil) fun p => go_seq (go_set ev_int (go_seq ?_)))
  refine go_forL (α := Unit) (fun G' j _ => ⟨G', N, [(p, j, fun j => Fr K (z.nd.pap y j))], [some (Row z.d.c z.T), some (Fl K z.nd.rl.length y), some (Pt p), some (Nt (sel z.nd.p j).length), none]⟩)
    (fun G' j _ => ⟨G', N, [(p, j, fun j => Fr K (z.nd.pap y j))], [some (Row z.d.c z.T), some (Fl K z.nd.rl.length y), some (Pt p), some (Nt (sel z.nd.p j).length), some (Ob (z.T j))]⟩) (fun _ _ => True) (ev_var rfl) (fun _ _ _ => ⟨rfl, rfl, rfl⟩)
    (fun G' => ⟨(), trivial, fun σ H st => st.mset rfl fun k hk => absurd hk (Nat.not_lt_zero k)⟩) (fun _ _ _ _ => gt_name) (fun G' j _ s1 hj _ => ?_) fun G' _ s1 _ => ?_
  · cases eT : z.T j with
    | none =>
      have pj : z.nd.p j = false := Nd.p_none (z := z.nd) eT
      refine go_if (b := true) (et_test (ev_op (ot_isN (R := Ob none) ob_none) (ev_var rfl) ev_non)) (fun _ => ?_) fun e => by cases e
      refine go_app (M1 := []) rfl rfl (by omega) (ev_zero G) fun σ H st => ⟨(), trivial, ?_⟩
      rw [sel_off pj]
      refine (st.mset rfl (snoc_at (fun _ _ => rfl) ?_)).wk (by repeat first | exact Wk.nil | refine Wk.keep ?_ | refine Wk.drop ?_)
      show Fr K 0 = Fr K (z.nd.pap y j)
      rw [Nd.pap_out eT]
    | some b =>
      have pj : z.nd.p j = true := Nd.p_some (z := z.nd) eT
      have hl := (sel_rank (p := z.nd.p) hj pj).1
      refine go_if (b := false) (et_test (ev_op (ot_isN (R := Ob (some b)) ob_none) (ev_var rfl) ev_non)) (fun e => by cases e) fun _ => ?_
      refine go_seq (go_app (M1 := []) rfl rfl (by omega) (R := Fr K (y (sel z.nd.p j).length)) (ev_op (ot_ixL (R := fun k => Fr K (y k)) rfl hl) (ev_var rfl) (ev_var rfl)) (go_set (ev_iadd (ev_var rfl) ev_int) fun σ H st => ⟨(), trivial, ?_⟩))
      rw [sel_on pj]
      refine (st.mset rfl (snoc_at (fun _ _ => rfl) ?_)).wk (by repeat first | exact Wk.nil | refine Wk.keep ?_ | refine Wk.drop ?_)
      show Fr K (y (sel z.nd.p j).length) = Fr K (z.nd.pap y j)
      unfold Nd.pap
      rw [if_pos pj]
  · refine go_freeze (i := 2) rfl rfl ?_
    exact go_back (rt.base s1) (ev_var rfl)
abbrev s_prices_allowed : Stmt := (topS 58)
theorem sc_prices_allowed : FnScope ["rows", "given_prices", "j"] ["rows", "given_prices"] (defScope s_prices_allowed) := ⟨rfl, rfl, rfl, by decide +kernel, rfl, by decide +kernel, by decide +kernel⟩

structure PpV where
  z : NdV
  P : Nat → Rat
def sp_prices_allowed (K : PySem.W.Frag) : Sp := spR (fun z : PpV => [Row z.z.d.c z.z.T, Fl K z.z.d.c z.P]) (fun z => z.z.d.c ≤ 4 ∧ ∀ j, j < z.z.d.c → Mid (z.P j)) (fun z => Exr (fun b : Bool => b = true ↔ ∀ j, j < z.z.d.c → 0 ≤ z.P j ∧ (z.z.T j = none → z.P j = 0)) Bo)
theorem ok_prices_allowed (G : Gb K mg) (F : Def0 K mg "prices_allowed" s_prices_allowed ["rows", "given_prices"]) (d_less : DefOk P w K mg base "less" 1 ["a", "b"] (sp_less K)) : DefOk P w K mg base "prices_allowed" 2 ["rows", "given_prices"] (sp_prices_allowed K) := by
  refine okD F sc_prices_allowed (fun _ => rfl) (by decide) fun f cdv A outer s H E hr ⟨z, Q⟩ h => ⟨_, (pss_cons (ps_if (pt_cmpR op_ne (pe_callB (r := rLenQ K) call_len_seq (by rfl) G.len PySem.boot_len (pa_cons (pv 1) pa_nil)) (pe_callB (r := rLenQ K) call_len_seq (by rfl) G.len PySem.boot_len (pa_cons (pv 0) pa_nil)) (nomark _)) (pss_one (ps_ret pe_bl)) pss_nil)
        (pss_cons (ps_for PassesOwn.never rfl (pi_range1 (by rfl) G.range (pa_cons (pe_callB (r := rLenQ K) call_len_seq (by rfl) G.len PySem.boot_len (pa_cons (pv 0) pa_nil)) pa_nil)) (pg_name (i := 2) sc_prices_allowed.nd rfl (.inl rfl)) (pss_one (ps_if (PW.pt (pw_or (pt_val (pe_cd d_less (hr.mono (by decide)) (by rfl) (pa_cons (pe_ix (r := rIxL K) ix_list (pv 1) (pv 2) (fun _ _ => rfl)) (pa_cons (pe_glob (v := .ref G.zero.choose) rfl G.zero.choose_spec.1 rfl) pa_nil)))) (pw_or1 (PW.pt (pw_and (pt_cmpR op_isN (pe_ix (r := rIxL K) ix_list (pv 0) (pv 2) (fun _ _ => rfl)) pe_non (nomark _)) (pw_and1 (pt_cmpR (r := rNeD K) (op_neD hr.units) (pe_ix (r := rIxL K) ix_list (pv 1) (pv 2) (fun _ _ => rfl)) (pe_glob (v := .ref G.zero.choose) rfl G.zero.choose_spec.1 rfl) (nomark _)))))))) (pss_one (ps_ret pe_bl)) pss_nil)))
        (pss_one (ps_ret pe_bl)))), fun H0 N D rt => ?_⟩
  have hc : z.d.c ≤ 4 := h.1
  have hm : ∀ j, j < z.d.c → Mid (Q j) := h.2
  refine go_seq (go_if (b := false) (et_eq (et_test (ev_op ot_neI (ev_cb ct_len (eva_cons (ev_var rfl) eva_nil)) (ev_cb ct_len (eva_cons (ev_var rfl) eva_nil)))) (by simp)) (fun e => by cases e) fun _ => go_next (go_seq ?_))
  refine go_forR (n := z.d.c) (α := Unit) (fun k _ => ⟨H0, N, [], [some (Row z.d.c z.T), some (Fl K z.d.c Q), none]⟩) (fun k _ => ∀ j, j < k → 0 ≤ Q j ∧ (z.T j = none → Q j = 0)) (eva_cons (ev_cb ct_len (eva_cons (ev_var rfl) eva_nil)) eva_nil) (by omega)
    ⟨(), fun j hj => absurd hj (Nat.not_lt_zero j), fun σ H st => st⟩ (fun k _ hk I => ?_) fun _ I => ?_
  · refine go_if (et_or (et_B (ev_less (ev_op (ot_ixL (R := fun k => Fr K (Q k)) rfl hk) (ev_var rfl) (ev_var rfl)) (ev_zero G) (hm k hk) mid0)) fun _ => et_and (et_test (ev_op (ot_isN ob_none) (ev_op (ot_ixL (R := fun k => Ob (z.T k)) rfl hk) (ev_var rfl) (ev_var rfl)) ev_non)) fun _ => et_test (ev_op ot_neF (ev_op (ot_ixL (R := fun k => Fr K (Q k)) rfl hk) (ev_var rfl) (ev_var rfl)) (ev_zero G))) (fun e => ?_) fun e => go_next fun σ H st => ⟨(), fun j hj => ?_, st.wk (by repeat first | exact Wk.nil | refine Wk.keep ?_ | refine Wk.drop ?_)⟩
    · refine go_ex (f := Bo) rt false ⟨fun z => (nomatch z), fun hh => ?_⟩ ev_bl
      obtain ⟨a, b⟩ := hh k hk
      have e1 : decide (Q k < 0) = false := decide_eq_false (Rat.not_lt.mpr a)
      rw [e1, Bool.false_or] at e
      cases eT : z.T k with
      | none =>
        have e2 : decide (Q k = 0) = true := decide_eq_true (b eT)
        rw [e2, Bool.not_true, Bool.and_false] at e
        cases e
      | some x =>
        rw [eT] at e
        cases e
    · by_cases c : j = k
      · subst c
        refine ⟨?_, fun eT => ?_⟩
        · refine Rat.not_lt.mp fun y => ?_
          have e1 : decide (Q j < 0) = true := decide_eq_true y
          rw [e1, Bool.true_or] at e
          cases e
        · refine Classical.byContradiction fun y => ?_
          have e2 : decide (Q j = 0) = false := decide_eq_false y
          rw [eT, e2] at e
          have : (decide (Q j < 0) || true) = false := e
          rw [Bool.or_true] at this
          cases this
      · exact I j (by omega)
  · exact go_ex (f := Bo) rt true ⟨fun _ => I, fun _ => rfl⟩ ev_bl
abbrev s_some_strict : Stmt := (topS 59)
theorem sc_some_strict : FnScope ["rows", "given_prices", "j"] ["rows", "given_prices"] (defScope s_some_strict) := ⟨rfl, rfl, rfl, by decide +kernel, rfl, by decide +kernel, by decide +kernel⟩

def sp_some_strict (K : PySem.W.Frag) : Sp := spR (fun z : PpV => [Row z.z.d.c z.z.T, Fl K z.z.d.c z.P]) (fun z => z.z.d.c ≤ 4 ∧ ∀ j, j < z.z.d.c → Mid (z.P j)) (fun z => Exr (fun b : Bool => b = true ↔ ∃ j, j < z.z.d.c ∧ z.z.T j = some true ∧ 0 < z.P j) Bo)
theorem ok_some_strict (G : Gb K mg) (F : Def0 K mg "some_strict" s_some_strict ["rows", "given_prices"]) (d_less : DefOk P w K mg base "less" 1 ["a", "b"] (sp_less K)) : DefOk P w K mg base "some_strict" 2 ["rows", "given_prices"] (sp_some_strict K) := by
  refine okD F sc_some_strict (fun _ => rfl) (by decide) fun f cdv A outer s H E hr ⟨z, Q⟩ h => ⟨_, (pss_cons (ps_for PassesOwn.never rfl (pi_range1 (by rfl) G.range (pa_cons (pe_callB (r := rLenQ K) call_len_seq (by rfl) G.len PySem.boot_len (pa_cons (pv 0) pa_nil)) pa_nil)) (pg_name (i := 2) sc_some_strict.nd rfl (.inl rfl)) (pss_one (ps_if (PW.pt (pw_and (pt_cmpR (op_isO) (pe_ix (r := rIxL K) ix_list (pv 0) (pv 2) (fun _ _ => rfl)) pe_bl (nomark _)) (pw_and1 (pt_val (pe_cd d_less (hr.mono (by decide)) (by rfl) (pa_cons (pe_glob (v := .ref G.zero.choose) rfl G.zero.choose_spec.1 rfl) (pa_cons (pe_ix (r := rIxL K) ix_list (pv 1) (pv 2) (fun _ _ => rfl)) pa_nil))))))) (pss_one (ps_ret pe_bl)) pss_nil)))
        (pss_one (ps_ret pe_bl))), fun H0 N D rt => ?_⟩
  have hc : z.d.c ≤ 4 := h.1
  have hm : ∀ j, j < z.d.c → Mid (Q j) := h.2
  refine go_seq ?_
  refine go_forR (n := z.d.c) (α := Unit) (fun k _ => ⟨H0, N, [], [some (Row z.d.c z.T), some (Fl K z.d.c Q), none]⟩) (fun k _ => ∀ j, j < k → ¬ (z.T j = some true ∧ 0 < Q j)) (eva_cons (ev_cb ct_len (eva_cons (ev_var rfl) eva_nil)) eva_nil) (by omega)
    ⟨(), fun j hj => absurd hj (Nat.not_lt_zero j), fun σ H st => st⟩ (fun k _ hk I => ?_) fun _ I => ?_
  · refine go_if (et_and (et_test (ev_op ot_isO (ev_op (ot_ixL (R := fun k => Ob (z.T k)) rfl hk) (ev_var rfl) (ev_var rfl)) ev_bl)) fun _ => et_B (ev_less (ev_zero G) (ev_op (ot_ixL (R := fun k => Fr K (Q k)) rfl hk) (ev_var rfl) (ev_var rfl)) mid0 (hm k hk))) (fun e => ?_) fun e => go_next fun σ H st => ⟨(), fun j hj => ?_, st.wk (by repeat first | exact Wk.nil | refine Wk.keep ?_ | refine Wk.drop ?_)⟩
    · simp only [Bool.and_eq_true] at e
      exact go_ex (f := Bo) rt true ⟨fun _ => ⟨k, hk, of_decide_eq_true e.1, of_decide_eq_true e.2⟩, fun _ => rfl⟩ ev_bl
    · by_cases c : j = k
      · subst c
        intro ⟨a, b⟩
        have e1 : decide (z.T j = some true) = true := decide_eq_true a
        have e2 : decide (0 < Q j) = true := decide_eq_true b
        rw [e1, e2] at e
        cases e
      · exact I j (by omega)
  · exact go_ex (f := Bo) rt false ⟨fun z => (nomatch z), fun ⟨j, hj, a⟩ => absurd a (I j hj)⟩ ev_bl
abbrev s_shared_lines : Stmt := (topS 60)
theorem sc_shared_lines : FnScope ["data", "prices", "money", "rows", "goods", "most", "k"] ["data", "prices", "money", "rows"] (defScope s_shared_lines) := ⟨rfl, rfl, rfl, by decide +kernel, rfl, by decide +kernel, by decide +kernel⟩

structure ShV where
  z : NdV
  v : Rat
def sp_shared_lines (K : PySem.W.Frag) : Sp := spR (fun x : ShV => [Dat K x.z.d, Fl K x.z.d.g x.z.q, Fr K x.v, Row x.z.d.c x.z.T]) (fun x => DOk x.z.d) (fun x => Lns K (x.z.nd.lp2 x.v))
theorem ok_shared_lines (G : Gb K mg) (F : Def0 K mg "shared_lines" s_shared_lines ["data", "prices", "money", "rows"]) (d_row_lines : DefOk P w K mg base "row_lines" 5 ["data", "rows", "shared"] (sp_row_lines K)) : DefOk P w K mg base "shared_lines" 6 ["data", "prices", "money", "rows"] (sp_shared_lines K) := by
  refine okD F sc_shared_lines (fun _ => rfl) (by decide) fun f cdv A outer s H E hr ⟨z, v⟩ D' => ⟨_, (pss_cons (ps_set (i := 4) sc_shared_lines.nd rfl (.inl rfl) (pe_callB (r := rLenQ K) call_len_seq (by rfl) G.len PySem.boot_len (pa_cons (pv 1) pa_nil)))
        (pss_cons (ps_set (i := 5) sc_shared_lines.nd rfl (.inl rfl) (pe_tup (pa_cons (pe_op op_cat (pe_lc (own := [("k", 6)]) (g := (gName 6)) (tt := tYes) rfl sc_shared_lines.nd (pi_range1 (by rfl) G.range (pa_cons (pv 4) pa_nil)) (blkOk_by (N := ["data", "prices", "money", "rows", "goods", "most", "k"]) (own := [("k", 6)]) (sc := (defScope s_shared_lines)) (by decide +kernel)) (fun _ _ _ _ _ => (pg_name (i := 6) sc_shared_lines.nd rfl (.inl rfl))) (fun _ _ _ _ _ => pts_nil) (fun _ _ _ _ _ => (pe_glob (v := .ref G.zero.choose) rfl G.zero.choose_spec.1 rfl))) (pe_lst (pa_cons (pe_glob (v := .ref G.one.choose) rfl G.one.choose_spec.1 rfl) pa_nil))) (pa_cons pe_str (pa_cons (pe_glob (v := .ref G.one.choose) rfl G.one.choose_spec.1 rfl) pa_nil)))))
        (pss_one (ps_ret (pe_op op_cat (pe_lst (pa_cons (pe_tup (pa_cons (pe_op op_cat (pe_callTy (r := rListQ K) call_list_of (by rfl) G.list (by decide +kernel) (pa_cons (pv 1) pa_nil)) (pe_lst (pa_cons (pe_glob (v := .ref G.zero.choose) rfl G.zero.choose_spec.1 rfl) pa_nil))) (pa_cons pe_str (pa_cons (pv 2) pa_nil)))) (pa_cons (pv 5) pa_nil))) (pe_cd d_row_lines (hr.mono (by decide)) (by rfl) (pa_cons (pv 0) (pa_cons (pv 3) (pa_cons pe_bl pa_nil))))))))), fun H0 N D rt => ?_⟩
  have D' : DOk z.d := D'
  have hg := D'.g
  have hl : z.nd.rl.length ≤ 4 := Nat.le_trans (sel_le z.d.c) D'.c
  refine go_seq (go_set (R := Nt z.d.g) (ev_cb ct_len (eva_cons (ev_var rfl) eva_nil)) (go_seq ?_))
  refine go_set (R := Ln K (z.d.g + 1) ((z.nd.lp2 v).ent 1) .most 1) (ev_tup (eva_cons (ev_sub (evn_cat (n := z.d.g) (m := 1) (evn_lcR (n := z.d.g) (R := fun _ => Fr K 0) (eva_cons (ev_var rfl) eva_nil) (by omega) fun Dq k _ => ev_zero G).ev (evn_lst (eva_cons (ev_one G) eva_nil)).ev (by omega)).ev (li_eq (n := z.d.g + 1) fun c hc => ?_)) (eva_cons ev_str (eva_cons (ev_one G) eva_nil)))) ?_
  · show (if c < z.d.g then Fr K 0 else ([Fr K 1] : List Rp).getD (c - z.d.g) Ay) = Fr K (if c < z.d.g then 0 else 1)
    by_cases e : c < z.d.g
    · rw [if_pos e, if_pos e]
    · have : c = z.d.g := by omega
      rw [if_neg e, if_neg e, this, Nat.sub_self]
      rfl
  refine go_back (R := Lns K (z.nd.lp2 v)) rt (ev_sub (evn_cat (n := 2) (m := z.nd.rl.length) (evn_lst (eva_cons (ev_tup (K := K) (eva_cons (ev_sub (evn_cat (n := z.d.g) (m := 1) (R := fun c => Fr K (z.q c)) (evn_list (ev_var rfl)).ev (evn_lst (eva_cons (ev_zero G) eva_nil)).ev (by omega)).ev (li_eq (n := z.d.g + 1) (f' := fun c => Fr K ((z.nd.lp2 v).ent 0 c)) fun c hc => ?_)) (eva_cons ev_str (eva_cons (ev_var rfl) eva_nil)))) (eva_cons (ev_var rfl) eva_nil))).ev (ev_call (z, true) (eva_cons (ev_var rfl) (eva_cons (ev_var rfl) (eva_cons ev_bl eva_nil))) D') (by omega)).ev ?_)
  · show (if c < z.d.g then Fr K (z.q c) else ([Fr K 0] : List Rp).getD (c - z.d.g) Ay) = Fr K (if c < z.d.g then z.q c else 0)
    by_cases e : c < z.d.g
    · rw [if_pos e, if_pos e]
    · have : c = z.d.g := by omega
      rw [if_neg e, if_neg e, this, Nat.sub_self]
      rfl
  · intro H u r
    have em : 2 + z.nd.rl.length = (z.nd.lp2 v).m := by show _ = z.nd.rl.length + 2; omega
    have r' : (Li (z.nd.lp2 v).m (glue 2 (fun k => ([Tp K [Fl K (z.d.g + 1) ((z.nd.lp2 v).ent 0), Sr "equal", Fr K v], Ln K (z.d.g + 1) ((z.nd.lp2 v).ent 1) .most 1] : List Rp).getD k Ay) (fun k => Ln K (cntS z true) (entS z true (z.nd.row k)) .least (z.nd.sp (z.nd.row k))))).p H u := by
      rw [← em]; exact r
    refine li_eq (fun k hk => ?_) H u r'
    unfold glue
    rcases k with _ | _ | k
    · rfl
    · rfl
    · rw [if_neg (by omega)]
      show Ln K (cntS z true) (entS z true (z.nd.row k)) .least (z.nd.sp (z.nd.row k)) = Ln K (z.nd.lp2 v).cnt ((z.nd.lp2 v).ent (k + 2)) ((z.nd.lp2 v).kind (k + 2)) ((z.nd.lp2 v).right (k + 2))
      rfl
end
end BB
namespace BB
open PySem PySem.Spec PyProof.Rows L2
section
variable {P : Program} {w : World} {K : PySem.W.Frag} {mg : Str → Option Value} {base : Heap}
/-! ### the judges -/
abbrev s_need_holds : Stmt := (topS 62)
theorem sc_need_holds : FnScope ["data", "prices", "money", "paper", "total", "k", "sums", "j"] ["data", "prices", "money", "paper"] (defScope s_need_holds) := ⟨rfl, rfl, rfl, by decide +kernel, rfl, by decide +kernel, by decide +kernel⟩

structure NhV where
  z : NdV
  v : Rat
  P : Nat → Rat
structure NhOk (x : NhV) : Prop where
  d : DOk x.z.d
  v : Mid x.v
  q : ∀ k, k < x.z.d.g → Mid (x.z.q k)
  pb : Nd.PB x.z.nd x.P
def sp_need_holds (K : PySem.W.Frag) : Sp := spR (fun x : NhV => [Dat K x.z.d, Fl K x.z.d.g x.z.q, Fr K x.v, Fl K x.z.d.c x.P]) NhOk (fun x => Exr (fun b : Bool => b = true ↔ (∀ k, k < x.z.d.g → sm x.z.d.c (fun j => x.P j * x.z.d.pr j k) ≤ x.z.q k) ∧ x.v ≤ sm x.z.d.c (fun j => x.P j * x.z.nd.sp j)) Bo)
theorem ok_need_holds (G : Gb K mg) (F : Def0 K mg "need_holds" s_need_holds ["data", "prices", "money", "paper"]) (d_add : DefOk P w K mg base "add" 2 ["a", "b"] (sp_add K)) (d_mul : DefOk P w K mg base "mul" 2 ["a", "b"] (sp_mul K)) (d_spent : DefOk P w K mg base "spent" 4 ["data", "i"] (sp_spent K))
    (d_add_scaled : DefOk P w K mg base "add_scaled" 3 ["a", "k", "b"] (sp_add_scaled K)) (d_less : DefOk P w K mg base "less" 1 ["a", "b"] (sp_less K)) (d_at_most : DefOk P w K mg base "at_most" 1 ["a", "b"] (sp_at_most K)) : DefOk P w K mg base "need_holds" 5 ["data", "prices", "money", "paper"] (sp_need_holds K) := by
  refine okD F sc_need_holds (fun _ => rfl) (by decide) fun f cdv A outer s H E hr ⟨z, v, Q⟩ h => ⟨_, (pss_cons (ps_set (i := 4) sc_need_holds.nd rfl (.inl rfl) (pe_glob (v := .ref G.zero.choose) rfl G.zero.choose_spec.1 rfl))
        (pss_cons (ps_setLc (i := 6) (own := [("k", 5)]) (g := (gName 5)) (tt := tYes) rfl sc_need_holds.nd rfl rfl (sw_true rfl rfl rfl (by decide +kernel)) (pi_listK (K := K) rfl (pv 1)) (blkOk_by (N := ["data", "prices", "money", "paper", "total", "k", "sums", "j"]) (own := [("k", 5)]) (sc := (defScope s_need_holds)) (by decide +kernel)) (fun _ _ _ _ _ => (pg_name (i := 5) sc_need_holds.nd rfl (.inl rfl))) (fun _ _ _ _ _ => pts_nil) (fun _ _ _ _ _ => (pe_glob (v := .ref G.zero.choose) rfl G.zero.choose_spec.1 rfl)))
        (pss_cons (ps_for PassesOwn.never rfl (pi_range1 (by rfl) G.range (pa_cons (pe_callB (r := rLenQ K) call_len_seq (by rfl) G.len PySem.boot_len (pa_cons (pv 3) pa_nil)) pa_nil)) (pg_name (i := 7) sc_need_holds.nd rfl (.inl rfl)) (pss_cons (ps_set (i := 4) sc_need_holds.nd rfl (.inl rfl) (pe_cd d_add (hr.mono (by decide)) (by rfl) (pa_cons (pv 4) (pa_cons (pe_cd d_mul (hr.mono (by decide)) (by rfl) (pa_cons (pe_ix (r := rIxL K) ix_list (pv 3) (pv 7) (fun _ _ => rfl)) (pa_cons (pe_cd d_spent (hr.mono (by decide)) (by rfl) (pa_cons (pv 0) (pa_cons (pv 7) pa_nil))) pa_nil))) pa_nil))))
        (pss_one (ps_set (i := 6) sc_need_holds.nd rfl (.inl rfl) (pe_cd d_add_scaled (hr.mono (by decide)) (by rfl) (pa_cons (pv 6) (pa_cons (pe_ix (r := rIxL K) ix_list (pv 3) (pv 7) (fun _ _ => rfl)) (pa_cons (pe_ix (r := rIxT K) ix_tup (pe_ix (r := rIxL K) ix_list (pe_fldK (K := K) rfl (pv 0) rfl) (pv 7) (fun _ _ => rfl)) pe_int (fun _ _ => rfl)) pa_nil))))))))
        (pss_cons (ps_for PassesOwn.never rfl (pi_range1 (by rfl) G.range (pa_cons (pe_callB (r := rLenQ K) call_len_seq (by rfl) G.len PySem.boot_len (pa_cons (pv 1) pa_nil)) pa_nil)) (pg_name (i := 5) sc_need_holds.nd rfl (.inl rfl)) (pss_one (ps_if (pt_val (pe_cd d_less (hr.mono (by decide)) (by rfl) (pa_cons (pe_ix (r := rIxL K) ix_list (pv 1) (pv 5) (fun _ _ => rfl)) (pa_cons (pe_ix (r := rIxL K) ix_list (pv 6) (pv 5) (fun _ _ => rfl)) pa_nil)))) (pss_one (ps_ret pe_bl)) pss_nil)))
        (pss_one (ps_ret (pe_cd d_at_most (hr.mono (by decide)) (by rfl) (pa_cons (pv 2) (pa_cons (pv 4) pa_nil))))))))), fun H0 N D rt => ?_⟩
  have D' : DOk z.d := h.d
  have hc := D'.c
  have hg := D'.g
  have mv : Mid v := h.v
  have mq : ∀ k, k < z.d.g → Mid (z.q k) := h.q
  have pb : Nd.PB z.nd Q := h.pb
  refine go_seq (go_set (ev_zero G) (go_seq ?_))
  refine go_set (R := Fl K z.d.g fun _ => 0) (evn_lcL (n := z.d.g) (R := fun _ => Fr K 0) (ev_var rfl) (by omega) fun Dq k _ => ev_zero G).ev (go_seq ?_)
  refine go_forR (n := z.d.c) (α := Unit) (fun j _ => ⟨H0, N, [], [some (Dat K z.d), some (Fl K z.d.g z.q), some (Fr K v), some (Fl K z.d.c Q), some (Fr K (sm j fun j => Q j * z.nd.sp j)), none, some (Fl K z.d.g fun k => sm j fun j => Q j * z.d.pr j k), none]⟩) (fun _ _ => True) (eva_cons (ev_cb ct_len (eva_cons (ev_var rfl) eva_nil)) eva_nil) (by omega)
    ⟨(), trivial, fun σ H st => st⟩ (fun j _ hj _ => ?_) fun _ _ => ?_
  · obtain ⟨o2, b2⟩ := D'.dot hj hj
    have bQ := pb.p j hj
    have bsp : Bd 166 81 (z.nd.sp j) := b2
    refine go_seq (go_set (R := Fr K (sm (j + 1) fun j => Q j * z.nd.sp j)) (ev_add (ev_var rfl) (ev_mul (b := z.nd.sp j) (ev_op (ot_ixL (R := fun k => Fr K (Q k)) rfl hj) (ev_var rfl) (ev_var rfl)) (ev_spent (ev_var rfl) (ev_var rfl) hj o2) (bQ.ok2 bsp (by decide))) ((pb.t j (Nat.le_of_lt hj)).ok2 (bQ.mul bsp) (by decide))) ?_)
    refine go_set (R := Fl K z.d.g fun k => sm (j + 1) fun j => Q j * z.d.pr j k) (ev_add_scaled (ev_var rfl) (ev_op (ot_ixL (R := fun k => Fr K (Q k)) rfl hj) (ev_var rfl) (ev_var rfl)) (ev_op (ot_ixT (k := 0) rfl rfl) (ev_op (ot_ixL (R := fun i => Buy K z.d.g (z.d.pr i) (z.d.am i)) rfl hj) (ev_buys (ev_var rfl)) (ev_var rfl)) ev_int) ⟨by omega, fun k hk => bQ.ok2 (D'.pr j hj k hk) (by decide), fun k hk => (pb.s j (Nat.le_of_lt hj) k hk).ok2 (bQ.mul (D'.pr j hj k hk)) (by decide)⟩) fun σ H st => ⟨(), trivial, st.wk (by repeat first | exact Wk.nil | refine Wk.keep ?_ | refine Wk.drop ?_)⟩
  · refine go_seq ?_
    refine go_forR (n := z.d.g) (α := Unit) (fun k _ => ⟨H0, N, [], [some (Dat K z.d), some (Fl K z.d.g z.q), some (Fr K v), some (Fl K z.d.c Q), some (Fr K (sm z.d.c fun j => Q j * z.nd.sp j)), none, some (Fl K z.d.g fun k => sm z.d.c fun j => Q j * z.d.pr j k), none]⟩) (fun k _ => ∀ i, i < k → sm z.d.c (fun j => Q j * z.d.pr j i) ≤ z.q i) (eva_cons (ev_cb ct_len (eva_cons (ev_var rfl) eva_nil)) eva_nil) (by omega)
      ⟨(), fun i hi => absurd hi (Nat.not_lt_zero i), fun σ H st => st⟩ (fun k _ hk I => ?_) fun _ I => ?_
    · refine go_if (et_B (ev_less (b := sm z.d.c fun j => Q j * z.d.pr j k) (ev_op (ot_ixL (R := fun k => Fr K (z.q k)) rfl hk) (ev_var rfl) (ev_var rfl)) (ev_op (ot_ixL (R := fun k => Fr K (sm z.d.c fun j => Q j * z.d.pr j k)) rfl hk) (ev_var rfl) (ev_var rfl)) (mq k hk) ((pb.s _ (Nat.le_refl _) k hk).mid (by decide) (by decide)))) (fun e => ?_) fun e => go_next fun σ H st => ⟨(), fun i hi => ?_, st.wk (by repeat first | exact Wk.nil | refine Wk.keep ?_ | refine Wk.drop ?_)⟩
      · refine go_ex (f := Bo) rt false ⟨fun z => (nomatch z), fun hh => ?_⟩ ev_bl
        exact absurd (of_decide_eq_true e) (Rat.not_lt.mpr (hh.1 k hk))
      · by_cases c : i = k
        · subst c
          exact Rat.not_lt.mp (of_decide_eq_false e)
        · exact I i (by omega)
    · refine go_ex (f := Bo) rt (decide (v ≤ sm z.d.c fun j => Q j * z.nd.sp j)) ⟨fun e => ⟨I, of_decide_eq_true e⟩, fun hh => decide_eq_true hh.2⟩ (ev_at_most (ev_var rfl) (ev_var rfl) mv ((pb.t _ (Nat.le_refl _)).mid (by decide) (by decide)))
abbrev s_judge_need : Stmt := (topS 63)
theorem sc_judge_need : FnScope ["data", "i", "prices", "money", "paper"] ["data", "i", "prices", "money", "paper"] (defScope s_judge_need) := ⟨rfl, rfl, rfl, by decide +kernel, rfl, by decide +kernel, by decide +kernel⟩

structure JnV where
  d : DataV
  i : Nat
  q : Nat → Rat
  v : Rat
  P : Nat → Rat
noncomputable abbrev JnV.z (x : JnV) : NdV := ⟨x.d, x.d.led x.i, x.q⟩
structure JnOk (x : JnV) : Prop where
  d : DOk x.d
  i : x.i < x.d.c
  v : Mid x.v
  q : ∀ k, k < x.d.g → Mid (x.q k)
  pb : Nd.PB x.z.nd x.P
abbrev jnPre (K : PySem.W.Frag) (x : JnV) : List Rp := [Dat K x.d, Nt x.i, Fl K x.d.g x.q, Fr K x.v, Fl K x.d.c x.P]
def sp_judge_need (K : PySem.W.Frag) : Sp := spR (jnPre K) JnOk (fun x => Exr (fun b : Bool => b = true ↔ Nd.Holds x.z.nd x.P x.v) Bo)
theorem ok_judge_need (G : Gb K mg) (F : Def0 K mg "judge_need" s_judge_need ["data", "i", "prices", "money", "paper"]) (d_leads : DefOk P w K mg base "leads" 7 ["data"] (sp_leads K)) (d_prices_allowed : DefOk P w K mg base "prices_allowed" 2 ["rows", "given_prices"] (sp_prices_allowed K))
    (d_need_holds : DefOk P w K mg base "need_holds" 5 ["data", "prices", "money", "paper"] (sp_need_holds K)) : DefOk P w K mg base "judge_need" 8 ["data", "i", "prices", "money", "paper"] (sp_judge_need K) := by
  refine okD F sc_judge_need (fun _ => rfl) (by decide) fun f cdv A outer s H E hr ⟨d, i, q, v, Q⟩ h => ⟨_, (pss_one (ps_ret (pe_and (pe_cd d_prices_allowed (hr.mono (by decide)) (by rfl) (pa_cons (pe_ix (r := rIxL K) ix_list (pe_cd d_leads (hr.mono (by decide)) (by rfl) (pa_cons (pv 0) pa_nil)) (pv 1) (fun _ _ => rfl)) (pa_cons (pv 4) pa_nil))) (pe_one (pe_cd d_need_holds (hr.mono (by decide)) (by rfl) (pa_cons (pv 0) (pa_cons (pv 2) (pa_cons (pv 3) (pa_cons (pv 4) pa_nil))))))))), fun H0 N D rt => ?_⟩
  have D' : DOk d := h.d
  have hi : i < d.c := h.i
  have pb : Nd.PB (⟨d, d.led i, q⟩ : NdV).nd Q := h.pb
  refine go_back rt (ev_sub (ev_andE (ev_call (⟨⟨d, d.led i, q⟩, Q⟩ : PpV) (eva_cons (ev_op (ot_ixL (R := fun i => Li d.c fun j => Ob (d.led i j)) rfl hi) (ev_call d (eva_cons (ev_var rfl) eva_nil) D') (ev_var rfl)) (eva_cons (ev_var rfl) eva_nil)) ⟨D'.c, fun j hj => (pb.p j hj).mid (by decide) (by decide)⟩) (ev_call (⟨⟨d, d.led i, q⟩, v, Q⟩ : NhV) (eva_cons (ev_var rfl) (eva_cons (ev_var rfl) (eva_cons (ev_var rfl) (eva_cons (ev_var rfl) eva_nil)))) ⟨D', h.v, h.q, pb⟩)) fun H u ⟨b, ⟨a, ha, hb⟩, r⟩ => ⟨b, ?_, r⟩)
  have ha : a = true ↔ ∀ j, j < d.c → 0 ≤ Q j ∧ (d.led i j = none → Q j = 0) := ha
  rcases hb with ⟨e1, e2⟩ | ⟨e1, e2⟩
  · subst e1 e2
    exact ⟨fun z => (nomatch z), fun hh => absurd (ha.mpr fun j hj => ⟨hh.nn j hj, hh.out j hj⟩) Bool.false_ne_true⟩
  · have a1 := ha.mp e1
    exact ⟨fun z => ⟨fun j hj => (a1 j hj).1, fun j hj => (a1 j hj).2, (e2.mp z).1, (e2.mp z).2⟩, fun hh => e2.mpr ⟨hh.le, hh.val⟩⟩
abbrev s_judge_strict_need : Stmt := (topS 64)
theorem sc_judge_strict_need : FnScope ["data", "i", "prices", "money", "paper"] ["data", "i", "prices", "money", "paper"] (defScope s_judge_strict_need) := ⟨rfl, rfl, rfl, by decide +kernel, rfl, by decide +kernel, by decide +kernel⟩

def StrictR (x : JnV) : Prop := ∃ j, j < x.d.c ∧ x.d.led x.i j = some true ∧ 0 < x.P j
def sp_judge_strict_need (K : PySem.W.Frag) : Sp := spR (jnPre K) JnOk (fun x => Exr (fun b : Bool => b = true ↔ Nd.Holds x.z.nd x.P x.v ∧ StrictR x) Bo)
theorem ok_judge_strict_need (G : Gb K mg) (F : Def0 K mg "judge_strict_need" s_judge_strict_need ["data", "i", "prices", "money", "paper"]) (d_leads : DefOk P w K mg base "leads" 7 ["data"] (sp_leads K)) (d_some_strict : DefOk P w K mg base "some_strict" 2 ["rows", "given_prices"] (sp_some_strict K))
    (d_judge_need : DefOk P w K mg base "judge_need" 8 ["data", "i", "prices", "money", "paper"] (sp_judge_need K)) : DefOk P w K mg base "judge_strict_need" 9 ["data", "i", "prices", "money", "paper"] (sp_judge_strict_need K) := by
  refine okD F sc_judge_strict_need (fun _ => rfl) (by decide) fun f cdv A outer s H E hr ⟨d, i, q, v, Q⟩ h => ⟨_, (pss_one (ps_ret (pe_and (pe_cd d_judge_need (hr.mono (by decide)) (by rfl) (pa_cons (pv 0) (pa_cons (pv 1) (pa_cons (pv 2) (pa_cons (pv 3) (pa_cons (pv 4) pa_nil)))))) (pe_one (pe_cd d_some_strict (hr.mono (by decide)) (by rfl) (pa_cons (pe_ix (r := rIxL K) ix_list (pe_cd d_leads (hr.mono (by decide)) (by rfl) (pa_cons (pv 0) pa_nil)) (pv 1) (fun _ _ => rfl)) (pa_cons (pv 4) pa_nil))))))), fun H0 N D rt => ?_⟩
  have D' : DOk d := h.d
  have hi : i < d.c := h.i
  have pb : Nd.PB (⟨d, d.led i, q⟩ : NdV).nd Q := h.pb
  refine go_back rt (ev_sub (ev_andE (ev_call (⟨d, i, q, v, Q⟩ : JnV) (eva_cons (ev_var rfl) (eva_cons (ev_var rfl) (eva_cons (ev_var rfl) (eva_cons (ev_var rfl) (eva_cons (ev_var rfl) eva_nil))))) h) (ev_call (⟨⟨d, d.led i, q⟩, Q⟩ : PpV) (eva_cons (ev_op (ot_ixL (R := fun i => Li d.c fun j => Ob (d.led i j)) rfl hi) (ev_call d (eva_cons (ev_var rfl) eva_nil) D') (ev_var rfl)) (eva_cons (ev_var rfl) eva_nil)) ⟨D'.c, fun j hj => (pb.p j hj).mid (by decide) (by decide)⟩)) fun H u ⟨b, ⟨a, ha, hb⟩, r⟩ => ⟨b, ?_, r⟩)
  rcases hb with ⟨e1, e2⟩ | ⟨e1, e2⟩
  · subst e1 e2
    exact ⟨fun z => (nomatch z), fun hh => absurd (ha.mpr hh.1) Bool.false_ne_true⟩
  · exact ⟨fun z => ⟨ha.mp e1, e2.mp z⟩, fun hh => e2.mpr hh.2⟩
/-! ### the least need -/
abbrev s_least_need : Stmt := (topS 65)
theorem sc_least_need : FnScope ["data", "i", "prices", "found", "rows", "goods", "kind", "money", "basket", "line_prices", "costs", "paper", "k"] ["data", "i", "prices"] (defScope s_least_need) := ⟨rfl, rfl, rfl, by decide +kernel, rfl, by decide +kernel, by decide +kernel⟩

structure LnOk (x : JnV) : Prop where
  d : DOk x.d
  i : x.i < x.d.c
  nr : ∀ k, k < x.d.c → x.d.led k k ≠ some true
  ok : x.z.nd.Ok
structure LnS (x : JnV) (met : Bool) (v : Rat) (y Q : Nat → Rat) : Prop where
  y : ∀ k, k < x.d.g → Bd 2000 2000 (y k)
  pos : 0 < v
  bd : Bd 909 866 v
  holds : Nd.Holds x.z.nd Q v
  pb : Nd.PB x.z.nd Q
  st : met = false → StrictR { x with P := Q }
def sp_least_need (K : PySem.W.Frag) : Sp := spR (fun x : JnV => [Dat K x.d, Nt x.i, Fl K x.d.g x.q]) LnOk (fun x => Exr (fun a : Bool × Rat × (Nat → Rat) × (Nat → Rat) => LnS x a.1 a.2.1 a.2.2.1 a.2.2.2) (fun a => Tp K [Sr (if a.1 = true then "met" else "near"), Fr K a.2.1, Fl K x.d.g a.2.2.1, Fl K x.d.c a.2.2.2]))
theorem ok_least_need (G : Gb K mg) (F : Def0 K mg "least_need" s_least_need ["data", "i", "prices"]) (d_check : DefOk P w K mg base "check" 8 ["data"] (sp_check K)) (d_leads : DefOk P w K mg base "leads" 7 ["data"] (sp_leads K)) (d_solve : DefOk P w K mg base "solve" 6 ["costs", "lines"] (sp_solve K))
    (d_row_lines : DefOk P w K mg base "row_lines" 5 ["data", "rows", "shared"] (sp_row_lines K)) (d_first_broken : DefOk P w K mg base "first_broken" 6 ["data", "rows", "basket"] (sp_first_broken K)) (d_row_prices : DefOk P w K mg base "row_prices" 1 ["rows", "prices"] (sp_row_prices K))
    (d_neg : DefOk P w K mg base "neg" 1 ["a"] (sp_neg K)) (d_shared_lines : DefOk P w K mg base "shared_lines" 6 ["data", "prices", "money", "rows"] (sp_shared_lines K)) (d_less : DefOk P w K mg base "less" 1 ["a", "b"] (sp_less K)) (d_scale : DefOk P w K mg base "scale" 3 ["k", "a"] (sp_scale K))
    (d_div : DefOk P w K mg base "div" 2 ["a", "b"] (sp_div K)) : DefOk P w K mg base "least_need" 9 ["data", "i", "prices"] (sp_least_need K) := by
  refine okD F sc_least_need (fun _ => rfl) (by decide) fun f cdv A outer s H E hr x h => ⟨_, (pss_cons (ps_set (i := 3) sc_least_need.nd rfl (.inl rfl) (pe_cd d_check (hr.mono (by decide)) (by rfl) (pa_cons (pv 0) pa_nil)))
        (pss_cons (ps_if (pt_cmpR op_eq (pe_ix (r := rIxT K) ix_tup (pv 3) pe_int (fun _ _ => rfl)) pe_str (nomark _)) (pss_one (ps_ret (pv 3))) pss_nil)
        (pss_cons (ps_set (i := 4) sc_least_need.nd rfl (.inl rfl) (pe_ix (r := rIxL K) ix_list (pe_cd d_leads (hr.mono (by decide)) (by rfl) (pa_cons (pv 0) pa_nil)) (pv 1) (fun _ _ => rfl)))
        (pss_cons (ps_set (i := 5) sc_least_need.nd rfl (.inl rfl) (pe_callB (r := rLenQ K) call_len_seq (by rfl) G.len PySem.boot_len (pa_cons (pv 2) pa_nil)))
        (pss_cons (ps_asg (pe_cd d_solve (hr.mono (by decide)) (by rfl) (pa_cons (pv 2) (pa_cons (pe_cd d_row_lines (hr.mono (by decide)) (by rfl) (pa_cons (pv 0) (pa_cons (pv 4) (pa_cons pe_bl pa_nil)))) pa_nil))) (pg_tupK (K := K) rfl (by rfl) (pgs_cons (pg_name (i := 6) sc_least_need.nd rfl (.inl rfl)) (pgs_cons (pg_name (i := 7) sc_least_need.nd rfl (.inl rfl)) (pgs_cons (pg_name (i := 8) sc_least_need.nd rfl (.inl rfl)) (pgs_cons (pg_name (i := 9) sc_least_need.nd rfl (.inl rfl)) pgs_nil))))))
        (pss_cons (ps_if (pt_cmpR op_isN (pe_cd d_first_broken (hr.mono (by decide)) (by rfl) (pa_cons (pv 0) (pa_cons (pv 4) (pa_cons (pv 8) pa_nil)))) pe_non (nomark _)) (pss_one (ps_ret (pe_tup (pa_cons pe_str (pa_cons (pv 7) (pa_cons (pv 8) (pa_cons (pe_cd d_row_prices (hr.mono (by decide)) (by rfl) (pa_cons (pv 4) (pa_cons (pv 9) pa_nil))) pa_nil))))))) pss_nil)
        (pss_cons (ps_set (i := 10) sc_least_need.nd rfl (.inl rfl) (pe_op op_cat (pe_lc (own := [("k", 12)]) (g := (gName 12)) (tt := tYes) rfl sc_least_need.nd (pi_range1 (by rfl) G.range (pa_cons (pv 5) pa_nil)) (blkOk_by (N := ["data", "i", "prices", "found", "rows", "goods", "kind", "money", "basket", "line_prices", "costs", "paper", "k"]) (own := [("k", 12)]) (sc := (defScope s_least_need)) (by decide +kernel)) (fun _ _ _ _ _ => (pg_name (i := 12) sc_least_need.nd rfl (.inl rfl))) (fun _ _ _ _ _ => pts_nil) (fun _ _ _ _ _ => (pe_glob (v := .ref G.zero.choose) rfl G.zero.choose_spec.1 rfl))) (pe_lst (pa_cons (pe_cd d_neg (hr.mono (by decide)) (by rfl) (pa_cons (pe_glob (v := .ref G.one.choose) rfl G.one.choose_spec.1 rfl) pa_nil)) pa_nil))))
        (pss_cons (ps_set (i := 3) sc_least_need.nd rfl (.inl rfl) (pe_cd d_solve (hr.mono (by decide)) (by rfl) (pa_cons (pv 10) (pa_cons (pe_cd d_shared_lines (hr.mono (by decide)) (by rfl) (pa_cons (pv 0) (pa_cons (pv 2) (pa_cons (pv 7) (pa_cons (pv 4) pa_nil))))) pa_nil))))
        (pss_cons (ps_if (pt_val (pe_cd d_less (hr.mono (by decide)) (by rfl) (pa_cons (pe_ix (r := rIxT K) ix_tup (pv 3) pe_int (fun _ _ => rfl)) (pa_cons (pe_glob (v := .ref G.zero.choose) rfl G.zero.choose_spec.1 rfl) pa_nil)))) (pss_one (ps_ret (pe_tup (pa_cons pe_str (pa_cons (pv 7) (pa_cons (pe_slice (r := rSlL K) sl_list (pe_ix (r := rIxT K) ix_tup (pv 3) pe_int (fun _ _ => rfl)) po_none (po_some (pv 5))) (pa_cons (pe_cd d_row_prices (hr.mono (by decide)) (by rfl) (pa_cons (pv 4) (pa_cons (pv 9) pa_nil))) pa_nil))))))) pss_nil)
        (pss_cons (ps_set (i := 11) sc_least_need.nd rfl (.inl rfl) (pe_cd d_scale (hr.mono (by decide)) (by rfl) (pa_cons (pe_cd d_div (hr.mono (by decide)) (by rfl) (pa_cons (pe_glob (v := .ref G.one.choose) rfl G.one.choose_spec.1 rfl) (pa_cons (pe_cd d_neg (hr.mono (by decide)) (by rfl) (pa_cons (pe_ix (r := rIxL K) ix_list (pe_ix (r := rIxT K) ix_tup (pv 3) pe_int (fun _ _ => rfl)) pe_int (fun _ _ => rfl)) pa_nil)) pa_nil))) (pa_cons (pe_cd d_row_prices (hr.mono (by decide)) (by rfl) (pa_cons (pv 4) (pa_cons (pe_slice (r := rSlL K) sl_list (pe_ix (r := rIxT K) ix_tup (pv 3) pe_int (fun _ _ => rfl)) (po_some pe_int) po_none) pa_nil))) pa_nil))))
        (pss_one (ps_ret (pe_tup (pa_cons pe_str (pa_cons (pv 7) (pa_cons (pv 8) (pa_cons (pv 11) pa_nil))))))))))))))))), fun H0 N D rt => ?_⟩
  have D' : DOk x.d := h.d
  have hi : x.i < x.d.c := h.i
  have O : x.z.nd.Ok := h.ok
  have hg := D'.g
  have hc := D'.c
  have hl := Nd.rl_len O
  obtain ⟨Df, hD⟩ := Nd.facs O
  obtain ⟨dq, q0, q1, q2⟩ := Nd.qfac O
  obtain ⟨sc1, rr1⟩ := Nd.scld1 O hD
  refine go_seq (go_set (R := Tp K [Sr "taste", Ay]) (ev_call x.d (eva_cons (ev_var rfl) eva_nil) ⟨D', h.nr⟩) (go_seq ?_))
  refine go_if (b := false) (et_test (ev_op (ot_eqS (i := "taste") (j := "ring")) (ev_op (ot_ixT (k := 0) rfl rfl) (ev_var rfl) ev_int) ev_str)) (fun e => by cases e) fun _ => go_next (go_seq ?_)
  refine go_set (R := Row x.d.c (x.d.led x.i)) (ev_op (ot_ixL (R := fun i => Li x.d.c fun j => Ob (x.d.led i j)) rfl hi) (ev_call x.d (eva_cons (ev_var rfl) eva_nil) D') (ev_var rfl)) (go_seq ?_)
  refine go_set (R := Nt x.d.g) (ev_cb ct_len (eva_cons (ev_var rfl) eva_nil)) (go_seq ?_)
  refine go_asgX (f := SolR K x.d.g x.z.nd.rl.length) (A := SolS ⟨x.z.nd.lp1, x.q, fun k => Df (x.z.nd.row k), 1, 1, 162⟩) (S' := fun s => _) (ev_call (⟨x.z.nd.lp1, x.q, fun k => Df (x.z.nd.row k), 1, 1, 162⟩ : SolV) (eva_cons (ev_var rfl) (eva_cons (ev_sub (ev_call (x.z, false) (eva_cons (ev_var rfl) (eva_cons (ev_var rfl) (eva_cons ev_bl eva_nil))) D') (li_eq (n := x.z.nd.rl.length) fun k hk => ?_)) eva_nil)) ?_)
    (fun s hs => gt_tup rfl (gl_cons (gl_cons (gl_cons (gl_cons gl_nil))))) fun s hs => go_seq ?_
  · show Ln K x.d.g (entS x.z false (x.z.nd.row k)) .least (x.z.nd.sp (x.z.nd.row k)) = Ln K x.d.g (fun c => x.d.pr (x.z.nd.row k) c) .least (x.z.nd.sp (x.z.nd.row k))
    rw [entS_f]
  · exact ⟨Nat.le_trans (Nd.n1 O) (by decide), fun k hk => ⟨O.sp _ (Nd.row_lt hk), by
      have := (D'.dot (Nd.row_lt hk) (Nd.row_lt hk)).2
      exact this.mid (by decide) (by decide)⟩, sc1, (show (1 : Int).natAbs < 2 ^ 1 by decide), rr1, Nd.cscl1 O, Nd.bounded1 O, Nd.fits1 O⟩
  obtain ⟨v, xs, ys⟩ := s
  have sol1 : Lp.Sol x.z.nd.lp1 x.q xs ys v := hs.sol
  have bv : Bd 909 866 v := hs.v
  have bx : ∀ c, c < x.d.g → Bd 1797 1765 (xs c) := hs.x
  have vp : 0 < v := by
    have h1 := Nd.val_pos O sol1.fits
    have h2 : v = sm x.d.g (fun c => x.q c * xs c) := sol1.val
    rw [h2]; exact h1
  obtain ⟨V1, w1, V10, V1b, hy1⟩ := hs.w
  have hy1 : ∀ k, k < x.z.nd.rl.length → (V1 : Rat) * ys k = (w1 k : Rat) * Df (x.z.nd.row k) ∧ (w1 k).natAbs ≤ 2 ^ 744 := hy1
  have met : ∀ y : Nat → Rat, (∀ k, k < x.d.g → Bd 2000 2000 (y k)) → LnS x true v y (x.z.nd.pap ys) := fun y hy => ⟨hy, vp, bv, Nd.holds1 sol1, Nd.pb1 O hD V10 V1b hy1, fun e => by cases e⟩
  show Go ⟨H0, N, [], [some (Dat K x.d), some (Nt x.i), some (Fl K x.d.g x.q), some (Tp K [Sr "taste", Ay]), some (Row x.d.c (x.d.led x.i)), some (Nt x.d.g), some (Sr "end"), some (Fr K v), some (Fl K x.d.g xs), some (Fl K x.z.nd.rl.length ys), none, none, none]⟩ _
  refine go_ifu (eu_test (ev_op ot_isNU (ev_call (⟨x.d, x.d.led x.i, xs⟩ : FbV) (eva_cons (ev_var rfl) (eva_cons (ev_var rfl) (eva_cons (ev_var rfl) eva_nil))) ⟨D', bx⟩) ev_non)) ?_ (go_next (go_seq ?_))
  · exact go_ex (f := fun a : Bool × Rat × (Nat → Rat) × (Nat → Rat) => Tp K [Sr (if a.1 = true then "met" else "near"), Fr K a.2.1, Fl K x.d.g a.2.2.1, Fl K x.d.c a.2.2.2]) rt (true, v, xs, x.z.nd.pap ys) (met xs fun k hk => (bx k hk).mono (by decide) (by decide)) (ev_tup (eva_cons ev_str (eva_cons (ev_var rfl) (eva_cons (ev_var rfl) (eva_cons (ev_call (⟨x.z, ys⟩ : RpV) (eva_cons (ev_var rfl) (eva_cons (ev_var rfl) eva_nil)) hc) eva_nil)))))
  refine go_set (R := Fl K (x.d.g + 1) x.z.nd.cost2) (ev_sub (evn_cat (n := x.d.g) (m := 1) (evn_lcR (n := x.d.g) (R := fun _ => Fr K 0) (eva_cons (ev_var rfl) eva_nil) (by omega) fun Dq k _ => ev_zero G).ev (evn_lst (eva_cons (ev_neg (ev_one G)) eva_nil)).ev (by omega)).ev (li_eq (n := x.d.g + 1) fun c hc' => ?_)) (go_seq ?_)
  · show (if c < x.d.g then Fr K 0 else ([Fr K (-1)] : List Rp).getD (c - x.d.g) Ay) = Fr K (if c < x.d.g then 0 else -1)
    by_cases e : c < x.d.g
    · rw [if_pos e, if_pos e]
    · have : c = x.d.g := by omega
      rw [if_neg e, if_neg e, this, Nat.sub_self]
      rfl
  have sc2 := Nd.scld2 O hD q0 q1 q2 bv
  refine go_set (R := Exr (SolS ⟨x.z.nd.lp2 v, x.z.nd.cost2, fun k => if k = 0 then dq else if k = 1 then 1 else Df (x.z.nd.row (k - 2)), (v.den : Int), 866, 1050⟩) (SolR K (x.d.g + 1) (x.z.nd.rl.length + 2))) (ev_call (⟨x.z.nd.lp2 v, x.z.nd.cost2, fun k => if k = 0 then dq else if k = 1 then 1 else Df (x.z.nd.row (k - 2)), (v.den : Int), 866, 1050⟩ : SolV) (eva_cons (ev_var rfl) (eva_cons (ev_call (⟨x.z, v⟩ : ShV) (eva_cons (ev_var rfl) (eva_cons (ev_var rfl) (eva_cons (ev_var rfl) (eva_cons (ev_var rfl) eva_nil)))) D') eva_nil)) ?_) (go_open (i := 3) rfl fun s2 hs2 => go_seq ?_)
  · refine ⟨Nat.le_trans (Nd.n2 O) (by decide), fun k hk => ?_, sc2, by rw [Int.natAbs_natCast]; exact bv.den, sc2.right, ⟨1, Nd.cscl2⟩, Nd.bounded2, ⟨_, Nd.fits2 sol1.fits sol1.val⟩⟩
    show 0 < (if k = 0 then v else if k = 1 then 1 else x.z.nd.sp (x.z.nd.row (k - 2))) ∧ Mid (if k = 0 then v else if k = 1 then 1 else x.z.nd.sp (x.z.nd.row (k - 2)))
    have hk' : k < x.z.nd.rl.length + 2 := hk
    by_cases e0 : k = 0
    · rw [if_pos e0]; exact ⟨vp, bv.mid (by decide) (by decide)⟩
    · rw [if_neg e0]
      by_cases e1 : k = 1
      · rw [if_pos e1]; exact ⟨by decide, mid1⟩
      · rw [if_neg e1]
        have hr := Nd.row_lt (z := x.z.nd) (k := k - 2) (by omega)
        exact ⟨O.sp _ hr, by
          have := (D'.dot hr hr).2
          exact this.mid (by decide) (by decide)⟩
  obtain ⟨v2, xs2, ys2⟩ := s2
  have sol2 : Lp.Sol (x.z.nd.lp2 v) x.z.nd.cost2 xs2 ys2 v2 := hs2.sol
  have bv2 : Bd (747 + 1050) (865 + 866) v2 := hs2.v
  have by2 : ∀ k, k < x.z.nd.rl.length + 2 → Sml (ys2 k) := hs2.y
  obtain ⟨V2, w2, V20, V2b, hy2⟩ := hs2.w
  have hy2 : ∀ k, k < x.z.nd.rl.length + 2 → (V2 : Rat) * ys2 k = (w2 k : Rat) * ((if k = 0 then dq else if k = 1 then 1 else Df (x.z.nd.row (k - 2)) : Int) : Rat) ∧ (w2 k).natAbs ≤ 2 ^ 744 := hy2
  show Go ⟨H0, N, [], [some (Dat K x.d), some (Nt x.i), some (Fl K x.d.g x.q), some (SolR K (x.d.g + 1) (x.z.nd.rl.length + 2) (v2, xs2, ys2)), some (Row x.d.c (x.d.led x.i)), some (Nt x.d.g), some (Sr "end"), some (Fr K v), some (Fl K x.d.g xs), some (Fl K x.z.nd.rl.length ys), some (Fl K (x.d.g + 1) x.z.nd.cost2), none, none]⟩ _
  refine go_if (et_B (ev_less (ev_op (ot_ixT (k := 1) rfl rfl) (ev_var rfl) ev_int) (ev_zero G) (bv2.mid (by decide) (by decide)) mid0)) (fun e => ?_) fun e => go_next (go_seq ?_)
  · exact go_ex (f := fun a : Bool × Rat × (Nat → Rat) × (Nat → Rat) => Tp K [Sr (if a.1 = true then "met" else "near"), Fr K a.2.1, Fl K x.d.g a.2.2.1, Fl K x.d.c a.2.2.2]) rt (true, v, (fun k => xs2 (0 + k)), x.z.nd.pap ys) (met _ fun k hk => (hs2.x (0 + k) (by show 0 + k < x.d.g + 1; omega)).mono (by decide) (by decide)) (ev_tup (eva_cons ev_str (eva_cons (ev_var rfl) (eva_cons (evn_slice (n := x.d.g + 1) (a := 0) (k := x.d.g) (f := fun k => Fr K (xs2 k)) (ev_op (ot_ixT (k := 2) rfl rfl) (ev_var rfl) ev_int) eo_none (eo_some (ev_var rfl)) six_none (by rw [Nat.zero_add]; exact six_at (by omega)) (by omega)).ev (eva_cons (ev_call (⟨x.z, ys⟩ : RpV) (eva_cons (ev_var rfl) (eva_cons (ev_var rfl) eva_nil)) hc) eva_nil)))))
  · have e' : ¬ v2 < 0 := of_decide_eq_false e
    obtain ⟨y0, hold, ⟨j0, hj0, ht0, hp0⟩⟩ := Nd.near O sol1.fits sol1.val sol2 e'
    have y0n : ys2 0 ≠ 0 := by grind
    have ny0 : - ys2 0 ≠ 0 := by grind
    have b0 : Bd 2000 2000 (- ys2 0) := (by2 0 (by omega)).neg
    have b1 : Bd 2001 2001 (1 / (- ys2 0)) := (Bd.one.div b0 ny0).mono (by decide) (by decide)
    have bp : ∀ j, Bd 2000 2000 (x.z.nd.pap (fun k => ys2 (2 + k)) j) ∨ x.d.c ≤ j := fun j => by
      by_cases hj : j < x.d.c
      · left
        unfold Nd.pap
        by_cases pj : x.z.nd.p j = true
        · rw [if_pos pj]
          have := (sel_rank (p := x.z.nd.p) hj pj).1
          have hlt : (sel x.z.nd.p j).length < x.z.nd.rl.length := this
          exact by2 _ (by omega)
        · rw [if_neg pj]; exact Bd.zero.mono (by decide) (by decide)
      · exact .inr (by omega)
    refine go_set (R := Fl K x.d.c fun j => 1 / (- ys2 0) * x.z.nd.pap (fun k => ys2 (2 + k)) j) (ev_scale (n := x.d.c) (ev_div (ev_one G) (ev_neg (ev_op (ot_ixL (R := fun k => Fr K (ys2 k)) (n := x.z.nd.rl.length + 2) (k := 0) rfl (by omega)) (ev_op (ot_ixT (k := 3) rfl rfl) (ev_var rfl) ev_int) ev_int)) (Bd.one.okD b0 ny0 (by decide))) (ev_call (⟨x.z, fun k => ys2 (2 + k)⟩ : RpV) (eva_cons (ev_var rfl) (eva_cons (evn_slice (n := x.z.nd.rl.length + 2) (a := 2) (k := x.z.nd.rl.length) (f := fun k => Fr K (ys2 k)) (ev_op (ot_ixT (k := 3) rfl rfl) (ev_var rfl) ev_int) (eo_some ev_int) eo_none (six_at (k := 2) (by omega)) (by rw [six_none]; omega) (by omega)).ev eva_nil)) hc) (by omega) fun j hj => b1.ok2 ((bp j).resolve_right (by omega)) (by decide)) ?_
    exact go_ex (f := fun a : Bool × Rat × (Nat → Rat) × (Nat → Rat) => Tp K [Sr (if a.1 = true then "met" else "near"), Fr K a.2.1, Fl K x.d.g a.2.2.1, Fl K x.d.c a.2.2.2]) rt (false, v, xs, fun j => 1 / (- ys2 0) * x.z.nd.pap (fun k => ys2 (2 + k)) j) ⟨fun k hk => (bx k hk).mono (by decide) (by decide), vp, bv, hold, Nd.pb2 O hD V20 q1 hy2 y0n, fun _ => ⟨j0, hj0, ht0, hp0⟩⟩ (ev_tup (eva_cons ev_str (eva_cons (ev_var rfl) (eva_cons (ev_var rfl) (eva_cons (ev_var rfl) eva_nil)))))
end
end BB
namespace BB
open PySem PySem.Spec PyProof.Rows L2
theorem seqL {K : PySem.W.Frag} {H H' : Hp} {a : Addr} {xs : List V} (e : Same H H') (h : SqL K H a xs) : SqL K H' a xs := by
  rcases h with (h | ⟨o, h⟩) | h
  · exact .inl (.inl (e _ _ h))
  · exact .inl (.inr ⟨o, e _ _ h⟩)
  · exact .inr h
/-- the script -/
def Sc (K : PySem.W.Frag) (ns : List Int) : Rp := ⟨fun H v => ∃ a, v = .ref a ∧ SqL K H a (ns.map V.int), fun s ⟨a, e, h⟩ => ⟨a, e, seqL s h⟩⟩
section
variable {K : PySem.W.Frag} {S : Sta} {ta tb te : TE} {i j : Int}
theorem ct_lenS {ns : List Int} : CT (rLenQ K) [Sc K ns] (Nt ns.length) := fun H N xs Q _ ⟨v, r, e, ⟨a, e1, hs⟩, e2⟩ q => by
  subst e1 e2 e
  exact ⟨a, ns.map V.int, rfl, .inl (seqL hid_sub hs), q _ H (Same.refl H) (by rw [List.length_map]; rfl)⟩
theorem ot_ixS {ns : List Int} {k : Nat} (h : k < ns.length) : OT (rIxL K) (Sc K ns) (Nt k) (It (ns.getD k 0)) := fun H N x y Q _ ⟨a, e, hs⟩ ry q => by
  have e1 : (ns.map V.int)[k]? = some (V.int (ns.getD k 0)) := by
    rw [List.getElem?_map, List.getD_eq_getElem?_getD, List.getElem?_eq_getElem h]
    rfl
  exact ⟨a, ns.map V.int, (k : Int), _, e, ry, seqL hid_sub hs, atI_nat e1, q _ H (Same.refl H) rfl⟩
theorem ev_cmul (ha : EV S ta (It i)) (hb : EV S tb (It j)) (h : CMul i j) : EV S (tOp (rI CMul fun i j => .int (i * j)) ta tb) (It (i * j)) := ev_op (ot_I h) ha hb
theorem ev_mod (ha : EV S ta (It i)) (hb : EV S tb (It j)) (h : 0 < j) : EV S (tOp (rI (fun _ j => 0 < j) fun i j => .int (i % j)) ta tb) (It (i % j)) := ev_op (ot_I (C := fun _ j => 0 < j) h) ha hb
theorem ev_fdiv (ha : EV S ta (It i)) (hb : EV S tb (It j)) (h : CDivW i j) : EV S (tOp (rI CDivW fun i j => .int (i / j)) ta tb) (It (i / j)) := ev_op (ot_I h) ha hb
theorem ev_pow (ha : EV S ta (It i)) (hb : EV S tb (It j)) (h : CPow i j) : EV S (tOp (rI CPow fun i j => .int (i ^ j.toNat)) ta tb) (It (i ^ j.toNat)) := ev_op (ot_I h) ha hb
theorem ev_toint (ha : EV S ta (It i)) : EV S (tCB rInt1 (tCons ta tNil)) (It i) := ev_cb ct_int (eva_cons ha eva_nil)
abbrev rAbs : List V → Hp → VK → Prop := fun xs H Q => ∃ i, xs = [.int i] ∧ Q (.int (if i < 0 then -i else i)) H
theorem ev_abs (ha : EV S ta (It i)) : EV S (tCB rAbs (tCons ta tNil)) (Nt i.natAbs) := ev_cb (r := rAbs) (R := Nt i.natAbs) (Rs := [It i]) (fun H N xs Q _ ⟨v, r, e, e1, e2⟩ q => by
  have e1' : v = .int i := e1
  have e2' : r = [] := e2
  subst e1' e2' e
  refine ⟨i, rfl, q _ H (Same.refl H) ?_⟩
  show V.int (if i < 0 then -i else i) = V.int (i.natAbs : Int)
  congr 1
  split <;> omega) (eva_cons ha eva_nil)
theorem ev_bits (ha : EV S ta (It i)) : EV S (tBits ta) (Nt (Builtin.Int.intBits i)) := fun σ H st Q q => ha σ H st _ fun v H' s r => ⟨i, r, q _ H' s rfl⟩
/-- digits -/
abbrev Dg : Rp := Exr (fun n : Nat => n < 1000) Nt
theorem li_pick {α : Type} [Inhabited α] {n : Nat} {A : α → Prop} {f : α → Rp} (H : Hp) (v : V) (h : (Li n fun _ => Exr A f).p H v) : (Exr (fun g : Nat → α => ∀ k, k < n → A (g k)) (fun g => Li n fun k => f (g k))).p H v := by
  obtain ⟨a, vs, e, h1, h2, h3⟩ := h
  have ex : ∀ k, k < n → ∃ z, A z ∧ ∀ x, vs[k]? = some x → (f z).p H x := fun k hk => by
    have e1 : vs[k]? = some (vs[k]'(by omega)) := List.getElem?_eq_getElem (by omega)
    obtain ⟨z, hz, r⟩ := h3 k _ e1
    exact ⟨z, hz, fun x e2 => by rw [e1] at e2; rw [← Option.some.inj e2]; exact r⟩
  refine ⟨fun k => if h : k < n then Classical.choose (ex k h) else default, fun k hk => ?_, a, vs, e, h1, h2, fun k x z => ?_⟩
  · simp only [dif_pos hk]
    exact (Classical.choose_spec (ex k hk)).1
  · have hk : k < n := by rw [← h2]; exact (List.getElem?_eq_some_iff.mp z).1
    show (f (if h : k < n then Classical.choose (ex k h) else default)).p H x
    rw [dif_pos hk]
    exact (Classical.choose_spec (ex k hk)).2 x z
theorem dg_mod (H : Hp) (v : V) (h : (It (i % 1000)).p H v) : Dg.p H v := ⟨(i % 1000).toNat, by omega, by
  have : v = .int (i % 1000) := h
  rw [this]
  show V.int _ = V.int _
  congr 1
  omega⟩
end
section
variable {P : Program} {w : World} {K : PySem.W.Frag} {mg : Str → Option Value} {base : Heap}
abbrev s_law_is_integer : Stmt := (topS 67)
theorem sc_law_is_integer : FnScope ["_law_x"] ["_law_x"] (defScope s_law_is_integer) := ⟨rfl, rfl, rfl, by decide +kernel, rfl, by decide +kernel, by decide +kernel⟩

def sp_is_integer : Sp := spR (fun z : Int => [It z]) (fun _ => True) (fun _ => Bo true)
theorem ev_isi {S : Sta} {ta tb : TE} {R : Rp} {b : Bool} {t : String} {u : Value} (h : ∀ H N v, R.p (hid H N) v → TyX K H v u) (hk : PySem.W.kitOne K u (.type t) = some b) (ha : EV S ta R) (hb : ∀ σ H Q, Q (.ty t) H → tb σ H Q) : EV S (tCB (rIsi K) (tCons ta (tCons tb tNil))) (Bo b) := fun σ H st Q q =>
  ha σ H st _ fun v H1 s1 r1 => hb _ _ _ ⟨v, .ty t, u, .type t, b, rfl, .ty t, h _ _ _ r1, hk, q _ H1 s1 rfl⟩
theorem ok_is_integer (G : Gb K mg) (F : Def0 K mg "_law_is_integer" s_law_is_integer ["_law_x"]) : DefOk P w K mg base "_law_is_integer" 1 ["_law_x"] sp_is_integer := by
  refine okD F sc_law_is_integer (fun _ => rfl) (by decide) fun f cdv A outer s H E hr z _ => ⟨_, (pss_one (ps_ret (pe_and (pe_callB call_isi (by rfl) G.isinstance (by decide +kernel) (pa_cons (pv 0) (pa_cons (pe_bltn (v := .ty "int") (by rfl) G.int (by decide +kernel) rfl) pa_nil))) (pe_one (pe_not (pe_callB call_isi (by rfl) G.isinstance (by decide +kernel) (pa_cons (pv 0) (pa_cons (pe_bltn (v := .ty "bool") (by rfl) G.bool (by decide +kernel) rfl) pa_nil)))))))), fun H0 N D rt => ?_⟩
  have ty : ∀ (H : Hp) (N : List Addr) (v : V), (It z).p (hid H N) v → TyX K H v (.type "int") := fun H N v r => by
    have e : v = .int z := r
    rw [e]
    exact .base (.int z)
  exact go_back rt (ev_andV (a := true) (ev_isi (R := It z) ty (by rfl) (ev_var rfl) fun _ _ _ q => q) fun _ => ev_notV (a := false) (ev_isi (R := It z) ty (by rfl) (ev_var rfl) fun _ _ _ q => q))
end
end BB
namespace BB
open PySem PySem.Spec PyProof.Rows L2
section
variable {P : Program} {w : World} {K : PySem.W.Frag} {mg : Str → Option Value} {base : Heap}
theorem up2 {i : Int} {k : Nat} (h : i.natAbs < 2 ^ k) (hk : k ≤ 20000 := by omega) : i.natAbs < 2 ^ 20000 := Nat.lt_of_lt_of_le h (pow_le2 hk)
/-! ### digits -/
abbrev s_law_row : Stmt := (topS 68)
theorem sc_law_row : FnScope ["_law_script", "_law_place", "_law_many", "_law_cell", "_law_rest", "_law_row_here", "_law_k", "_law_mixed"] ["_law_script", "_law_place", "_law_many"] (defScope s_law_row) := ⟨rfl, rfl, rfl, by decide +kernel, rfl, by decide +kernel, by decide +kernel⟩

structure RowV where
  ns : List Int
  place : Nat
  many : Nat
def sp_law_row (K : PySem.W.Frag) : Sp := spR (fun z : RowV => [Sc K z.ns, Nt z.place, Nt z.many]) (fun z => z.place ≤ 100 ∧ z.many ≤ 100) (fun z => Exr (fun f : Nat → Nat => ∀ k, k < z.many → f k < 1000) (fun f => Il z.many f))
theorem cmul_r {i j : Int} (h1 : -(2 ^ 64) < j) (h2 : j < 2 ^ 64) : CMul i j := .inr ⟨h1, h2⟩
theorem cmul_l {i j : Int} (h1 : -(2 ^ 64) < i) (h2 : i < 2 ^ 64) : CMul i j := .inl ⟨h1, h2⟩
theorem div1000 (i : Int) : CDivW i 1000 := ⟨by decide, by decide⟩
theorem div64 (i : Int) : CDivW i 64 := ⟨by decide, by decide⟩
theorem ok_law_row (G : Gb K mg) (F : Def0 K mg "_law_row" s_law_row ["_law_script", "_law_place", "_law_many"]) : DefOk P w K mg base "_law_row" 1 ["_law_script", "_law_place", "_law_many"] (sp_law_row K) := by
  refine okD F sc_law_row (fun _ => rfl) (by decide) fun f cdv A outer s H E hr ⟨ns, pl, mn⟩ h => ⟨_, (pss_cons (ps_set (i := 3) sc_law_row.nd rfl (.inl rfl) (pe_op op_add (pe_op op_mul pe_int (pv 1)) pe_int))
        (pss_cons (ps_if (pt_cmpR op_lt (pv 1) (pe_callB (r := rLenQ K) call_len_seq (by rfl) G.len PySem.boot_len (pa_cons (pv 0) pa_nil)) (nomark _)) (pss_one (ps_set (i := 3) sc_law_row.nd rfl (.inl rfl) (pe_ix (r := rIxL K) ix_list (pv 0) (pv 1) (fun _ _ => rfl)))) pss_nil)
        (pss_cons (ps_set (i := 4) sc_law_row.nd rfl (.inl rfl) (pe_op op_sub (pv 3) (pe_op op_pow pe_int pe_int)))
        (pss_cons (ps_set (i := 5) sc_law_row.nd rfl (.inl rfl) (pe_lst pa_nil))
        (pss_cons (ps_for PassesOwn.never rfl (pi_range1 (by rfl) G.range (pa_cons (pv 2) pa_nil)) (pg_name (i := 6) sc_law_row.nd rfl (.inl rfl)) (pss_one (ps_if (pt_cmpR op_gt (pv 4) pe_int (nomark _)) (pss_cons (ps_expr (pe_appK (K := K) rfl (pv 5) (pa_cons (pe_op op_mod (pe_callTy call_int1 (by rfl) G.int (by decide +kernel) (pa_cons (pv 4) pa_nil)) pe_int) pa_nil)))
        (pss_one (ps_set (i := 4) sc_law_row.nd rfl (.inl rfl) (pe_op op_fdivW (pv 4) pe_int)))) (pss_cons (ps_set (i := 7) sc_law_row.nd rfl (.inl rfl) (pe_op op_mod (pe_callTy call_int1 (by rfl) G.int (by decide +kernel) (pa_cons (pe_op op_add (pe_op op_add (pe_op op_mul (pv 3) pe_int) (pe_op op_mul (pv 6) pe_int)) pe_int) pa_nil)) pe_int))
        (pss_cons (ps_set (i := 7) sc_law_row.nd rfl (.inl rfl) (pe_op op_mod (pe_callTy call_int1 (by rfl) G.int (by decide +kernel) (pa_cons (pe_op op_add (pe_op op_add (pe_op op_mul (pv 7) (pv 7)) (pe_op op_mul (pv 7) pe_int)) (pe_op op_mul (pv 6) pe_int)) pa_nil)) pe_int))
        (pss_one (ps_expr (pe_appK (K := K) rfl (pv 5) (pa_cons (pe_op op_mod (pe_op op_fdivW (pv 7) pe_int) pe_int) pa_nil)))))))))
        (pss_one (ps_ret (pv 5)))))))), fun H0 N D rt => ?_⟩
  have hp : pl ≤ 100 := h.1
  have hm : mn ≤ 100 := h.2
  refine go_seq (go_set (ev_sub (R' := Exr (fun _ : Int => True) It) (ev_iadd (ev_cmul ev_int (ev_var rfl) (cmul_l (by decide) (by decide))) ev_int) fun H v r => ⟨_, trivial, r⟩) (go_seq ?_))
  refine go_ifj ⟨H0, N, [], [some (Sc K ns), some (Nt pl), some (Nt mn), some (Exr (fun _ : Int => True) It), none, none, none, none]⟩ (et_test (ev_ilt (ev_var rfl) (ev_cb ct_lenS (eva_cons (ev_var rfl) eva_nil)))) (fun e nx kk => ?_) (fun e nx kk => go_next fun σ H st => kk σ H (st.wk (by repeat first | exact Wk.nil | refine Wk.keep ?_ | refine Wk.drop ?_))) (go_seq ?_)
  · have hlt : pl < ns.length := by
      have : (pl : Int) < (ns.length : Int) := of_decide_eq_true e
      omega
    exact go_set (ev_sub (R' := Exr (fun _ : Int => True) It) (ev_op (ot_ixS hlt) (ev_var rfl) (ev_var rfl)) fun H v r => ⟨_, trivial, r⟩) fun σ H st => kk σ H (st.wk (by repeat first | exact Wk.nil | refine Wk.keep ?_ | refine Wk.drop ?_))
  refine go_open (i := 3) rfl fun c _ => ?_
  refine go_set (ev_isub (ev_var rfl) (ev_pow ev_int ev_int ⟨by decide, by decide, by decide⟩)) (go_seq (go_new (evn_lst eva_nil) fun p => go_seq ?_))
  refine go_forR (n := mn) (α := Int) (fun k r => ⟨H0, N, [(p, k, fun _ => Dg)], [some (Sc K ns), some (Nt pl), some (Nt mn), some (It c), some (It r), some (Pt p), none, none]⟩) (fun _ _ => True) (eva_cons (ev_var rfl) eva_nil) (by omega)
    ⟨_, trivial, fun σ H st => (st.mset rfl fun k hk => absurd hk (Nat.not_lt_zero k)).wk (by repeat first | exact Wk.nil | refine Wk.keep ?_ | refine Wk.drop ?_)⟩ (fun k r hk _ => ?_) fun r _ => ?_
  · have hk' : k < mn := hk
    refine go_if (et_test (ev_igt (ev_var rfl) ev_int)) (fun _ => ?_) fun _ => ?_
    · refine go_seq (go_app (M1 := []) rfl rfl (by omega) (ev_sub (ev_mod (ev_toint (ev_var rfl)) ev_int (by decide)) dg_mod) (go_set (ev_fdiv (ev_var rfl) ev_int (div1000 _)) fun σ H st => ⟨r / 1000, trivial, (st.mset rfl (snoc_at (fun _ _ => rfl) rfl)).wk (by repeat first | exact Wk.nil | refine Wk.keep ?_ | refine Wk.drop ?_)⟩))
    · refine go_seq (go_set (ev_sub (R' := Exr (fun m : Int => 0 ≤ m ∧ m < 2147483647) It) (ev_mod (ev_toint (ev_iadd (ev_iadd (ev_cmul (ev_var rfl) ev_int (cmul_r (by decide) (by decide))) (ev_cmul (ev_var rfl) ev_int (cmul_r (by decide) (by decide)))) ev_int)) ev_int (by decide)) fun H v r => ⟨_, ⟨by omega, by omega⟩, r⟩) (go_open (i := 7) rfl fun m hm' => go_seq ?_))
      obtain ⟨m0, m1⟩ := hm'
      refine go_set (ev_mod (ev_toint (ev_iadd (ev_iadd (ev_cmul (ev_var rfl) (ev_var rfl) (cmul_r (by omega) (by omega))) (ev_cmul (ev_var rfl) ev_int (cmul_r (by decide) (by decide)))) (ev_cmul (ev_var rfl) ev_int (cmul_r (by decide) (by decide))))) ev_int (by decide)) ?_
      refine go_app (M1 := []) rfl rfl (by omega) (ev_sub (ev_mod (ev_fdiv (ev_var rfl) ev_int (div64 _)) ev_int (by decide)) dg_mod) fun σ H st => ⟨r, trivial, (st.mset rfl (snoc_at (fun _ _ => rfl) rfl)).wk (by repeat first | exact Wk.nil | refine Wk.keep ?_ | refine Wk.drop ?_)⟩
  · refine go_freeze (i := 5) rfl rfl ?_
    exact go_back rt (ev_sub (ev_var rfl) li_pick)
abbrev s_law_long : Stmt := (topS 69)
theorem sc_law_long : FnScope ["_law_row_here", "_law_start", "_law_many", "_law_number", "_law_k"] ["_law_row_here", "_law_start", "_law_many"] (defScope s_law_long) := ⟨rfl, rfl, rfl, by decide +kernel, rfl, by decide +kernel, by decide +kernel⟩

structure LongV where
  l : Nat
  f : Nat → Nat
  s : Nat
  m : Nat
def sp_law_long : Sp := spR (fun z : LongV => [Il z.l z.f, Nt z.s, Nt z.m]) (fun z => z.s + z.m ≤ z.l ∧ z.m ≤ 4 ∧ ∀ k, k < z.l → z.f k < 1000) (fun z => Exr (fun n : Nat => n < 1000 ^ z.m) Nt)
theorem ok_law_long (G : Gb K mg) (F : Def0 K mg "_law_long" s_law_long ["_law_row_here", "_law_start", "_law_many"]) : DefOk P w K mg base "_law_long" 1 ["_law_row_here", "_law_start", "_law_many"] sp_law_long := by
  refine okD F sc_law_long (fun _ => rfl) (by decide) fun f cdv A outer s H E hr ⟨l, g, st0, m⟩ h => ⟨_, (pss_cons (ps_set (i := 3) sc_law_long.nd rfl (.inl rfl) pe_int)
        (pss_cons (ps_for PassesOwn.never rfl (pi_range1 (by rfl) G.range (pa_cons (pv 2) pa_nil)) (pg_name (i := 4) sc_law_long.nd rfl (.inl rfl)) (pss_one (ps_set (i := 3) sc_law_long.nd rfl (.inl rfl) (pe_op op_add (pe_op op_mulW (pv 3) pe_int) (pe_ix (r := rIxL K) ix_list (pv 0) (pe_op op_add (pv 1) (pv 4)) (fun _ _ => rfl))))))
        (pss_one (ps_ret (pv 3))))), fun H0 N D rt => ?_⟩
  obtain ⟨h1, h2, h3⟩ := h
  have h1 : st0 + m ≤ l := h1
  have h2 : m ≤ 4 := h2
  have h3 : ∀ k, k < l → g k < 1000 := h3
  refine go_seq (go_set ev_int (go_seq ?_))
  refine go_forR (n := m) (α := Nat) (fun k n => ⟨H0, N, [], [some (Il l g), some (Nt st0), some (Nt m), some (Nt n), none]⟩) (fun k n => n < 1000 ^ k) (eva_cons (ev_var rfl) eva_nil) (by omega) ⟨0, by decide, fun σ H st => st⟩ (fun k n hk hn => ?_) fun n hn => go_ex (f := Nt) rt n hn (ev_var rfl)
  have hk' : k < m := hk
  have hd := h3 (st0 + k) (by omega)
  have hb : n < 2 ^ 40 := by
    have : 1000 ^ k ≤ 1000 ^ 4 := Nat.pow_le_pow_right (by omega) (by omega)
    have : (1000 : Nat) ^ 4 < 2 ^ 40 := by decide
    omega
  refine go_set (R := Nt (n * 1000 + g (st0 + k))) (ev_eq (ev_iadd (ev_imul (ev_var rfl) ev_int (mulW (up2 (k := 40) (by rw [Int.natAbs_natCast]; exact hb)) (up2 (k := 10) (by decide)))) (ev_op (ot_ixL (R := fun k => Nt (g k)) (k := st0 + k) (by rw [Int.natCast_add]) (by omega)) (ev_var rfl) (ev_iadd (ev_var rfl) (ev_var rfl)))) rfl) fun σ H st => ⟨n * 1000 + g (st0 + k), ?_, st.wk (by repeat first | exact Wk.nil | refine Wk.keep ?_ | refine Wk.drop ?_)⟩
  rw [Nat.pow_succ]
  omega
/-! ### the law's gcd -/
abbrev s_law_gcd : Stmt := (topS 70)
theorem sc_law_gcd : FnScope ["_law_a", "_law_b", "_law_k"] ["_law_a", "_law_b"] (defScope s_law_gcd) := ⟨rfl, rfl, rfl, by decide +kernel, rfl, by decide +kernel, by decide +kernel⟩

def sp_law_gcd : Sp := spR (fun z : Nat × Nat => [Nt z.1, Nt z.2]) (fun z => z.2 < 2 ^ 9000) (fun z => Nt (Nat.gcd z.1 z.2))
theorem bits_lt {b : Nat} : b < 2 ^ (Builtin.Int.intBits (b : Int)) := by
  unfold Builtin.Int.intBits
  by_cases h : b = 0
  · subst h; decide
  · have : ((b : Int) == 0) = false := beq_eq_false_iff_ne.mpr (by omega)
    rw [if_neg (by rw [this]; exact Bool.false_ne_true), Int.natAbs_natCast]
    exact Nat.lt_log2_self
theorem bits_le {b k : Nat} (h : b < 2 ^ k) : Builtin.Int.intBits (b : Int) ≤ k := by
  unfold Builtin.Int.intBits
  by_cases h0 : b = 0
  · subst h0; exact Nat.zero_le _
  · have : ((b : Int) == 0) = false := beq_eq_false_iff_ne.mpr (by omega)
    rw [if_neg (by rw [this]; exact Bool.false_ne_true), Int.natAbs_natCast]
    exact (Nat.log2_lt h0).mpr h
theorem ok_law_gcd (G : Gb K mg) (F : Def0 K mg "_law_gcd" s_law_gcd ["_law_a", "_law_b"]) : DefOk P w K mg base "_law_gcd" 1 ["_law_a", "_law_b"] sp_law_gcd := by
  refine okD F sc_law_gcd (fun _ => rfl) (by decide) fun f cdv A outer s H E hr ⟨a, b⟩ h => ⟨_, (pss_cons (ps_for PassesOwn.never rfl (pi_range1 (by rfl) G.range (pa_cons (pe_op op_add (pe_op op_mulW pe_int (pe_bits (pv 1))) pe_int) pa_nil)) (pg_name (i := 2) sc_law_gcd.nd rfl (.inl rfl)) (pss_cons (ps_if (pt_cmpR op_eq (pv 1) pe_int (nomark _)) (pss_one (ps_ret (pv 0))) pss_nil)
        (pss_one (ps_par (i := 0) (j := 1) (by rfl) sc_law_gcd.nd rfl rfl (by decide) rfl rfl (pa_cons (pv 1) (pa_cons (pe_op op_mod (pe_callTy call_int1 (by rfl) G.int (by decide +kernel) (pa_cons (pv 0) pa_nil)) (pv 1)) pa_nil)) (by rfl)))))
        (pss_one (ps_ret (pv 0)))), fun H0 N D rt => ?_⟩
  have hb : b < 2 ^ 9000 := h
  have ht := bits_le hb
  have hbt := bits_lt (b := b)
  generalize hT : Builtin.Int.intBits (b : Int) = T at ht hbt
  refine go_seq ?_
  refine go_forR (n := 2 * T + 2) (α := Nat × Nat) (fun k z => ⟨H0, N, [], [some (Nt z.1), some (Nt z.2), none]⟩) (fun k z => Nat.gcd z.1 z.2 = Nat.gcd a b ∧ ((∃ m, m ≤ T ∧ k = 2 * (T - m) ∧ z.2 < 2 ^ m) ∨ ∃ m, m ≤ T ∧ k = 2 * (T - m) + 1 ∧ z.2 < z.1 ∧ z.1 < 2 ^ m)) (eva_cons (ev_eq (ev_iadd (ev_imul ev_int (ev_bits (ev_var rfl)) (mulW (up2 (k := 2) (by decide)) ?_)) ev_int) ?_) eva_nil) (by omega)
    ⟨(a, b), ⟨rfl, .inl ⟨T, Nat.le_refl _, by omega, hbt⟩⟩, fun σ H st => st⟩ (fun k z hk ⟨hg, hz⟩ => ?_) fun z ⟨hg, hz⟩ => ?_
  · refine up2 (k := 14) ?_
    rw [Int.natAbs_natCast]
    show Builtin.Int.intBits (b : Int) < 2 ^ 14
    rw [hT]; omega
  · rw [hT]
    show It (2 * (T : Int) + 2) = It ((2 * T + 2 : Nat) : Int)
    congr 1
  · obtain ⟨x, y⟩ := z
    have hg : Nat.gcd x y = Nat.gcd a b := hg
    refine go_seq (go_if (et_test (ev_op ot_eqI (ev_var rfl) ev_int)) (fun e => ?_) fun e => go_next ?_)
    · have y0 : y = 0 := by
        have := of_decide_eq_true e
        omega
      refine go_back rt (ev_eq (ev_var rfl) ?_)
      show Nt x = Nt (Nat.gcd a b)
      rw [← hg, y0, Nat.gcd_zero_right]
    · have y0 : 0 < y := by
        have := of_decide_eq_false e
        omega
      refine go_par (R1 := Nt y) (R2' := Nt (x % y)) (eva_cons (ev_var rfl) (eva_cons (ev_eq (ev_mod (ev_toint (ev_var rfl)) (ev_var rfl) (by omega)) rfl) eva_nil)) fun σ H st => ⟨(y, x % y), ⟨?_, ?_⟩, st.wk (by repeat first | exact Wk.nil | refine Wk.keep ?_ | refine Wk.drop ?_)⟩
      · show Nat.gcd y (x % y) = Nat.gcd a b
        rw [← hg, Nat.gcd_comm x y, Nat.gcd_rec y x, Nat.gcd_comm]
      · have hlt := Nat.mod_lt x y0
        rcases hz with ⟨m, h1, h2, h3⟩ | ⟨m, h1, h2, h3, h4⟩
        · right
          have h3 : y < 2 ^ m := h3
          exact ⟨m, h1, by omega, hlt, h3⟩
        · left
          have h3 : y < x := h3
          have h4 : x < 2 ^ m := h4
          have hm : 0 < m := by
            rcases m with _ | m
            · rw [Nat.pow_zero] at h4; omega
            · omega
          obtain ⟨n, rfl⟩ : ∃ n, m = n + 1 := ⟨m - 1, by omega⟩
          refine ⟨n, by omega, by omega, ?_⟩
          show x % y < 2 ^ n
          rw [Nat.pow_succ] at h4
          have := Nat.mod_add_div x y
          have hq : 1 ≤ x / y := (Nat.one_le_div_iff y0).mpr (by omega)
          have : y * 1 ≤ y * (x / y) := Nat.mul_le_mul_left _ hq
          omega
  · exfalso
    rcases hz with ⟨m, h1, h2, h3⟩ | ⟨m, h1, h2, h3, h4⟩ <;> omega
abbrev s_law_lowest : Stmt := (topS 71)
theorem sc_law_lowest : FnScope ["_law_p", "_law_q", "_law_common"] ["_law_p", "_law_q"] (defScope s_law_lowest) := ⟨rfl, rfl, rfl, by decide +kernel, rfl, by decide +kernel, by decide +kernel⟩

def sp_law_lowest (K : PySem.W.Frag) : Sp := spR (fun z : Int × Int => [It z.1, It z.2]) (fun z => 0 < z.2 ∧ z.2.natAbs < 2 ^ 9000) (fun z => Fr K (Rat.divInt z.1 z.2))
theorem ok_law_lowest (G : Gb K mg) (F : Def0 K mg "_law_lowest" s_law_lowest ["_law_p", "_law_q"]) (d_law_gcd : DefOk P w K mg base "_law_gcd" 1 ["_law_a", "_law_b"] sp_law_gcd) : DefOk P w K mg base "_law_lowest" 2 ["_law_p", "_law_q"] (sp_law_lowest K) := by
  refine okD F sc_law_lowest (fun _ => rfl) (by decide) fun f cdv A outer s H E hr ⟨p, q⟩ h => ⟨_, (pss_cons (ps_set (i := 2) sc_law_lowest.nd rfl (.inl rfl) (pe_cd d_law_gcd (hr.mono (by decide)) (by rfl) (pa_cons (pe_callB call_abs (by rfl) G.abs (by decide +kernel) (pa_cons (pv 0) pa_nil)) (pa_cons (pv 1) pa_nil))))
        (pss_one (ps_ret (pe_tup (pa_cons (pe_op op_fdivW (pv 0) (pv 2)) (pa_cons (pe_op op_fdivW (pv 1) (pv 2)) pa_nil)))))), fun H0 N D rt => ?_⟩
  obtain ⟨h1, h2⟩ := h
  have h1 : 0 < q := h1
  have h2 : q.natAbs < 2 ^ 9000 := h2
  obtain ⟨e1, e2⟩ := rat_pos (p := p) h1
  refine go_seq (go_set (R := Nt (Nat.gcd p.natAbs q.natAbs)) (ev_call (p.natAbs, q.natAbs) (eva_cons (ev_abs (ev_var rfl)) (eva_cons (ev_eq (ev_var rfl) (by show It q = It ((q.natAbs : Nat) : Int); congr 1; omega)) eva_nil)) h2) ?_)
  have rt : RT D.rt H0 N (Fr K (Rat.divInt p q)) := rt
  refine go_back rt ?_
  unfold Fr
  rw [e1, e2]
  exact ev_tup (eva_cons (ev_fdiv (ev_var rfl) (ev_var rfl) (gcd_wide (by omega) h2 _)) (eva_cons (ev_fdiv (ev_var rfl) (ev_var rfl) (gcd_wide (by omega) h2 _)) eva_nil))
end
end BB
namespace BB
open PySem PySem.Spec PyProof.Rows L2
/-! ### pairs of ints -/
structure Pq (v : Rat) (a : Nat) (z : Int × Int) : Prop where
  pos : 0 < z.2
  val : (z.1 : Rat) = v * (z.2 : Rat)
  n : z.1.natAbs < 2 ^ a
  d : z.2.natAbs < 2 ^ a
abbrev Pr2 (K : PySem.W.Frag) (z : Int × Int) : Rp := Tp K [It z.1, It z.2]
abbrev PQ (K : PySem.W.Frag) (v : Rat) (a : Nat) : Rp := Exr (Pq v a) (Pr2 K)
theorem rpos {i : Int} (h : 0 < i) : (0 : Rat) < (i : Rat) := by
  have : ((0 : Int) : Rat) < (i : Rat) := Rat.intCast_lt_intCast.mpr h
  exact this
theorem Pq.fr {x : Rat} {a : Nat} (h : Bd a a x) : Pq x a (x.num, (x.den : Int)) := ⟨by have := x.den_pos; show (0 : Int) < (x.den : Int); omega, by
  show (x.num : Rat) = x * ((x.den : Int) : Rat)
  rw [num_over_den], h.num, by show ((x.den : Int)).natAbs < _; rw [Int.natAbs_natCast]; exact h.den⟩
theorem Pq.mono {v : Rat} {a b : Nat} {z : Int × Int} (h : Pq v a z) (hab : a ≤ b) : Pq v b z := ⟨h.pos, h.val, Nat.lt_of_lt_of_le h.n (pow_le2 hab), Nat.lt_of_lt_of_le h.d (pow_le2 hab)⟩
theorem Pq.bd {v : Rat} {a : Nat} {z : Int × Int} (h : Pq v a z) : Bd a a v := Bd.of_int (x := v) (V := z.2) (W := z.1) (by have := h.pos; omega) (by rw [h.val]; grind) h.n h.d
theorem Pq.div {v : Rat} {a : Nat} {z : Int × Int} (h : Pq v a z) : Rat.divInt z.1 z.2 = v := by
  have hp := rpos h.pos
  have ne : (z.2 : Rat) ≠ 0 := Rat.ne_of_gt hp
  rw [Rat.divInt_eq_div, h.val]
  have : v * (z.2 : Rat) / (z.2 : Rat) * (z.2 : Rat) = v * (z.2 : Rat) := Rat.div_mul_cancel ne
  have h2 : (v * (z.2 : Rat) / (z.2 : Rat) - v) * (z.2 : Rat) = 0 := by grind
  rcases Rat.mul_eq_zero.mp h2 with h3 | h3
  · grind
  · exact absurd h3 ne
theorem sgn_mul {i : Int} {v d : Rat} (hd : 0 < d) (e : (i : Rat) = v * d) : (i < 0 ↔ v < 0) ∧ (i ≤ 0 ↔ v ≤ 0) ∧ (i = 0 ↔ v = 0) := by
  have z : ((0 : Int) : Rat) = 0 := rfl
  have neg : v < 0 → v * d < 0 := fun h => by
    have := Rat.mul_pos (show 0 < -v by grind) hd
    grind
  have pos : 0 < v → 0 < v * d := fun h => Rat.mul_pos h hd
  have zz : v = 0 → v * d = 0 := fun h => by rw [h, Rat.zero_mul]
  have i1 : i < 0 ↔ (i : Rat) < 0 := by rw [← z, Rat.intCast_lt_intCast]
  have i2 : i = 0 ↔ (i : Rat) = 0 := by rw [← z, Rat.intCast_inj]
  have t : v < 0 ∨ v = 0 ∨ 0 < v := by grind
  rw [← e] at neg pos zz
  refine ⟨?_, ?_, ?_⟩
  · rw [i1]
    rcases t with h | h | h
    · exact ⟨fun _ => h, neg⟩
    · have := zz h
      constructor <;> intro y <;> grind
    · have := pos h
      constructor <;> intro y <;> grind
  · have i3 : i ≤ 0 ↔ (i : Rat) ≤ 0 := by rw [← z, Rat.intCast_le_intCast]
    rw [i3]
    rcases t with h | h | h
    · have := neg h
      constructor <;> intro y <;> grind
    · have := zz h
      constructor <;> intro y <;> grind
    · have := pos h
      constructor <;> intro y <;> grind
  · rw [i2]
    rcases t with h | h | h
    · have := neg h
      constructor <;> intro y <;> grind
    · have := zz h
      constructor <;> intro y <;> grind
    · have := pos h
      constructor <;> intro y <;> grind
theorem Pq.sgn {v : Rat} {a : Nat} {z : Int × Int} (h : Pq v a z) : (z.1 < 0 ↔ v < 0) ∧ (z.1 ≤ 0 ↔ v ≤ 0) ∧ (z.1 = 0 ↔ v = 0) := sgn_mul (rpos h.pos) h.val
theorem nabs_mul {i j : Int} {a b c : Nat} (h1 : i.natAbs < 2 ^ a) (h2 : j.natAbs < 2 ^ b) (h : a + b ≤ c := by omega) : (i * j).natAbs < 2 ^ c := by
  rw [Int.natAbs_mul]
  exact Nat.lt_of_lt_of_le (nlt_mul h1 h2) (pow_le2 h)
theorem nabs_add {i j : Int} {a c : Nat} (h1 : i.natAbs < 2 ^ a) (h2 : j.natAbs < 2 ^ a) (h : a + 1 ≤ c := by omega) : (i + j).natAbs < 2 ^ c := by
  have : (i + j).natAbs ≤ i.natAbs + j.natAbs := Int.natAbs_add_le i j
  exact Nat.lt_of_lt_of_le (Nat.lt_of_le_of_lt this (nlt_add h1 h2)) (pow_le2 h)
theorem nabs_sub {i j : Int} {a c : Nat} (h1 : i.natAbs < 2 ^ a) (h2 : j.natAbs < 2 ^ a) (h : a + 1 ≤ c := by omega) : (i - j).natAbs < 2 ^ c := by
  rw [Int.sub_eq_add_neg]
  exact nabs_add h1 (by rw [Int.natAbs_neg]; exact h2) h
theorem nabs_up {i : Int} {a c : Nat} (h1 : i.natAbs < 2 ^ a) (h : a ≤ c := by omega) : i.natAbs < 2 ^ c := Nat.lt_of_lt_of_le h1 (pow_le2 h)
section
variable {K : PySem.W.Frag} {S : Sta} {ta tb te : TE}
theorem ev_p1 {z : Int × Int} (h : EV S te (Pr2 K z)) : EV S (tOp (rIxT K) te (tC (.int 0))) (It z.1) := ev_op (ot_ixT (k := 0) rfl rfl) h ev_int
theorem ev_p2 {z : Int × Int} (h : EV S te (Pr2 K z)) : EV S (tOp (rIxT K) te (tC (.int 1))) (It z.2) := ev_op (ot_ixT (k := 1) rfl rfl) h ev_int
theorem ev_exOp {α : Type} {A : α → Prop} {f g : α → Rp} {r : R2} {R2' : Rp} (ho : ∀ z, OT r (f z) R2' (g z)) (ha : EV S ta (Exr A f)) (hb : EV S tb R2') : EV S (tOp r ta tb) (Exr A g) := fun σ H st Q q =>
  ha σ H st _ fun x H1 s1 ⟨z, hz, r1⟩ => hb σ H1 (st.mono s1) _ fun y H2 s2 r2 => ho z H2 S.hd x y Q ((st.mono s1).mono s2).used ((f z).mono (hid_same s2) r1) r2 fun v H3 s3 r3 => q v H3 ((s1.trans s2).trans s3) ⟨z, hz, r3⟩
theorem ev_p1E {A : Int × Int → Prop} (h : EV S te (Exr A (Pr2 K))) : EV S (tOp (rIxT K) te (tC (.int 0))) (Exr A fun z => It z.1) := ev_exOp (fun _ => ot_ixT (k := 0) rfl rfl) h ev_int
open Classical in
noncomputable def tr (Q : Prop) : Bool := decide Q
theorem tr_iff {Q : Prop} : tr Q = true ↔ Q := by
  unfold tr
  exact @decide_eq_true_iff Q (Classical.propDecidable Q)
theorem tr_not {Q : Prop} : tr Q = false ↔ ¬ Q := by
  have := tr_iff (Q := Q)
  cases h : tr Q with
  | true => rw [h] at this; simp at this; simp [this]
  | false => rw [h] at this; simp at this; simp [this]
theorem tr_of {Q : Prop} {b : Bool} (h : b = true ↔ Q) : b = tr Q := by
  cases hb : b with
  | true => exact (tr_iff.mpr (h.mp hb)).symm
  | false => exact (tr_not.mpr fun q => by rw [h.mpr q] at hb; cases hb).symm
theorem ev_trE {Q : Prop} (h : EV S te (Exr (fun b : Bool => b = true ↔ Q) Bo)) : EV S te (Bo (tr Q)) := ev_sub h fun H v ⟨b, hb, r⟩ => by rw [← tr_of hb]; exact r
end
section
variable {P : Program} {w : World} {K : PySem.W.Frag} {mg : Str → Option Value} {base : Heap}
/-! ### the law's sums -/
abbrev s_law_dot : Stmt := (topS 77)
theorem sc_law_dot : FnScope ["_law_a", "_law_b", "_law_total", "_law_k", "_law_q"] ["_law_a", "_law_b"] (defScope s_law_dot) := ⟨rfl, rfl, rfl, by decide +kernel, rfl, by decide +kernel, by decide +kernel⟩

structure LdV where
  n : Nat
  e : Nat
  x : Nat → Rat
  y : Nat → Rat
structure LdOk (z : LdV) : Prop where
  n : z.n ≤ 4
  e0 : 1 ≤ z.e
  e : z.e ≤ 1500
  x : ∀ k, k < z.n → Bd z.e z.e (z.x k)
  y : ∀ k, k < z.n → Bd z.e z.e (z.y k)
def sp_law_dot (K : PySem.W.Frag) : Sp := spR (fun z : LdV => [Fl K z.n z.x, Fl K z.n z.y]) LdOk (fun z => PQ K (sm z.n fun k => z.x k * z.y k) (8 * z.e + 8))
theorem ok_law_dot (G : Gb K mg) (F : Def0 K mg "_law_dot" s_law_dot ["_law_a", "_law_b"]) : DefOk P w K mg base "_law_dot" 1 ["_law_a", "_law_b"] (sp_law_dot K) := by
  refine okD F sc_law_dot (fun _ => rfl) (by decide) fun f cdv A outer s H E hr ⟨n, e, x, y⟩ h => ⟨_, (pss_cons (ps_set (i := 2) sc_law_dot.nd rfl (.inl rfl) (pe_tup (pa_cons pe_int (pa_cons pe_int pa_nil))))
        (pss_cons (ps_for PassesOwn.never rfl (pi_range1 (by rfl) G.range (pa_cons (pe_callB (r := rLenQ K) call_len_seq (by rfl) G.len PySem.boot_len (pa_cons (pv 0) pa_nil)) pa_nil)) (pg_name (i := 3) sc_law_dot.nd rfl (.inl rfl)) (pss_cons (ps_set (i := 4) sc_law_dot.nd rfl (.inl rfl) (pe_op op_mulW (pe_ix (r := rIxT K) ix_tup (pe_ix (r := rIxL K) ix_list (pv 0) (pv 3) (fun _ _ => rfl)) pe_int (fun _ _ => rfl)) (pe_ix (r := rIxT K) ix_tup (pe_ix (r := rIxL K) ix_list (pv 1) (pv 3) (fun _ _ => rfl)) pe_int (fun _ _ => rfl))))
        (pss_one (ps_set (i := 2) sc_law_dot.nd rfl (.inl rfl) (pe_tup (pa_cons (pe_op op_add (pe_op op_mulW (pe_ix (r := rIxT K) ix_tup (pv 2) pe_int (fun _ _ => rfl)) (pv 4)) (pe_op op_mulW (pe_op op_mulW (pe_ix (r := rIxT K) ix_tup (pe_ix (r := rIxL K) ix_list (pv 0) (pv 3) (fun _ _ => rfl)) pe_int (fun _ _ => rfl)) (pe_ix (r := rIxT K) ix_tup (pe_ix (r := rIxL K) ix_list (pv 1) (pv 3) (fun _ _ => rfl)) pe_int (fun _ _ => rfl))) (pe_ix (r := rIxT K) ix_tup (pv 2) pe_int (fun _ _ => rfl)))) (pa_cons (pe_op op_mulW (pe_ix (r := rIxT K) ix_tup (pv 2) pe_int (fun _ _ => rfl)) (pv 4)) pa_nil)))))))
        (pss_one (ps_ret (pv 2))))), fun H0 N D rt => ?_⟩
  have hn : n ≤ 4 := h.n
  have he0 : 1 ≤ e := h.e0
  have he : e ≤ 1500 := h.e
  have hx : ∀ k, k < n → Bd e e (x k) := h.x
  have hy : ∀ k, k < n → Bd e e (y k) := h.y
  refine go_seq (go_set (R := Pr2 K (0, 1)) (ev_tup (eva_cons ev_int (eva_cons ev_int eva_nil))) (go_seq ?_))
  refine go_forR (n := n) (α := Int × Int) (fun k z => ⟨H0, N, [], [some (Fl K n x), some (Fl K n y), some (Pr2 K z), none, none]⟩) (fun k z => 0 < z.2 ∧ (z.1 : Rat) = (sm k fun k => x k * y k) * (z.2 : Rat) ∧ z.1.natAbs < 2 ^ (2 * e * k + k + 1) ∧ z.2.natAbs < 2 ^ (2 * e * k + 1)) (eva_cons (ev_cb ct_len (eva_cons (ev_var rfl) eva_nil)) eva_nil) (by omega)
    ⟨(0, 1), ⟨by decide, by show ((0 : Int) : Rat) = 0 * _; rw [Rat.zero_mul]; rfl, two_pos _, by show 1 < 2 ^ (2 * e * 0 + 1); rw [Nat.mul_zero]; decide⟩, fun σ H st => st.wk (by repeat first | exact Wk.nil | refine Wk.keep ?_ | refine Wk.drop ?_)⟩ (fun k z hk ⟨zp, zv, zn, zd⟩ => ?_) fun z ⟨zp, zv, zn, zd⟩ => ?_
  · have hk' : k < n := hk
    have ek : 2 * e * k ≤ 2 * e * 3 := Nat.mul_le_mul_left _ (by omega)
    have ek1 : 2 * e * (k + 1) = 2 * e * k + 2 * e := by rw [Nat.mul_add]; omega
    have bx := Pq.fr (hx k hk')
    have by' := Pq.fr (hy k hk')
    have ex : ∀ {M : Mt} {a b c : Option Rp}, EV ⟨H0, N, M, [some (Fl K n x), some (Fl K n y), a, some (Nt k), c]⟩ (tOp (rIxL K) (tVar 0) (tVar 3)) (Fr K (x k)) := fun {M a b c} => ev_op (ot_ixL (R := fun k => Fr K (x k)) rfl hk') (ev_var rfl) (ev_var rfl)
    have ey : ∀ {M : Mt} {a b c : Option Rp}, EV ⟨H0, N, M, [some (Fl K n x), some (Fl K n y), a, some (Nt k), c]⟩ (tOp (rIxL K) (tVar 1) (tVar 3)) (Fr K (y k)) := fun {M a b c} => ev_op (ot_ixL (R := fun k => Fr K (y k)) rfl hk') (ev_var rfl) (ev_var rfl)
    have dq : (((x k).den : Int) * ((y k).den : Int)).natAbs < 2 ^ (2 * e) := nabs_mul bx.d by'.d
    have nq : ((x k).num * (y k).num).natAbs < 2 ^ (2 * e) := nabs_mul bx.n by'.n
    refine go_seq (go_set (R := It (((x k).den : Int) * ((y k).den : Int))) (ev_imul (ev_den (ex (b := none))) (ev_den (ey (b := none))) (mulW (nabs_up bx.d) (nabs_up by'.d))) ?_)
    refine go_set (R := Pr2 K (z.1 * (((x k).den : Int) * ((y k).den : Int)) + (x k).num * (y k).num * z.2, z.2 * (((x k).den : Int) * ((y k).den : Int)))) (ev_tup (eva_cons (ev_iadd (ev_imul (ev_p1 (ev_var rfl)) (ev_var rfl) (mulW (nabs_up zn) (nabs_up dq))) (ev_imul (ev_imul (ev_num (ex (b := none))) (ev_num (ey (b := none))) (mulW (nabs_up bx.n) (nabs_up by'.n))) (ev_p2 (ev_var rfl)) (mulW (nabs_up nq) (nabs_up zd)))) (eva_cons (ev_imul (ev_p2 (ev_var rfl)) (ev_var rfl) (mulW (nabs_up zd) (nabs_up dq))) eva_nil))) fun σ H st => ⟨_, ⟨?_, ?_, ?_, ?_⟩, st.wk (by repeat first | exact Wk.nil | refine Wk.keep ?_ | refine Wk.drop ?_)⟩
    · exact Int.mul_pos zp (Int.mul_pos bx.pos by'.pos)
    · show ((z.1 * (((x k).den : Int) * ((y k).den : Int)) + (x k).num * (y k).num * z.2 : Int) : Rat) = (sm k (fun k => x k * y k) + x k * y k) * ((z.2 * (((x k).den : Int) * ((y k).den : Int)) : Int) : Rat)
      have e1 : ((x k).num : Rat) = x k * (((x k).den : Int) : Rat) := bx.val
      have e2 : ((y k).num : Rat) = y k * (((y k).den : Int) : Rat) := by'.val
      rw [Rat.intCast_add, Rat.intCast_mul, Rat.intCast_mul, Rat.intCast_mul, Rat.intCast_mul, Rat.intCast_mul, Rat.intCast_mul, zv, e1, e2]
      grind
    · show (z.1 * (((x k).den : Int) * ((y k).den : Int)) + (x k).num * (y k).num * z.2).natAbs < 2 ^ (2 * e * (k + 1) + (k + 1) + 1)
      exact nabs_add (a := 2 * e * k + k + 1 + 2 * e) (nabs_mul zn dq) (nabs_mul nq zd) (by omega)
    · show (z.2 * (((x k).den : Int) * ((y k).den : Int))).natAbs < 2 ^ (2 * e * (k + 1) + 1)
      exact nabs_mul zd dq
  · have en : 2 * e * n ≤ 2 * e * 4 := Nat.mul_le_mul_left _ hn
    exact go_ex (f := Pr2 K) rt z ⟨zp, zv, nabs_up zn (show _ ≤ 8 * e + 8 by omega), nabs_up zd (show _ ≤ 8 * e + 8 by omega)⟩ (ev_var rfl)
abbrev s_law_gap : Stmt := (topS 78)
theorem sc_law_gap : FnScope ["_law_buys", "_law_i", "_law_basket", "_law_price", "_law_money"] ["_law_buys", "_law_i", "_law_basket"] (defScope s_law_gap) := ⟨rfl, rfl, rfl, by decide +kernel, rfl, by decide +kernel, by decide +kernel⟩

structure LgV where
  d : DataV
  i : Nat
  e : Nat
  x : Nat → Rat
structure LgOk (z : LgV) : Prop where
  d : DOk z.d
  i : z.i < z.d.c
  e0 : 40 ≤ z.e
  e : z.e ≤ 1000
  x : ∀ k, k < z.d.g → Bd z.e z.e (z.x k)
def sp_law_gap (K : PySem.W.Frag) : Sp := spR (fun z : LgV => [Buys K z.d, Nt z.i, Fl K z.d.g z.x]) LgOk (fun z => PQ K (z.d.val z.i z.x - z.d.sp z.i) (16 * z.e + 40))
theorem ok_law_gap (G : Gb K mg) (F : Def0 K mg "_law_gap" s_law_gap ["_law_buys", "_law_i", "_law_basket"]) (d_law_dot : DefOk P w K mg base "_law_dot" 1 ["_law_a", "_law_b"] (sp_law_dot K)) : DefOk P w K mg base "_law_gap" 2 ["_law_buys", "_law_i", "_law_basket"] (sp_law_gap K) := by
  refine okD F sc_law_gap (fun _ => rfl) (by decide) fun f cdv A outer s H E hr ⟨d, i, e, x⟩ h => ⟨_, (pss_cons (ps_set (i := 3) sc_law_gap.nd rfl (.inl rfl) (pe_cd d_law_dot (hr.mono (by decide)) (by rfl) (pa_cons (pe_ix (r := rIxT K) ix_tup (pe_ix (r := rIxL K) ix_list (pv 0) (pv 1) (fun _ _ => rfl)) pe_int (fun _ _ => rfl)) (pa_cons (pv 2) pa_nil))))
        (pss_cons (ps_set (i := 4) sc_law_gap.nd rfl (.inl rfl) (pe_cd d_law_dot (hr.mono (by decide)) (by rfl) (pa_cons (pe_ix (r := rIxT K) ix_tup (pe_ix (r := rIxL K) ix_list (pv 0) (pv 1) (fun _ _ => rfl)) pe_int (fun _ _ => rfl)) (pa_cons (pe_ix (r := rIxT K) ix_tup (pe_ix (r := rIxL K) ix_list (pv 0) (pv 1) (fun _ _ => rfl)) pe_int (fun _ _ => rfl)) pa_nil))))
        (pss_one (ps_ret (pe_tup (pa_cons (pe_op op_sub (pe_op op_mulW (pe_ix (r := rIxT K) ix_tup (pv 3) pe_int (fun _ _ => rfl)) (pe_ix (r := rIxT K) ix_tup (pv 4) pe_int (fun _ _ => rfl))) (pe_op op_mulW (pe_ix (r := rIxT K) ix_tup (pv 4) pe_int (fun _ _ => rfl)) (pe_ix (r := rIxT K) ix_tup (pv 3) pe_int (fun _ _ => rfl)))) (pa_cons (pe_op op_mulW (pe_ix (r := rIxT K) ix_tup (pv 3) pe_int (fun _ _ => rfl)) (pe_ix (r := rIxT K) ix_tup (pv 4) pe_int (fun _ _ => rfl))) pa_nil))))))), fun H0 N D rt => ?_⟩
  have D' : DOk d := h.d
  have hi : i < d.c := h.i
  have he0 : 40 ≤ e := h.e0
  have he : e ≤ 1000 := h.e
  have hx : ∀ k, k < d.g → Bd e e (x k) := h.x
  have ep : ∀ {a b c : Option Rp}, EV ⟨H0, N, [], [some (Buys K d), some (Nt i), a, b, c]⟩ (tOp (rIxT K) (tOp (rIxL K) (tVar 0) (tVar 1)) (tC (.int 0))) (Fl K d.g (d.pr i)) := fun {a b c} => ev_op (ot_ixT (k := 0) rfl rfl) (ev_op (ot_ixL (R := fun i => Buy K d.g (d.pr i) (d.am i)) rfl hi) (ev_var rfl) (ev_var rfl)) ev_int
  refine go_seq (go_set (ev_call (⟨d.g, e, d.pr i, x⟩ : LdV) (eva_cons ep (eva_cons (ev_var rfl) eva_nil)) ⟨D'.g, by show 1 ≤ e; omega, by show e ≤ 1500; omega, fun k hk => (D'.pr i hi k hk).mono he0 (by show 10 ≤ e; omega), hx⟩) (go_open (i := 3) rfl fun z hz => go_seq ?_))
  refine go_set (ev_call (⟨d.g, 40, d.pr i, d.am i⟩ : LdV) (eva_cons ep (eva_cons (ev_op (ot_ixT (k := 1) rfl rfl) (ev_op (ot_ixL (R := fun i => Buy K d.g (d.pr i) (d.am i)) rfl hi) (ev_var rfl) (ev_var rfl)) ev_int) eva_nil)) ⟨D'.g, show 1 ≤ 40 by decide, show 40 ≤ 1500 by decide, fun k hk => (D'.pr i hi k hk).mono (show 40 ≤ 40 by decide) (show 10 ≤ 40 by decide), fun k hk => (D'.am i hi k hk).mono (show 40 ≤ 40 by decide) (show 10 ≤ 40 by decide)⟩) (go_open (i := 4) rfl fun u hu => ?_)
  have hz : Pq (d.val i x) (8 * e + 8) z := hz
  have hu : Pq (d.sp i) 328 u := hu
  refine go_ex (f := Pr2 K) rt (z.1 * u.2 - u.1 * z.2, z.2 * u.2) ⟨Int.mul_pos hz.pos hu.pos, ?_, nabs_sub (a := 8 * e + 8 + 328) (nabs_mul hz.n hu.d) (nabs_mul hu.n hz.d) (show _ ≤ 16 * e + 40 by omega), nabs_mul hz.d hu.d (show _ ≤ 16 * e + 40 by omega)⟩ (ev_tup (eva_cons (ev_isub (ev_imul (ev_p1 (ev_var rfl)) (ev_p2 (ev_var rfl)) (mulW (nabs_up hz.n) (nabs_up hu.d))) (ev_imul (ev_p1 (ev_var rfl)) (ev_p2 (ev_var rfl)) (mulW (nabs_up hu.n) (nabs_up hz.d)))) (eva_cons (ev_imul (ev_p2 (ev_var rfl)) (ev_p2 (ev_var rfl)) (mulW (nabs_up hz.d) (nabs_up hu.d))) eva_nil)))
  show ((z.1 * u.2 - u.1 * z.2 : Int) : Rat) = (d.val i x - d.sp i) * ((z.2 * u.2 : Int) : Rat)
  rw [Rat.intCast_sub, Rat.intCast_mul, Rat.intCast_mul, Rat.intCast_mul, hz.val, hu.val]
  grind
end
end BB
namespace BB
open PySem PySem.Spec PyProof.Rows L2
section
variable {S : Sta} {ta tb te : TE}
theorem ev_ltE {A : Int → Prop} {c : Int} {b : Bool} (h : EV S ta (Exr A It)) (hb : ∀ o, A o → decide (o < c) = b) : EV S (tOp (rI0 fun i j => .bl (decide (i < j))) ta (tC (.int c))) (Bo b) := ev_sub (ev_exOp (g := fun o => Bo (decide (o < c))) (fun o => ot_B0 (g := fun i j => decide (i < j))) h ev_int) fun H v ⟨o, ho, r⟩ => by rw [← hb o ho]; exact r
theorem ev_leE {A : Int → Prop} {c : Int} {b : Bool} (h : EV S ta (Exr A It)) (hb : ∀ o, A o → decide (o ≤ c) = b) : EV S (tOp (rI0 fun i j => .bl (decide (i ≤ j))) ta (tC (.int c))) (Bo b) := ev_sub (ev_exOp (g := fun o => Bo (decide (o ≤ c))) (fun o => ot_B0 (g := fun i j => decide (i ≤ j))) h ev_int) fun H v ⟨o, ho, r⟩ => by rw [← hb o ho]; exact r
theorem ev_gtE {A : Int → Prop} {c : Int} {b : Bool} (h : EV S ta (Exr A It)) (hb : ∀ o, A o → decide (c < o) = b) : EV S (tOp (rI0 fun i j => .bl (decide (j < i))) ta (tC (.int c))) (Bo b) := ev_sub (ev_exOp (g := fun o => Bo (decide (c < o))) (fun o => ot_B0 (g := fun i j => decide (j < i))) h ev_int) fun H v ⟨o, ho, r⟩ => by rw [← hb o ho]; exact r
end
section
variable {P : Program} {w : World} {K : PySem.W.Frag} {mg : Str → Option Value} {base : Heap}
/-! ### the law's steps -/
abbrev s_law_step : Stmt := (topS 79)
theorem sc_law_step : FnScope ["_law_buys", "_law_links", "_law_i", "_law_j", "_law_found", "_law_over_here", "_law_first", "_law_second", "_law_strict"] ["_law_buys", "_law_links", "_law_i", "_law_j"] (defScope s_law_step) := ⟨rfl, rfl, rfl, by decide +kernel, rfl, by decide +kernel, by decide +kernel⟩

def sp_law_step (K : PySem.W.Frag) : Sp := spR (fun z : DataV × Nat × Nat => [Buys K z.1, Lnks K z.1, Nt z.2.1, Nt z.2.2]) (fun z => DOk z.1 ∧ z.2.1 < z.1.c ∧ z.2.2 < z.1.c) (fun z => Ob (stp z.1 z.2.1 z.2.2))
theorem ok_law_step (G : Gb K mg) (F : Def0 K mg "_law_step" s_law_step ["_law_buys", "_law_links", "_law_i", "_law_j"]) (d_law_gap : DefOk P w K mg base "_law_gap" 2 ["_law_buys", "_law_i", "_law_basket"] (sp_law_gap K)) : DefOk P w K mg base "_law_step" 3 ["_law_buys", "_law_links", "_law_i", "_law_j"] (sp_law_step K) := by
  refine okD F sc_law_step (fun _ => rfl) (by decide) fun f cdv A outer s H E hr ⟨d, i, j⟩ h => ⟨_, (pss_cons (ps_set (i := 4) sc_law_step.nd rfl (.inl rfl) pe_non)
        (pss_cons (ps_if (pt_cmpR op_ne (pv 2) (pv 3) (nomark _)) (pss_cons (ps_set (i := 5) sc_law_step.nd rfl (.inl rfl) (pe_ix (r := rIxT K) ix_tup (pe_cd d_law_gap (hr.mono (by decide)) (by rfl) (pa_cons (pv 0) (pa_cons (pv 2) (pa_cons (pe_ix (r := rIxT K) ix_tup (pe_ix (r := rIxL K) ix_list (pv 0) (pv 3) (fun _ _ => rfl)) pe_int (fun _ _ => rfl)) pa_nil)))) pe_int (fun _ _ => rfl)))
        (pss_one (ps_if (pt_cmpR op_le (pv 5) pe_int (nomark _)) (pss_one (ps_set (i := 4) sc_law_step.nd rfl (.inl rfl) (pe_cmpR op_lt (pv 5) pe_int (nomark _)))) pss_nil))) pss_nil)
        (pss_cons (ps_for PassesOwn.never rfl (pi_listK (K := K) rfl (pv 1)) (pg_tupK (K := K) rfl (by rfl) (pgs_cons (pg_name (i := 6) sc_law_step.nd rfl (.inl rfl)) (pgs_cons (pg_name (i := 7) sc_law_step.nd rfl (.inl rfl)) (pgs_cons (pg_name (i := 8) sc_law_step.nd rfl (.inl rfl)) pgs_nil)))) (pss_one (ps_if (PW.pt (pw_and (pt_cmpR op_eq (pv 6) (pv 2) (nomark _)) (pw_and1 (pt_cmpR op_eq (pv 7) (pv 3) (nomark _))))) (pss_one (ps_set (i := 4) sc_law_step.nd rfl (.inl rfl) (pe_or (pv 8) (pe_one (pe_cmpR (op_isO) (pv 4) pe_bl (nomark _)))))) pss_nil)))
        (pss_one (ps_ret (pv 4)))))), fun H0 N D rt => ?_⟩
  obtain ⟨D', hi, hj⟩ := h
  have D' : DOk d := D'
  have hi : i < d.c := hi
  have hj : j < d.c := hj
  refine go_seq (go_set ev_non (go_seq (go_ifj ⟨H0, N, [], [some (Buys K d), some (Lnks K d), some (Nt i), some (Nt j), some (Ob (stb d i j)), none, none, none, none]⟩ (et_test (ev_op ot_neI (ev_var rfl) (ev_var rfl))) (fun e nx kk => ?_) (fun e nx kk => go_next fun σ H st => kk σ H ?_) (go_seq ?_))))
  · have ne : i ≠ j := fun z => by
      rw [z] at e
      simp at e
    refine go_seq (go_set (ev_p1E (ev_call (⟨d, i, 40, d.am j⟩ : LgV) (eva_cons (ev_var rfl) (eva_cons (ev_var rfl) (eva_cons (ev_op (ot_ixT (k := 1) rfl rfl) (ev_op (ot_ixL (R := fun i => Buy K d.g (d.pr i) (d.am i)) rfl hj) (ev_var rfl) (ev_var rfl)) ev_int) eva_nil))) ⟨D', hi, show 40 ≤ 40 by decide, show 40 ≤ 1000 by decide, fun k hk => (D'.am j hj k hk).mono (show 40 ≤ 40 by decide) (show 10 ≤ 40 by decide)⟩)) (go_open (i := 5) rfl fun z hz => ?_))
    have hz : Pq (d.at' i j - d.sp i) (16 * 40 + 40) z := hz
    obtain ⟨s1, s2, s3⟩ := hz.sgn
    refine go_if (et_test (ev_ile (ev_var rfl) ev_int)) (fun e2 => ?_) fun e2 => go_next fun σ H st => kk σ H ?_
    · have e3 : d.at' i j ≤ d.sp i := by
        have := s2.mp (of_decide_eq_true e2)
        grind
      refine go_set (R := Ob (stb d i j)) (ev_sub (ev_ilt (ev_var rfl) ev_int) fun H v q => ?_) fun σ H st => kk σ H (st.wk (by repeat first | exact Wk.nil | refine Wk.keep ?_ | refine Wk.drop ?_))
      unfold stb
      rw [if_pos ⟨ne, e3⟩]
      have e4 : decide (z.1 < 0) = decide (d.at' i j < d.sp i) := decide_eq_decide.mpr (s1.trans ⟨fun h => by grind, fun h => by grind⟩)
      rw [e4] at q
      exact q
    · have e3 : ¬ d.at' i j ≤ d.sp i := fun y => of_decide_eq_false e2 (s2.mpr (by grind))
      have : Ob (stb d i j) = No := by
        unfold stb
        rw [if_neg fun z => e3 z.2]
        rfl
      rw [this]
      exact st.wk (by repeat first | exact Wk.nil | refine Wk.keep ?_ | refine Wk.drop ?_)
  · have eq : i = j := by
      have := of_decide_eq_true (show decide ((i : Int) = (j : Int)) = true by simpa using e)
      omega
    have : Ob (stb d i j) = No := by
      unfold stb
      rw [if_neg fun z => z.1 eq]
      rfl
    rw [this]
    exact st.wk (by repeat first | exact Wk.nil | refine Wk.keep ?_ | refine Wk.drop ?_)
  refine go_forL (α := Unit) (fun G' t _ => ⟨G', N, [], [some (Buys K d), some (Lnks K d), some (Nt i), some (Nt j), some (Ob (lkf d.lk i j (stb d i j) t)), none, none, none, none]⟩)
    (fun G' t _ => ⟨G', N, [], [some (Buys K d), some (Lnks K d), some (Nt i), some (Nt j), some (Ob (lkf d.lk i j (stb d i j) t)), none, some (Nt (d.lk t).1), some (Nt (d.lk t).2.1), some (Bo (d.lk t).2.2)]⟩) (fun _ _ => True) (ev_var rfl) (fun _ _ _ => ⟨rfl, rfl, rfl⟩)
    (fun G' => ⟨(), trivial, fun σ H st => st⟩) (fun _ _ _ _ => gt_tup rfl (gl_cons (gl_cons (gl_cons gl_nil)))) (fun G' t _ s1 ht _ => ?_) fun G' _ s1 _ => ?_
  · refine go_if (et_and (et_test (ev_op ot_eqI (ev_var rfl) (ev_var rfl))) fun _ => et_test (ev_op ot_eqI (ev_var rfl) (ev_var rfl))) (fun e => ?_) fun e => go_next fun σ H st => ⟨(), trivial, ?_⟩
    · have e2 : (d.lk t).1 = i ∧ (d.lk t).2.1 = j := by
        simp only [Bool.and_eq_true, decide_eq_true_eq] at e
        omega
      refine go_set (ev_orV (ev_var rfl) fun _ => ev_op ot_isO (ev_var rfl) ev_bl) fun σ H st => ⟨(), trivial, ?_⟩
      have : lkf d.lk i j (stb d i j) (t + 1) = some ((d.lk t).2.2 || decide (lkf d.lk i j (stb d i j) t = some true)) := by
        rw [Bool.or_comm]
        exact if_pos e2
      rw [this]
      exact st.wk (by repeat first | exact Wk.nil | refine Wk.keep ?_ | refine Wk.drop ?_)
    · have e2 : ¬ ((d.lk t).1 = i ∧ (d.lk t).2.1 = j) := fun z => by
        rw [z.1, z.2] at e
        simp at e
      have : lkf d.lk i j (stb d i j) (t + 1) = lkf d.lk i j (stb d i j) t := if_neg e2
      rw [this]
      exact st.wk (by repeat first | exact Wk.nil | refine Wk.keep ?_ | refine Wk.drop ?_)
  · exact go_back (rt.base s1) (ev_var rfl)
abbrev s_law_steps : Stmt := (topS 80)
theorem sc_law_steps : FnScope ["_law_buys", "_law_links", "_law_i", "_law_j"] ["_law_buys", "_law_links"] (defScope s_law_steps) := ⟨rfl, rfl, rfl, by decide +kernel, rfl, by decide +kernel, by decide +kernel⟩

def sp_law_steps (K : PySem.W.Frag) : Sp := spR (fun z : DataV => [Buys K z, Lnks K z]) DOk (fun z => TabR z.c (stp z))
theorem ok_law_steps (G : Gb K mg) (F : Def0 K mg "_law_steps" s_law_steps ["_law_buys", "_law_links"]) (d_law_step : DefOk P w K mg base "_law_step" 3 ["_law_buys", "_law_links", "_law_i", "_law_j"] (sp_law_step K)) : DefOk P w K mg base "_law_steps" 4 ["_law_buys", "_law_links"] (sp_law_steps K) := by
  refine okD F sc_law_steps (fun _ => rfl) (by decide) fun f cdv A outer s H E hr d D' => ⟨_, (pss_one (ps_ret (pe_lc (own := [("_law_i", 2)]) (g := (gName 2)) (tt := tYes) rfl sc_law_steps.nd (pi_range1 (by rfl) G.range (pa_cons (pe_callB (r := rLenQ K) call_len_seq (by rfl) G.len PySem.boot_len (pa_cons (pv 0) pa_nil)) pa_nil)) (blkOk_by (N := ["_law_buys", "_law_links", "_law_i", "_law_j"]) (own := [("_law_i", 2)]) (sc := (defScope s_law_steps)) (by decide +kernel)) (fun _ _ _ _ _ => (pg_name (i := 2) sc_law_steps.nd rfl (.inr rfl))) (fun _ _ _ _ _ => pts_nil) (fun _ _ _ _ _ => (pe_lc (own := [("_law_j", 3)]) (g := (gName 3)) (tt := tYes) rfl sc_law_steps.nd (pi_range1 (by rfl) G.range (pa_cons (pe_callB (r := rLenQ K) call_len_seq (by rfl) G.len PySem.boot_len (pa_cons (pv 0) pa_nil)) pa_nil)) (blkOk_by (N := ["_law_buys", "_law_links", "_law_i", "_law_j"]) (own := [("_law_j", 3)]) (sc := _) (by rfl)) (fun _ _ _ _ _ => (pg_name (i := 3) sc_law_steps.nd rfl (.inl rfl))) (fun _ _ _ _ _ => pts_nil) (fun _ _ _ _ _ => (pe_cd d_law_step (hr.mono (by decide)) (by rfl) (pa_cons (pv 0) (pa_cons (pv 1) (pa_cons (pv 2) (pa_cons (pv 3) pa_nil))))))))))), fun H0 N D rt => ?_⟩
  have hc := D'.c
  exact go_back rt (evn_lcR (n := d.c) (eva_cons (ev_cb ct_len (eva_cons (ev_var rfl) eva_nil)) eva_nil) (by omega) fun Da i hi => (evn_lcR (n := d.c) (eva_cons (ev_cb ct_len (eva_cons (ev_var rfl) eva_nil)) eva_nil) (by omega) fun Db j hj => ev_call (d, i, j) (eva_cons (ev_var rfl) (eva_cons (ev_var rfl) (eva_cons (ev_var rfl) (eva_cons (ev_var rfl) eva_nil)))) ⟨D', hi, hj⟩).ev).ev
/-! ### pairs: sums, products, differences -/
abbrev s_law_add : Stmt := (topS 82)
theorem sc_law_add : FnScope ["_law_a", "_law_b"] ["_law_a", "_law_b"] (defScope s_law_add) := ⟨rfl, rfl, rfl, by decide +kernel, rfl, by decide +kernel, by decide +kernel⟩

abbrev s_law_mul : Stmt := (topS 83)
theorem sc_law_mul : FnScope ["_law_a", "_law_b"] ["_law_a", "_law_b"] (defScope s_law_mul) := ⟨rfl, rfl, rfl, by decide +kernel, rfl, by decide +kernel, by decide +kernel⟩

abbrev s_law_over : Stmt := (topS 84)
theorem sc_law_over : FnScope ["_law_a", "_law_b"] ["_law_a", "_law_b"] (defScope s_law_over) := ⟨rfl, rfl, rfl, by decide +kernel, rfl, by decide +kernel, by decide +kernel⟩

structure PpO (z : (Int × Int) × (Int × Int)) : Prop where
  a : z.1.1.natAbs < 2 ^ 20000
  b : z.1.2.natAbs < 2 ^ 20000
  c : z.2.1.natAbs < 2 ^ 20000
  d : z.2.2.natAbs < 2 ^ 20000
abbrev PpA (K : PySem.W.Frag) (z : (Int × Int) × (Int × Int)) : List Rp := [Pr2 K z.1, Pr2 K z.2]
def sp_law_add (K : PySem.W.Frag) : Sp := spR (PpA K) PpO (fun z => Pr2 K (z.1.1 * z.2.2 + z.2.1 * z.1.2, z.1.2 * z.2.2))
def sp_law_mul (K : PySem.W.Frag) : Sp := spR (PpA K) PpO (fun z => Pr2 K (z.1.1 * z.2.1, z.1.2 * z.2.2))
def sp_law_over (K : PySem.W.Frag) : Sp := spR (PpA K) PpO (fun z => It (z.1.1 * z.2.2 - z.2.1 * z.1.2))
theorem ok_law_add (F : Def0 K mg "_law_add" s_law_add ["_law_a", "_law_b"]) : DefOk P w K mg base "_law_add" 1 ["_law_a", "_law_b"] (sp_law_add K) := by
  refine okD F sc_law_add (fun _ => rfl) (by decide) fun f cdv A outer s H E hr z h => ⟨_, (pss_one (ps_ret (pe_tup (pa_cons (pe_op op_add (pe_op op_mulW (pe_ix (r := rIxT K) ix_tup (pv 0) pe_int (fun _ _ => rfl)) (pe_ix (r := rIxT K) ix_tup (pv 1) pe_int (fun _ _ => rfl))) (pe_op op_mulW (pe_ix (r := rIxT K) ix_tup (pv 1) pe_int (fun _ _ => rfl)) (pe_ix (r := rIxT K) ix_tup (pv 0) pe_int (fun _ _ => rfl)))) (pa_cons (pe_op op_mulW (pe_ix (r := rIxT K) ix_tup (pv 0) pe_int (fun _ _ => rfl)) (pe_ix (r := rIxT K) ix_tup (pv 1) pe_int (fun _ _ => rfl))) pa_nil))))), fun H0 N D rt => ?_⟩
  exact go_back rt (ev_tup (eva_cons (ev_iadd (ev_imul (ev_p1 (ev_var rfl)) (ev_p2 (ev_var rfl)) (mulW h.a h.d)) (ev_imul (ev_p1 (ev_var rfl)) (ev_p2 (ev_var rfl)) (mulW h.c h.b))) (eva_cons (ev_imul (ev_p2 (ev_var rfl)) (ev_p2 (ev_var rfl)) (mulW h.b h.d)) eva_nil)))
theorem ok_law_mul (F : Def0 K mg "_law_mul" s_law_mul ["_law_a", "_law_b"]) : DefOk P w K mg base "_law_mul" 1 ["_law_a", "_law_b"] (sp_law_mul K) := by
  refine okD F sc_law_mul (fun _ => rfl) (by decide) fun f cdv A outer s H E hr z h => ⟨_, (pss_one (ps_ret (pe_tup (pa_cons (pe_op op_mulW (pe_ix (r := rIxT K) ix_tup (pv 0) pe_int (fun _ _ => rfl)) (pe_ix (r := rIxT K) ix_tup (pv 1) pe_int (fun _ _ => rfl))) (pa_cons (pe_op op_mulW (pe_ix (r := rIxT K) ix_tup (pv 0) pe_int (fun _ _ => rfl)) (pe_ix (r := rIxT K) ix_tup (pv 1) pe_int (fun _ _ => rfl))) pa_nil))))), fun H0 N D rt => ?_⟩
  exact go_back rt (ev_tup (eva_cons (ev_imul (ev_p1 (ev_var rfl)) (ev_p1 (ev_var rfl)) (mulW h.a h.c)) (eva_cons (ev_imul (ev_p2 (ev_var rfl)) (ev_p2 (ev_var rfl)) (mulW h.b h.d)) eva_nil)))
theorem ok_law_over (F : Def0 K mg "_law_over" s_law_over ["_law_a", "_law_b"]) : DefOk P w K mg base "_law_over" 1 ["_law_a", "_law_b"] (sp_law_over K) := by
  refine okD F sc_law_over (fun _ => rfl) (by decide) fun f cdv A outer s H E hr z h => ⟨_, (pss_one (ps_ret (pe_op op_sub (pe_op op_mulW (pe_ix (r := rIxT K) ix_tup (pv 0) pe_int (fun _ _ => rfl)) (pe_ix (r := rIxT K) ix_tup (pv 1) pe_int (fun _ _ => rfl))) (pe_op op_mulW (pe_ix (r := rIxT K) ix_tup (pv 1) pe_int (fun _ _ => rfl)) (pe_ix (r := rIxT K) ix_tup (pv 0) pe_int (fun _ _ => rfl)))))), fun H0 N D rt => ?_⟩
  exact go_back rt (ev_isub (ev_imul (ev_p1 (ev_var rfl)) (ev_p2 (ev_var rfl)) (mulW h.a h.d)) (ev_imul (ev_p1 (ev_var rfl)) (ev_p2 (ev_var rfl)) (mulW h.c h.b)))
/-- what the difference of two pairs tells -/
structure OvS (u v : Rat) (o : Int) : Prop where
  lt : o < 0 ↔ u < v
  le : o ≤ 0 ↔ u ≤ v
theorem over_sgn {u v : Rat} {a b : Nat} {x y : Int × Int} (hx : Pq u a x) (hy : Pq v b y) : OvS u v (x.1 * y.2 - y.1 * x.2) := by
  have hd : (0 : Rat) < ((x.2 * y.2 : Int) : Rat) := rpos (Int.mul_pos hx.pos hy.pos)
  obtain ⟨s1, s2, _⟩ := sgn_mul (i := x.1 * y.2 - y.1 * x.2) (v := u - v) hd (by
    rw [Rat.intCast_sub, Rat.intCast_mul, Rat.intCast_mul, Rat.intCast_mul, hx.val, hy.val]
    grind)
  exact ⟨s1.trans ⟨fun h => by grind, fun h => by grind⟩, s2.trans ⟨fun h => by grind, fun h => by grind⟩⟩
theorem ev_over {S : Sta} {ta tb : TE} {u v : Rat} {a b : Nat} {E : XK} (ha : EV S ta (PQ K u a)) (hb : EV S tb (PQ K v b)) (h1 : a ≤ 20000) (h2 : b ≤ 20000) : EV S (tCall (sp_law_over K) [] E (tCons ta (tCons tb tNil))) (Exr (OvS u v) It) :=
  ev_callE (eva_cons ha (eva_cons hb eva_nil)) fun H vs q => by
    obtain ⟨x, y, rfl, ⟨x', hx, rx⟩, y', hy, ry⟩ := al2 q
    exact ⟨(x', y'), al2' rx ry, ⟨nabs_up hx.n h1, nabs_up hx.d h1, nabs_up hy.n h2, nabs_up hy.d h2⟩, fun H' v r => ⟨_, over_sgn hx hy, r⟩⟩
theorem fr_pq {x : Rat} {a : Nat} (h : Bd a a x) (H : Hp) (v : V) (r : (Fr K x).p H v) : (PQ K x a).p H v := ⟨_, Pq.fr h, r⟩
/-! ### baskets -/
abbrev s_law_scaled : Stmt := (topS 87)
theorem sc_law_scaled : FnScope ["_law_basket", "_law_p", "_law_q", "_law_x"] ["_law_basket", "_law_p", "_law_q"] (defScope s_law_scaled) := ⟨rfl, rfl, rfl, by decide +kernel, rfl, by decide +kernel, by decide +kernel⟩

structure SaV where
  g : Nat
  x : Nat → Rat
  z : Int × Int
structure SaOk (y : SaV) : Prop where
  g : y.g ≤ 4
  x : ∀ k, k < y.g → Bd 4000 4000 (y.x k)
  z0 : 0 < y.z.2
  z1 : y.z.1.natAbs < 2 ^ 4000
  z2 : y.z.2.natAbs < 2 ^ 4000
def sp_law_scaled (K : PySem.W.Frag) : Sp := spR (fun y : SaV => [Fl K y.g y.x, It y.z.1, It y.z.2]) SaOk (fun y => Fl K y.g fun k => y.x k * Rat.divInt y.z.1 y.z.2)
theorem ok_law_scaled (F : Def0 K mg "_law_scaled" s_law_scaled ["_law_basket", "_law_p", "_law_q"]) (d_law_lowest : DefOk P w K mg base "_law_lowest" 2 ["_law_p", "_law_q"] (sp_law_lowest K)) : DefOk P w K mg base "_law_scaled" 3 ["_law_basket", "_law_p", "_law_q"] (sp_law_scaled K) := by
  refine okD F sc_law_scaled (fun _ => rfl) (by decide) fun f cdv A outer s H E hr ⟨g, x, z⟩ h => ⟨_, (pss_one (ps_ret (pe_lc (own := [("_law_x", 3)]) (g := (gName 3)) (tt := tYes) rfl sc_law_scaled.nd (pi_listK (K := K) rfl (pv 0)) (blkOk_by (N := ["_law_basket", "_law_p", "_law_q", "_law_x"]) (own := [("_law_x", 3)]) (sc := (defScope s_law_scaled)) (by decide +kernel)) (fun _ _ _ _ _ => (pg_name (i := 3) sc_law_scaled.nd rfl (.inl rfl))) (fun _ _ _ _ _ => pts_nil) (fun _ _ _ _ _ => (pe_cd d_law_lowest (hr.mono (by decide)) (by rfl) (pa_cons (pe_op op_mulW (pe_ix (r := rIxT K) ix_tup (pv 3) pe_int (fun _ _ => rfl)) (pv 1)) (pa_cons (pe_op op_mulW (pe_ix (r := rIxT K) ix_tup (pv 3) pe_int (fun _ _ => rfl)) (pv 2)) pa_nil))))))), fun H0 N D rt => ?_⟩
  have hg : g ≤ 4 := h.g
  have hx : ∀ k, k < g → Bd 4000 4000 (x k) := h.x
  have z0 : 0 < z.2 := h.z0
  have z1 : z.1.natAbs < 2 ^ 4000 := h.z1
  have z2 : z.2.natAbs < 2 ^ 4000 := h.z2
  refine go_back rt (evn_lcL (n := g) (ev_var rfl) (by omega) fun Dq k hk => ?_).ev
  have q := Pq.fr (hx k hk)
  refine ev_eq (ev_call ((x k).num * z.1, ((x k).den : Int) * z.2) (eva_cons (ev_imul (ev_num (ev_var rfl)) (ev_var rfl) (mulW (nabs_up q.n) (nabs_up z1))) (eva_cons (ev_imul (ev_den (ev_var rfl)) (ev_var rfl) (mulW (nabs_up q.d) (nabs_up z2))) eva_nil)) ⟨Int.mul_pos q.pos z0, nabs_mul q.d z2⟩) ?_
  show Fr K (Rat.divInt ((x k).num * z.1) (((x k).den : Int) * z.2)) = Fr K (x k * Rat.divInt z.1 z.2)
  rw [← Rat.divInt_mul_divInt, Rat.num_divInt_den]
abbrev s_law_keeps : Stmt := (topS 86)
theorem sc_law_keeps : FnScope ["_law_buys", "_law_rows", "_law_basket", "_law_weakly", "_law_j", "_law_over_here"] ["_law_buys", "_law_rows", "_law_basket", "_law_weakly"] (defScope s_law_keeps) := ⟨rfl, rfl, rfl, by decide +kernel, rfl, by decide +kernel, by decide +kernel⟩

structure KpV where
  d : DataV
  T : Nat → Option Bool
  x : Nat → Rat
  b : Bool
  e : Nat
def KpS (d : DataV) (T : Nat → Option Bool) (x : Nat → Rat) (b : Bool) : Prop := ∀ j, j < d.c → ∀ t, T j = some t → d.sp j ≤ d.val j x ∧ (t = true → b = false → d.sp j < d.val j x)
def sp_law_keeps (K : PySem.W.Frag) : Sp := spR (fun z : KpV => [Buys K z.d, Row z.d.c z.T, Fl K z.d.g z.x, Bo z.b]) (fun z => DOk z.d ∧ 40 ≤ z.e ∧ z.e ≤ 1000 ∧ ∀ k, k < z.d.g → Bd z.e z.e (z.x k)) (fun z => Bo (tr (KpS z.d z.T z.x z.b)))
theorem ok_law_keeps (G : Gb K mg) (F : Def0 K mg "_law_keeps" s_law_keeps ["_law_buys", "_law_rows", "_law_basket", "_law_weakly"]) (d_law_gap : DefOk P w K mg base "_law_gap" 2 ["_law_buys", "_law_i", "_law_basket"] (sp_law_gap K)) : DefOk P w K mg base "_law_keeps" 3 ["_law_buys", "_law_rows", "_law_basket", "_law_weakly"] (sp_law_keeps K) := by
  refine okD F sc_law_keeps (fun _ => rfl) (by decide) fun f cdv A outer s H E hr ⟨d, T, x, b, e⟩ h => ⟨_, (pss_cons (ps_for PassesOwn.never rfl (pi_range1 (by rfl) G.range (pa_cons (pe_callB (r := rLenQ K) call_len_seq (by rfl) G.len PySem.boot_len (pa_cons (pv 0) pa_nil)) pa_nil)) (pg_name (i := 4) sc_law_keeps.nd rfl (.inl rfl)) (pss_one (ps_if (pt_cmpR op_notN (pe_ix (r := rIxL K) ix_list (pv 1) (pv 4) (fun _ _ => rfl)) pe_non (nomark _)) (pss_cons (ps_set (i := 5) sc_law_keeps.nd rfl (.inl rfl) (pe_ix (r := rIxT K) ix_tup (pe_cd d_law_gap (hr.mono (by decide)) (by rfl) (pa_cons (pv 0) (pa_cons (pv 4) (pa_cons (pv 2) pa_nil)))) pe_int (fun _ _ => rfl)))
        (pss_one (ps_if (PW.pt (pw_or (pt_cmpR op_lt (pv 5) pe_int (nomark _)) (pw_or1 (PW.pt (pw_and (pt_cmpR op_eq (pv 5) pe_int (nomark _)) (pw_and (pt_val (pe_ix (r := rIxL K) ix_list (pv 1) (pv 4) (fun _ _ => rfl))) (pw_and1 (pt_not (pt_val (pv 3)))))))))) (pss_one (ps_ret pe_bl)) pss_nil))) pss_nil)))
        (pss_one (ps_ret pe_bl))), fun H0 N D rt => ?_⟩
  obtain ⟨D', e0, e1, hx⟩ := h
  have D' : DOk d := D'
  have hc := D'.c
  refine go_seq ?_
  refine go_forR (n := d.c) (α := Unit) (fun _ _ => ⟨H0, N, [], [some (Buys K d), some (Row d.c T), some (Fl K d.g x), some (Bo b), none, none]⟩) (fun k _ => ∀ j, j < k → ∀ t, T j = some t → d.sp j ≤ d.val j x ∧ (t = true → b = false → d.sp j < d.val j x)) (eva_cons (ev_cb ct_len (eva_cons (ev_var rfl) eva_nil)) eva_nil) (by omega)
    ⟨(), fun j hj => absurd hj (Nat.not_lt_zero j), fun σ H st => st⟩ (fun k _ hk I => ?_) fun _ I => go_ret (R := Bo (tr (KpS d T x b))) (ev_eq ev_bl (by rw [show tr (KpS d T x b) = true from tr_iff.mpr I])) rt
  have er : ∀ {a : Option Rp}, EV ⟨H0, N, [], [some (Buys K d), some (Row d.c T), some (Fl K d.g x), some (Bo b), some (Nt k), a]⟩ (tOp (rIxL K) (tVar 1) (tVar 4)) (Ob (T k)) := fun {a} => ev_op (ot_ixL (R := fun j => Ob (T j)) rfl hk) (ev_var rfl) (ev_var rfl)
  have nxt : (∀ t, T k = some t → d.sp k ≤ d.val k x ∧ (t = true → b = false → d.sp k < d.val k x)) → ∀ j, j < k + 1 → ∀ t, T j = some t → d.sp j ≤ d.val j x ∧ (t = true → b = false → d.sp j < d.val j x) := fun hh j hj => by
    by_cases c : j = k
    · rw [c]; exact hh
    · exact I j (by omega)
  cases eT : T k with
  | none =>
    rw [eT] at er
    exact go_if (b := false) (et_test (ev_op (ot_notN ob_none) er ev_non)) (fun e => by cases e) fun _ => go_next fun σ H st => ⟨(), nxt fun t e => (by rw [eT] at e; cases e), st.wk (by repeat first | exact Wk.nil | refine Wk.keep ?_ | refine Wk.drop ?_)⟩
  | some t =>
    rw [eT] at er
    refine go_if (b := true) (et_test (ev_op (ot_notN ob_none) er ev_non)) (fun _ => ?_) fun e => by cases e
    refine go_seq (go_set (ev_p1E (ev_call (⟨d, k, e, x⟩ : LgV) (eva_cons (ev_var rfl) (eva_cons (ev_var rfl) (eva_cons (ev_var rfl) eva_nil))) ⟨D', hk, e0, e1, hx⟩)) (go_open (i := 5) rfl fun z hz => ?_))
    have hz : Pq (d.val k x - d.sp k) (16 * e + 40) z := hz
    obtain ⟨s1, s2, s3⟩ := hz.sgn
    refine go_if (et_or (et_test (ev_ilt (ev_var rfl) ev_int)) fun _ => et_and (et_test (ev_op ot_eqI (ev_var rfl) ev_int)) fun _ => et_and (et_test (ob_some er)) fun _ => et_not (et_test (ev_var rfl))) (fun e2 => ?_) fun e2 => go_next fun σ H st => ⟨(), nxt fun t' e' => ?_, st.wk (by repeat first | exact Wk.nil | refine Wk.keep ?_ | refine Wk.drop ?_)⟩
    · refine go_ret (R := Bo (tr (KpS d T x b))) (ev_eq ev_bl ?_) rt
      rw [show tr (KpS d T x b) = false from tr_not.mpr fun q => ?_]
      obtain ⟨q1, q2⟩ := q k hk t eT
      have n1 : ¬ z.1 < 0 := fun y => by
        have := s1.mp y
        grind
      rw [decide_eq_false n1, Bool.false_or] at e2
      simp only [Bool.and_eq_true, Bool.not_eq_true'] at e2
      obtain ⟨a1, a2, a3⟩ := e2
      have := s3.mp (of_decide_eq_true a1)
      have := q2 a2 a3
      grind
    · rw [eT] at e'
      cases e'
      have n1 : ¬ z.1 < 0 := fun y => by
        rw [decide_eq_true y, Bool.true_or] at e2
        cases e2
      refine ⟨?_, fun ht hb => ?_⟩
      · have : ¬ d.val k x - d.sp k < 0 := fun y => n1 (s1.mpr y)
        grind
      · have n2 : ¬ z.1 = 0 := fun y => by
          have e3 : (decide (z.1 < 0) || (decide (z.1 = 0) && (t && !b))) = false := e2
          rw [decide_eq_true y, ht, hb] at e3
          simp at e3
        have h1 : ¬ d.val k x - d.sp k < 0 := fun y => n1 (s1.mpr y)
        have h2 : ¬ d.val k x - d.sp k = 0 := fun y => n2 (s3.mpr y)
        grind
end
end BB
namespace BB
open PySem PySem.Spec PyProof.Rows L2
/-! ### a list of lists of one's own -/
theorem Stt.newM {S : Sta} {σ : L2.St} {H H' : Hp} {p : Addr} {vs : List V} {n : Nat} {f : Nat → Rp} (st : Stt S σ H) (s : Same H H') (hp : H p = none) (e : H' p = some (.lst vs)) (l : vs.length = n) (r : ∀ k x, vs[k]? = some x → (f k).p (hid H' (p :: S.hd)) x) : Stt { S with M := (p, n, f) :: S.M } σ H' := by
  have kp : Same (hid H S.hd) (hid H' (p :: S.hd)) := hid_fresh s hp
  exact ⟨st.same.trans s, st.nold, fun q hq => by
    rcases List.mem_cons.mp hq with z | z
    · subst z
      exact st.same.free hp
    · exact st.mnew q z, fun q hq => by
    rcases List.mem_cons.mp hq with z | z
    · subst z
      exact ⟨vs, e, l, r⟩
    · obtain ⟨ws, e1, e2, e3⟩ := st.mem q z
      exact ⟨ws, s _ _ e1, e2, fun k x z => (q.2.2 k).mono kp (e3 k x z)⟩, st.len, fun j R' z => by
    obtain ⟨v, e1, e2⟩ := st.sl j R' z
    exact ⟨v, e1, R'.mono kp e2⟩, List.nodup_cons.mpr ⟨fun z => st.used p (List.mem_append_left _ z) hp, st.nd⟩⟩
def rws (qs : Nat → Addr) (m : Nat) (F : Nat → Nat → Rp) : Nat → Mt
  | 0 => []
  | k + 1 => (qs k, m, F k) :: rws qs m F k
theorem rws_eq {qs qs' : Nat → Addr} {m : Nat} {F : Nat → Nat → Rp} : ∀ {k}, (∀ j, j < k → qs j = qs' j) → rws qs m F k = rws qs' m F k
  | 0, _ => rfl
  | k + 1, h => by
    show (qs k, m, F k) :: rws qs m F k = (qs' k, m, F k) :: rws qs' m F k
    rw [h k (by omega), rws_eq fun j hj => h j (by omega)]
theorem rws_mem {qs : Nat → Addr} {m : Nat} {F : Nat → Nat → Rp} {i : Nat} : ∀ {k}, i < k → (qs i, m, F i) ∈ rws qs m F k
  | 0, h => absurd h (Nat.not_lt_zero i)
  | k + 1, h => by
    by_cases e : i = k
    · rw [e]; exact List.mem_cons_self ..
    · exact List.mem_cons_of_mem _ (rws_mem (by omega))
theorem rws_mw {qs : Nat → Addr} {m : Nat} {F F' : Nat → Nat → Rp} : ∀ {k}, (∀ i, i < k → ∀ j, j < m → ∀ H v, (F i j).p H v → (F' i j).p H v) → Mw (rws qs m F k) (rws qs m F' k)
  | 0, _ => .nil
  | k + 1, h => .sub (h k (by omega)) (rws_mw fun i hi => h i (by omega))
theorem rws_split {qs : Nat → Addr} {m : Nat} {F : Nat → Nat → Rp} {i : Nat} : ∀ {k}, i < k → ∃ M1 M2, ∀ g : Nat → Rp, rws qs m (fun x => if x = i then g else F x) k = M1 ++ (qs i, m, g) :: M2
  | 0, h => absurd h (Nat.not_lt_zero i)
  | k + 1, h => by
    by_cases e : i = k
    · subst e
      refine ⟨[], rws qs m F i, fun g => ?_⟩
      show (qs i, m, if i = i then g else F i) :: rws qs m (fun x => if x = i then g else F x) i = (qs i, m, g) :: rws qs m F i
      rw [if_pos rfl]
      congr 1
      have : ∀ k, k ≤ i → rws qs m (fun x => if x = i then g else F x) k = rws qs m F k := fun k => by
        induction k with
        | zero => intro _; rfl
        | succ k ih =>
          intro hk
          show (qs k, m, if k = i then g else F k) :: _ = (qs k, m, F k) :: _
          rw [if_neg (by omega), ih (by omega)]
      exact this i (Nat.le_refl _)
    · obtain ⟨M1, M2, hs⟩ := rws_split (qs := qs) (m := m) (F := F) (k := k) (show i < k by omega)
      refine ⟨(qs k, m, F k) :: M1, M2, fun g => ?_⟩
      show (qs k, m, if k = i then g else F k) :: rws qs m (fun x => if x = i then g else F x) k = _
      rw [if_neg (fun z => e z.symm), hs g]
      rfl
section
variable {H0 : Hp} {N : List Addr} {Γ : List (Option Rp)} {M : Mt} {nx : L2.St → Hp → Prop} {rt : VK} {bk ct : L2.St → Hp → Prop}
/-- t = [[..] for i in range(n)] -/
theorem go_rows {ta : TA} {te : TE} {n m i t : Nat} {f : Nat → Rp} (hn : EVA ⟨H0, N, [], Γ⟩ ta [Nt n]) (hl : n ≤ 1000) (he : ∀ M' k, k < n → EVN ⟨H0, N, M', (Γ.set i none).set i (some (Nt k))⟩ te m f)
    (kont : ∀ qs, Go ⟨H0, N, rws qs m (fun _ => f) n, Γ.set t (some (Li n fun j => Pt (qs j)))⟩ nx) : Go ⟨H0, N, [], Γ⟩ (tAsg (tLc (iRng1 ta) (gName i) tYes te [i]) (gName t) ⟨nx, rt, bk, ct⟩) := fun σ H st =>
  hn σ H st _ fun vs H1 s1 ⟨v, r, e, ev, er⟩ => by
    have ev' : v = .int (n : Int) := ev
    have er' : r = [] := er
    subst ev' er' e
    refine ⟨(n : Int), rfl, by omega, by omega, fun D hD => ?_⟩
    have st1 := st.mono s1
    rw [Int.toNat_natCast]
    refine lc_range (fun k H' => ∃ qs, Stt ⟨H0, N, (D, k, fun j => Pt (qs j)) :: rws qs m (fun _ => f) k, Γ⟩ σ H') ⟨fun _ => 0, ?_⟩ (fun k H' hk ⟨qs, sk⟩ => ?_) fun H' ⟨qs, sk⟩ => ?_
    · exact st1.newM (S := ⟨H0, N, [], Γ⟩) (f := fun j => Pt ((fun _ => 0 : Nat → Addr) j)) (n := 0) (same_new hD) hD upd_same rfl fun j x z => by simp at z
    · refine ⟨wipe1 σ i _, ?_⟩
      have sti : Stt ⟨H0, N, (D, k, fun j => Pt (qs j)) :: rws qs m (fun _ => f) k, (Γ.set i none).set i (some (Nt k))⟩ ((wipe σ [i]).set i (some (.int (0 + (k : Int))))) H' := (sk.drop (i := i)).set (i := i) (R := Nt k) (by show V.int (0 + (k : Int)) = V.int k; rw [Int.zero_add])
      refine he _ k hk _ H' sti _ fun p ws H4 s4 hp4 e4 l4 r4 => ?_
      have sn : Stt ⟨H0, N, (p, m, f) :: (D, k, fun j => Pt (qs j)) :: rws qs m (fun _ => f) k, Γ⟩ σ H4 := sk.newM s4 hp4 e4 l4 r4
      obtain ⟨acc, a1, a2, a3⟩ := sn.mem (D, k, fun j => Pt (qs j)) (List.mem_cons_of_mem _ (List.mem_cons_self ..))
      have a2' : acc.length = k := a2
      refine ⟨acc, a1, by rw [a2']; exact small1000 (by omega), fun j => if j = k then p else qs j, ?_⟩
      have w1 := sn.wr (M1 := [(p, m, f)]) (M2 := rws qs m (fun _ => f) k) (p := D) (n := k) (f := fun j => Pt (qs j)) (n' := k + 1) (f' := fun j => Pt (if j = k then p else qs j)) (vs' := acc ++ [V.ref p]) rfl (by rw [List.length_append, a2']; rfl) (fun j x z => ?_)
      · have e : rws (fun j => if j = k then p else qs j) m (fun _ => f) (k + 1) = (p, m, f) :: rws qs m (fun _ => f) k := by
          show ((if k = k then p else qs k), m, f) :: rws _ m _ k = _
          rw [if_pos rfl, rws_eq (qs' := qs) fun j hj => if_neg (by omega)]
        rw [e]
        -- the order of the two new lists does not matter
        have ea : adr ((D, k + 1, fun j => Pt (if j = k then p else qs j)) :: (p, m, f) :: rws qs m (fun _ => f) k) = D :: p :: adr (rws qs m (fun _ => f) k) := rfl
        have eb : adr ([(p, m, f)] ++ (D, k + 1, fun j => Pt (if j = k then p else qs j)) :: rws qs m (fun _ => f) k) = p :: D :: adr (rws qs m (fun _ => f) k) := rfl
        have eh : ∀ (X : Hp), hid X (D :: p :: adr (rws qs m (fun _ => f) k) ++ N) = hid X (p :: D :: adr (rws qs m (fun _ => f) k) ++ N) := fun X => by
          funext b
          unfold hid
          have : (b ∈ D :: p :: adr (rws qs m (fun _ => f) k) ++ N) ↔ (b ∈ p :: D :: adr (rws qs m (fun _ => f) k) ++ N) := by
            simp only [List.cons_append, List.mem_cons]
            constructor
            · rintro (h | h | h)
              · exact .inr (.inl h)
              · exact .inl h
              · exact .inr (.inr h)
            · rintro (h | h | h)
              · exact .inr (.inl h)
              · exact .inl h
              · exact .inr (.inr h)
          by_cases c : b ∈ D :: p :: adr (rws qs m (fun _ => f) k) ++ N
          · rw [if_pos c, if_pos (this.mp c)]
          · rw [if_neg c, if_neg fun y => c (this.mpr y)]
        have perm : ∀ q, q ∈ (D, k + 1, fun j => Pt (if j = k then p else qs j)) :: (p, m, f) :: rws qs m (fun _ => f) k → q ∈ [(p, m, f)] ++ (D, k + 1, fun j => Pt (if j = k then p else qs j)) :: rws qs m (fun _ => f) k := fun q hq => by
          rcases List.mem_cons.mp hq with h | h
          · rw [h]; simp
          · rcases List.mem_cons.mp h with h | h
            · rw [h]; simp
            · simp [h]
        refine ⟨w1.same, w1.nold, fun q hq => w1.mnew q (perm q hq), fun q hq => ?_, w1.len, fun j R z => ?_, ?_⟩
        · obtain ⟨us, b1, b2, b3⟩ := w1.mem q (perm q hq)
          refine ⟨us, b1, b2, fun k' x z => ?_⟩
          show (q.2.2 k').p (hid _ (D :: p :: adr (rws qs m (fun _ => f) k) ++ N)) x
          rw [eh]
          exact b3 k' x z
        · obtain ⟨v, b1, b2⟩ := w1.sl j R z
          refine ⟨v, b1, ?_⟩
          show R.p (hid _ (D :: p :: adr (rws qs m (fun _ => f) k) ++ N)) v
          rw [eh]
          exact b2
        · have nd := w1.nd
          have nd' : (p :: D :: adr (rws qs m (fun _ => f) k)).Nodup := nd
          show (D :: p :: adr (rws qs m (fun _ => f) k)).Nodup
          rw [List.nodup_cons, List.nodup_cons] at nd' ⊢
          simp only [List.mem_cons, not_or] at nd' ⊢
          exact ⟨⟨fun z => nd'.1.1 z.symm, nd'.2.1⟩, nd'.1.2, nd'.2.2⟩
      · by_cases c : j < k
        · rw [List.getElem?_append_left (by omega)] at z
          have h1 : x = V.ref (qs j) := a3 j x z
          show x = V.ref (if j = k then p else qs j)
          rw [if_neg (by omega), h1]
        · rw [List.getElem?_append_right (by omega), a2'] at z
          have ej : j = k := by
            have := (List.getElem?_eq_some_iff.mp z).1
            simp at this
            omega
          subst ej
          have e2 : V.ref p = x := by simpa using z
          show x = V.ref (if j = j then p else qs j)
          rw [if_pos rfl, e2]
    · have sf := (sk.set (i := t) (R := Pt D) (v := .ref D) rfl)
      show nx (σ.set t (some (.ref D))) H'
      by_cases ht : t < Γ.length
      · have sg := sf.freeze (i := t) (p := D) (n := n) (f := fun j => Pt (qs j)) (M2 := rws qs m (fun _ => f) n) rfl (by show (Γ.set t (some (Pt D)))[t]? = _; rw [List.getElem?_set_self ht])
        have e : (Γ.set t (some (Pt D))).set t (some (Li n fun j => Pt (qs j))) = Γ.set t (some (Li n fun j => Pt (qs j))) := List.set_set ..
        have sg' : Stt ⟨H0, N, rws qs m (fun _ => f) n, (Γ.set t (some (Pt D))).set t (some (Li n fun j => Pt (qs j)))⟩ (σ.set t (some (.ref D))) H' := sg
        rw [e] at sg'
        exact kont qs _ _ sg'
      · have e1 : Γ.set t (some (Li n fun j => Pt (qs j))) = Γ := List.set_eq_of_length_le (by omega)
        have e2 : σ.set t (some (.ref D)) = σ := List.set_eq_of_length_le (by have := sk.len; show σ.length ≤ t; rw [this]; show Γ.length ≤ t; omega)
        have k2 := kont qs
        rw [e1] at k2
        rw [e2]
        refine k2 σ H' ?_
        have le : Same (hid H' ((D :: adr (rws qs m (fun _ => f) n)) ++ N)) (hid H' (adr (rws qs m (fun _ => f) n) ++ N)) := hid_le fun a ha => List.mem_cons_of_mem _ ha
        exact ⟨sk.same, sk.nold, fun q hq => sk.mnew q (List.mem_cons_of_mem _ hq), fun q hq => by
          obtain ⟨ws, e1, e2, e3⟩ := sk.mem q (List.mem_cons_of_mem _ hq)
          exact ⟨ws, e1, e2, fun k x z => (q.2.2 k).mono le (e3 k x z)⟩, sk.len, fun j R' z => by
          obtain ⟨v, e1, e2⟩ := sk.sl j R' z
          exact ⟨v, e1, R'.mono le e2⟩, (List.nodup_cons.mp (show (D :: adr (rws qs m (fun _ => f) n)).Nodup from sk.nd)).2⟩
end
end BB
namespace BB
open PySem PySem.Spec PyProof.Rows L2
section
variable {S : Sta} {K : PySem.W.Frag} {ta tb ti te : TE} {nx : L2.St → Hp → Prop} {rt : VK} {bk ct : L2.St → Hp → Prop}
theorem ev_ixMe {k n : Nat} {iz : Int} {p : Addr} {f : Nat → Rp} (ha : EV S ta (Pt p)) (hM : (p, n, f) ∈ S.M) (hk : EV S ti (It iz)) (ek : iz = (k : Int)) (hkn : k < n) : EV S (tOp (rIxL K) ta ti) (f k) := fun σ H st Q q =>
  ha σ H st _ fun v H0 s0 r0 => hk σ H0 (st.mono s0) _ fun w H1 s r => by
    have ev : v = .ref p := r0
    have ew : w = .int iz := r
    subst ev ew
    obtain ⟨vs, a1, a2, a3⟩ := ((st.mono s0).mono s).mem (p, n, f) hM
    have a2' : vs.length = n := a2
    have e : vs[k]? = some (vs[k]'(by omega)) := List.getElem?_eq_getElem (by omega)
    exact ⟨p, vs, iz, _, rfl, rfl, .inl (.inl a1), by rw [ek]; exact atI_nat e, q _ H1 (s0.trans s) (a3 k _ e)⟩
theorem go_putE {R : Rp} {M1 M2 : Mt} {p : Addr} {n j : Nat} {jz : Int} {f : Nat → Rp} {tt : TE} (ht : EV S tt (Pt p)) (hM : S.M = M1 ++ (p, n, f) :: M2) (h : EV S te R) (hj : EV S ti (It jz)) (ej : jz = (j : Int)) (hjn : j < n) (k : Go { S with M := M1 ++ (p, n, putAt j f R) :: M2 } nx) :
    Go S (tAsg te (gSub tt ti rSetL) ⟨nx, rt, bk, ct⟩) := fun σ H st => by
  refine h σ H st _ fun y H1 s r => ?_
  have st1 := st.mono s
  refine ht σ H1 st1 _ fun v H1' s1' e2 => ?_
  have e2' : v = .ref p := e2
  subst e2'
  have st1' := st1.mono s1'
  refine hj σ H1' st1' _ fun w H2 s2 rw' => ?_
  have st2 := st1'.mono s2
  have ew : w = .int jz := rw'
  subst ew
  obtain ⟨vs, a1, a2, a3⟩ := st2.mem (p, n, f) (by rw [hM]; simp)
  have a2' : vs.length = n := a2
  refine ⟨p, vs, jz, j, rfl, rfl, a1, ?_, k _ _ ?_⟩
  · unfold ixN
    rw [ej, if_pos (by omega), if_pos (by omega), Int.toNat_natCast]
  · refine st2.wr hM (by rw [List.length_set, a2']) fun m x z => ?_
    show (if m = j then R else f m).p _ x
    by_cases e : m = j
    · subst e
      rw [List.getElem?_set_self (by omega)] at z
      rw [if_pos rfl, ← Option.some.inj z]
      exact R.mono (hid_same (s1'.trans s2)) r
    · rw [List.getElem?_set_ne (fun z => e z.symm)] at z
      rw [if_neg e]
      exact a3 m x z
theorem go_putR {H0 : Hp} {N : List Addr} {Γ : List (Option Rp)} {qs : Nat → Addr} {n m i j : Nat} {jz : Int} {F : Nat → Nat → Rp} {R : Rp} {tt : TE} (hi : i < n) (ht : EV ⟨H0, N, rws qs m F n, Γ⟩ tt (Pt (qs i))) (h : EV ⟨H0, N, rws qs m F n, Γ⟩ te R) (hj : EV ⟨H0, N, rws qs m F n, Γ⟩ ti (It jz)) (ej : jz = (j : Int)) (hjn : j < m)
    (k : Go ⟨H0, N, rws qs m (fun x => if x = i then putAt j (F i) R else F x) n, Γ⟩ nx) : Go ⟨H0, N, rws qs m F n, Γ⟩ (tAsg te (gSub tt ti rSetL) ⟨nx, rt, bk, ct⟩) := by
  obtain ⟨M1, M2, hs⟩ := rws_split (qs := qs) (m := m) (F := F) (k := n) hi
  have e1 : rws qs m F n = M1 ++ (qs i, m, F i) :: M2 := by
    rw [← hs (F i)]
    congr 1
    funext x
    by_cases c : x = i
    · rw [if_pos c, c]
    · rw [if_neg c]
  rw [hs] at k
  exact go_putE (M1 := M1) (M2 := M2) (f := F i) ht e1 h hj ej hjn k
/-- the whole handed back -/
theorem go_retR {H0 : Hp} {N : List Addr} {Γ : List (Option Rp)} {qs : Nat → Addr} {n m t : Nat} {F : Nat → Nat → Rp} (r : RT rt H0 N (Li n fun i => Li m (F i))) (hv : Γ[t]? = some (some (Li n fun j => Pt (qs j)))) : Go ⟨H0, N, rws qs m F n, Γ⟩ (tRet (tVar t) ⟨nx, rt, bk, ct⟩) := fun σ H st => by
  obtain ⟨v, e, a, vs, ev, h1, h2, h3⟩ := st.sl t _ hv
  subst ev
  have le : Same (hid H (adr (rws qs m F n) ++ N)) (hid H N) := hid_le fun b hb => List.mem_append_right _ hb
  refine ⟨.ref a, e, r _ H st.same ⟨a, vs, rfl, le _ _ h1, h2, fun i x z => ?_⟩⟩
  have hi : i < n := by rw [← h2]; exact (List.getElem?_eq_some_iff.mp z).1
  have ex : x = V.ref (qs i) := h3 i x z
  obtain ⟨ws, b1, b2, b3⟩ := st.mem (qs i, m, F i) (rws_mem hi)
  have h0 : H0 (qs i) = none := st.mnew (qs i, m, F i) (rws_mem hi)
  exact ⟨qs i, ws, ex, hid_out (fun y => st.nold _ y h0) b1, b2, fun k y z2 => (F i k).mono le (b3 k y z2)⟩
end
section
variable {P : Program} {w : World} {K : PySem.W.Frag} {mg : Str → Option Value} {base : Heap}
abbrev s_law_closure : Stmt := (topS 81)
theorem sc_law_closure : FnScope ["_law_steps_here", "_law_count", "_law_i", "_law_j", "_law_table", "_law_turn", "_law_k"] ["_law_steps_here"] (defScope s_law_closure) := ⟨rfl, rfl, rfl, by decide +kernel, rfl, by decide +kernel, by decide +kernel⟩

def sp_law_closure : Sp := spR (fun z : Nat × (Nat → Nat → Option Bool) => [TabR z.1 z.2]) (fun z => z.1 ≤ 4) (fun z => TabR z.1 (led z.1 z.2))
theorem ok_law_closure (G : Gb K mg) (F : Def0 K mg "_law_closure" s_law_closure ["_law_steps_here"]) : DefOk P w K mg base "_law_closure" 1 ["_law_steps_here"] sp_law_closure := by
  refine okD F sc_law_closure (fun _ => rfl) (by decide) fun f cdv A outer s H E hr ⟨n, st⟩ h => ⟨_, (pss_cons (ps_set (i := 1) sc_law_closure.nd rfl (.inr rfl) (pe_callB (r := rLenQ K) call_len_seq (by rfl) G.len PySem.boot_len (pa_cons (pv 0) pa_nil)))
        (pss_cons (ps_setLc (i := 4) (own := [("_law_i", 2)]) (g := (gName 2)) (tt := tYes) rfl sc_law_closure.nd rfl rfl (sw_true rfl rfl rfl (by decide +kernel)) (pi_range1 (by rfl) G.range (pa_cons (pv 1) pa_nil)) (blkOk_by (N := ["_law_steps_here", "_law_count", "_law_i", "_law_j", "_law_table", "_law_turn", "_law_k"]) (own := [("_law_i", 2)]) (sc := (defScope s_law_closure)) (by decide +kernel)) (fun _ _ _ _ _ => (pg_name (i := 2) sc_law_closure.nd rfl (.inl rfl))) (fun _ _ _ _ _ => pts_nil) (fun _ _ _ _ _ => (pe_lc (own := [("_law_j", 3)]) (g := (gName 3)) (tt := tYes) rfl sc_law_closure.nd (pi_range1 (by rfl) G.range (pa_cons (pv 1) pa_nil)) (blkOk_by (N := ["_law_steps_here", "_law_count", "_law_i", "_law_j", "_law_table", "_law_turn", "_law_k"]) (own := [("_law_j", 3)]) (sc := _) (by rfl)) (fun _ _ _ _ _ => (pg_name (i := 3) sc_law_closure.nd rfl (.inl rfl))) (fun _ _ _ _ _ => pts_nil) (fun _ _ _ _ _ => pe_non))))
        (pss_cons (ps_for PassesOwn.never rfl (pi_range1 (by rfl) G.range (pa_cons (pv 1) pa_nil)) (pg_name (i := 2) sc_law_closure.nd rfl (.inl rfl)) (pss_cons (ps_asg pe_bl (pg_sub (pe_ix (r := rIxL K) ix_list (pv 4) (pv 2) (fun _ _ => rfl)) (pv 2) set_list))
        (pss_one (ps_for PassesOwn.never rfl (pi_range1 (by rfl) G.range (pa_cons (pe_op op_mulW pe_int (pv 1)) pa_nil)) (pg_name (i := 5) sc_law_closure.nd rfl (.inl rfl)) (pss_one (ps_for PassesOwn.never rfl (pi_range1 (by rfl) G.range (pa_cons (pv 1) pa_nil)) (pg_name (i := 3) sc_law_closure.nd rfl (.inl rfl)) (pss_one (ps_for PassesOwn.never rfl (pi_range1 (by rfl) G.range (pa_cons (pv 1) pa_nil)) (pg_name (i := 6) sc_law_closure.nd rfl (.inl rfl)) (pss_one (ps_if (PW.pt (pw_and (pt_cmpR op_notN (pe_ix (r := rIxL K) ix_list (pe_ix (r := rIxL K) ix_list (pv 4) (pv 2) (fun _ _ => rfl)) (pv 3) (fun _ _ => rfl)) pe_non (nomark _)) (pw_and (pt_cmpR op_notN (pe_ix (r := rIxL K) ix_list (pe_ix (r := rIxL K) ix_list (pv 0) (pv 3) (fun _ _ => rfl)) (pv 6) (fun _ _ => rfl)) pe_non (nomark _)) (pw_and1 (pt_cmpR (op_notO) (pe_ix (r := rIxL K) ix_list (pe_ix (r := rIxL K) ix_list (pv 4) (pv 2) (fun _ _ => rfl)) (pv 6) (fun _ _ => rfl)) pe_bl (nomark _)))))) (pss_one (ps_asg (pe_or (pe_ix (r := rIxL K) ix_list (pe_ix (r := rIxL K) ix_list (pv 4) (pv 2) (fun _ _ => rfl)) (pv 3) (fun _ _ => rfl)) (pe_or (pe_ix (r := rIxL K) ix_list (pe_ix (r := rIxL K) ix_list (pv 0) (pv 3) (fun _ _ => rfl)) (pv 6) (fun _ _ => rfl)) (pe_one (pe_cmpR (op_isO) (pe_ix (r := rIxL K) ix_list (pe_ix (r := rIxL K) ix_list (pv 4) (pv 2) (fun _ _ => rfl)) (pv 6) (fun _ _ => rfl)) pe_bl (nomark _))))) (pg_sub (pe_ix (r := rIxL K) ix_list (pv 4) (pv 2) (fun _ _ => rfl)) (pv 6) set_list))) pss_nil))))))))))
        (pss_one (ps_ret (pv 4)))))), fun H0 N D rt => ?_⟩
  have hn : n ≤ 4 := h
  have rt : RT D.rt H0 N (TabR n (led n st)) := rt
  refine go_seq (go_set (R := Nt n) (ev_cb ct_len (eva_cons (ev_var rfl) eva_nil)) (go_seq ?_))
  refine go_rows (n := n) (m := n) (f := fun _ => Ob none) (eva_cons (ev_var rfl) eva_nil) (by omega) (fun M' k hk => evn_lcR (n := n) (R := fun _ => Ob none) (eva_cons (ev_var rfl) eva_nil) (by omega) fun Dq j _ => ev_non) fun qs => go_seq ?_
  let cs : Nat → (Nat → Option Bool) → Mt := fun i c => rws qs n (fun x j => Ob (if x = i then c j else if x < i then led n st x j else none)) n
  refine go_forR (n := n) (α := Unit) (fun i _ => ⟨H0, N, rws qs n (fun x j => Ob (if x < i then led n st x j else none)) n, [some (TabR n st), some (Nt n), none, none, some (Li n fun j => Pt (qs j)), none, none]⟩) (fun _ _ => True) (eva_cons (ev_var rfl) eva_nil) (by omega) ⟨(), trivial, fun σ H st' => st'⟩ (fun i _ hi _ => ?_) fun _ _ => ?_
  · have erow : ∀ {M : Mt} {a b c d : Option Rp}, EV ⟨H0, N, M, [some (TabR n st), some (Nt n), some (Nt i), a, some (Li n fun j => Pt (qs j)), b, c]⟩ (tOp (rIxL K) (tVar 4) (tVar 2)) (Pt (qs i)) := fun {M a b c d} => ev_op (ot_ixL (R := fun j => Pt (qs j)) rfl hi) (ev_var rfl) (ev_var rfl)
    refine go_seq (go_putR (i := i) (j := i) (R := Bo false) hi (erow (d := none)) ev_bl (ev_var rfl) rfl hi ?_)
    have e0 : rws qs n (fun x => if x = i then putAt i (fun j => Ob (if i < i then led n st i j else none)) (Bo false) else fun j => Ob (if x < i then led n st x j else none)) n = cs i (swt st n (fun x => if x = i then some false else none) 0) := by
      show _ = rws qs n _ n
      congr 1
      funext x j
      by_cases c : x = i
      · rw [if_pos c, if_pos c]
        unfold putAt
        show (if j = i then Bo false else Ob (if i < i then _ else none)) = Ob (if j = i then some false else none)
        by_cases c2 : j = i
        · rw [if_pos c2, if_pos c2]; rfl
        · rw [if_neg c2, if_neg c2, if_neg (Nat.lt_irrefl _)]
      · rw [if_neg c, if_neg c]
    have e0' : (⟨H0, N, rws qs n (fun x => if x = i then putAt i (fun j => Ob (if i < i then led n st i j else none)) (Bo false) else fun j => Ob (if x < i then led n st x j else none)) n, [some (TabR n st), some (Nt n), some (Nt i), none, some (Li n fun j => Pt (qs j)), none, none]⟩ : Sta) = ⟨H0, N, cs i (swt st n (fun x => if x = i then some false else none) 0), [some (TabR n st), some (Nt n), some (Nt i), none, some (Li n fun j => Pt (qs j)), none, none]⟩ := by rw [e0]
    show Go ⟨H0, N, rws qs n (fun x => if x = i then putAt i (fun j => Ob (if i < i then led n st i j else none)) (Bo false) else fun j => Ob (if x < i then led n st x j else none)) n, [some (TabR n st), some (Nt n), some (Nt i), none, some (Li n fun j => Pt (qs j)), none, none]⟩ _
    rw [e0']
    refine go_forR (n := 2 * n) (α := Unit) (fun t _ => ⟨H0, N, cs i (swt st n (fun x => if x = i then some false else none) t), [some (TabR n st), some (Nt n), some (Nt i), none, some (Li n fun j => Pt (qs j)), none, none]⟩) (fun _ _ => True) (eva_cons (ev_eq (ev_imul ev_int (ev_var rfl) (mulW (up2 (k := 2) (by decide)) (up2 (k := 3) (by rw [Int.natAbs_natCast]; omega)))) (by show It (2 * (n : Int)) = It ((2 * n : Nat) : Int); congr 1)) eva_nil) (by omega) ⟨(), trivial, fun σ H st' => st'.wk (by repeat first | exact Wk.nil | refine Wk.keep ?_ | refine Wk.drop ?_)⟩ (fun t _ ht _ => ?_) fun _ _ σ H st' => ⟨(), trivial, ?_⟩
    · refine go_forR (n := n) (α := Unit) (fun j _ => ⟨H0, N, cs i (swj st n (swt st n (fun x => if x = i then some false else none) t) j), [some (TabR n st), some (Nt n), some (Nt i), none, some (Li n fun j => Pt (qs j)), none, none]⟩) (fun _ _ => True) (eva_cons (ev_var rfl) eva_nil) (by omega) ⟨(), trivial, fun σ H st' => st'.wk (by repeat first | exact Wk.nil | refine Wk.keep ?_ | refine Wk.drop ?_)⟩ (fun j _ hj _ => ?_) fun _ _ σ H st' => ⟨(), trivial, st'.wk (by repeat first | exact Wk.nil | refine Wk.keep ?_ | refine Wk.drop ?_)⟩
      refine go_forR (n := n) (α := Unit) (fun k _ => ⟨H0, N, cs i (swk st j (swj st n (swt st n (fun x => if x = i then some false else none) t) j) k), [some (TabR n st), some (Nt n), some (Nt i), some (Nt j), some (Li n fun j => Pt (qs j)), none, none]⟩) (fun _ _ => True) (eva_cons (ev_var rfl) eva_nil) (by omega) ⟨(), trivial, fun σ H st' => st'.wk (by repeat first | exact Wk.nil | refine Wk.keep ?_ | refine Wk.drop ?_)⟩ (fun k _ hk _ => ?_) fun _ _ σ H st' => ⟨(), trivial, st'.wk (by repeat first | exact Wk.nil | refine Wk.keep ?_ | refine Wk.drop ?_)⟩
      show Go ⟨H0, N, cs i (swk st j (swj st n (swt st n (fun x => if x = i then some false else none) t) j) k), [some (TabR n st), some (Nt n), some (Nt i), some (Nt j), some (Li n fun j => Pt (qs j)), none, some (Nt k)]⟩ (tIfS _ _ _ ⟨fun σ H => ∃ z : Unit, True ∧ Stt ⟨H0, N, cs i (rlx st j k (swk st j (swj st n (swt st n (fun x => if x = i then some false else none) t) j) k)), [some (TabR n st), some (Nt n), some (Nt i), some (Nt j), some (Li n fun j => Pt (qs j)), none, none]⟩ σ H, _, _, _⟩)
      generalize swk st j (swj st n (swt st n (fun x => if x = i then some false else none) t) j) k = c
      have mem : (qs i, n, fun j => Ob (c j)) ∈ cs i c := by
        have := rws_mem (qs := qs) (m := n) (F := fun x j => Ob (if x = i then c j else if x < i then led n st x j else none)) (k := n) hi
        have e : (fun j => Ob (if i = i then c j else if i < i then led n st i j else none)) = fun j => Ob (c j) := by
          funext j; rw [if_pos rfl]
        rw [← e]
        exact this
      have eij : EV ⟨H0, N, cs i c, [some (TabR n st), some (Nt n), some (Nt i), some (Nt j), some (Li n fun j => Pt (qs j)), none, some (Nt k)]⟩ (tOp (rIxL K) (tOp (rIxL K) (tVar 4) (tVar 2)) (tVar 3)) (Ob (c j)) := ev_ixMe (f := fun j => Ob (c j)) (erow (d := none)) mem (ev_var rfl) rfl hj
      have eik : EV ⟨H0, N, cs i c, [some (TabR n st), some (Nt n), some (Nt i), some (Nt j), some (Li n fun j => Pt (qs j)), none, some (Nt k)]⟩ (tOp (rIxL K) (tOp (rIxL K) (tVar 4) (tVar 2)) (tVar 6)) (Ob (c k)) := ev_ixMe (f := fun j => Ob (c j)) (erow (d := none)) mem (ev_var rfl) rfl hk
      have ejk : EV ⟨H0, N, cs i c, [some (TabR n st), some (Nt n), some (Nt i), some (Nt j), some (Li n fun j => Pt (qs j)), none, some (Nt k)]⟩ (tOp (rIxL K) (tOp (rIxL K) (tVar 0) (tVar 3)) (tVar 6)) (Ob (st j k)) := ev_op (ot_ixL (R := fun k => Ob (st j k)) rfl hk) (ev_op (ot_ixL (R := fun j => Li n fun k => Ob (st j k)) rfl hj) (ev_var rfl) (ev_var rfl)) (ev_var rfl)
      refine go_if (et_and (et_test (ev_op (ot_notN ob_none) eij ev_non)) fun _ => et_and (et_test (ev_op (ot_notN ob_none) ejk ev_non)) fun _ => et_test (ev_op ot_notO eik ev_bl)) (fun e => ?_) fun e => go_next fun σ H st' => ⟨(), trivial, ?_⟩
      · simp only [Bool.and_eq_true] at e
        obtain ⟨e1, e2, e3⟩ := e
        have c1 : c j ≠ none := isn_iff.mp e1
        have c2 : st j k ≠ none := isn_iff.mp e2
        have c3 : ¬ c k = some true := fun y => by
          rw [decide_eq_true y] at e3
          cases e3
        obtain ⟨a, ea⟩ : ∃ a, c j = some a := Option.ne_none_iff_exists'.mp c1
        obtain ⟨o, eo⟩ : ∃ o, st j k = some o := Option.ne_none_iff_exists'.mp c2
        rw [ea] at eij
        rw [eo] at ejk
        refine go_putR (i := i) (j := k) (R := Bo (a || (o || decide (c k = some true)))) hi (erow (d := none)) (ev_orV (ob_some eij) fun _ => ev_orV (ob_some ejk) fun _ => ev_op ot_isO eik ev_bl) (ev_var rfl) rfl hk fun σ H st' => ⟨(), trivial, ?_⟩
        have eM : rws qs n (fun x => if x = i then putAt k (fun j => Ob (if i = i then c j else if i < i then led n st i j else none)) (Bo (a || (o || decide (c k = some true)))) else fun j => Ob (if x = i then c j else if x < i then led n st x j else none)) n = cs i (rlx st j k c) := by
          show _ = rws qs n _ n
          congr 1
          funext x y
          by_cases cx : x = i
          · rw [if_pos cx, if_pos cx]
            unfold putAt rlx
            show (if y = k then Bo (a || (o || decide (c k = some true))) else Ob (if i = i then c y else _)) = _
            by_cases cy : y = k
            · rw [if_pos cy, if_pos ⟨cy, c1, c2, c3⟩, ea, eo, decide_eq_false c3]
              show Bo (a || (o || false)) = Bo _
              congr 1
              cases a <;> cases o <;> rfl
            · rw [if_neg cy, if_pos rfl, if_neg (c := y = k ∧ _) fun z => cy z.1]
          · rw [if_neg cx, if_neg cx, if_neg cx]
        rw [← eM]
        exact st'.wk (by repeat first | exact Wk.nil | refine Wk.keep ?_ | refine Wk.drop ?_)
      · have er : rlx st j k c = c := by
          funext y
          unfold rlx
          rw [if_neg]
          rintro ⟨_, h1, h2, h3⟩
          have a1 := isn_iff.mpr h1
          have a2 := isn_iff.mpr h2
          have e' : (!(c j).isNone && (!(st j k).isNone && !decide (c k = some true))) = false := e
          rw [a1, a2, decide_eq_false h3] at e'
          cases e'
        rw [er]
        exact st'.wk (by repeat first | exact Wk.nil | refine Wk.keep ?_ | refine Wk.drop ?_)
    · have eM : cs i (swt st n (fun x => if x = i then some false else none) (2 * n)) = rws qs n (fun x j => Ob (if x < i + 1 then led n st x j else none)) n := by
        show rws qs n _ n = _
        congr 1
        funext x j
        by_cases c : x = i
        · rw [if_pos c, if_pos (by omega), c, swt_led hi]
        · rw [if_neg c]
          by_cases c2 : x < i
          · rw [if_pos c2, if_pos (by omega)]
          · rw [if_neg c2, if_neg (by omega)]
      rw [← eM]
      exact st'.wk (by repeat first | exact Wk.nil | refine Wk.keep ?_ | refine Wk.drop ?_)
  · refine go_retR (t := 4) (fun v H s r => rt v H s (li_sub (n := n) (fun i hi H v r => ?_) (hid H N) v r)) rfl
    refine li_eq (fun j _ => ?_) H v r
    show Ob (if i < n then led n st i j else none) = Ob (led n st i j)
    rw [if_pos hi]
end
end BB
namespace BB
open PySem PySem.Spec PyProof.Rows L2
/-! ### an own list of data opened -/
theorem go_openM {S : Sta} {α : Type} [Inhabited α] {M2 : Mt} {p : Addr} {n : Nat} {A : α → Prop} {f : α → Rp} {Q : L2.St → Hp → Prop} (hM : S.M = (p, n, fun _ => Exr A f) :: M2) (k : ∀ a : Nat → α, (∀ k, k < n → A (a k)) → Go { S with M := (p, n, fun k => f (a k)) :: M2 } Q) : Go S Q := fun σ H st => by
  obtain ⟨vs, a1, a2, a3⟩ := st.mem (p, n, fun _ => Exr A f) (by rw [hM]; simp)
  have a2' : vs.length = n := a2
  have ex : ∀ k, k < n → ∃ z, A z ∧ ∀ x, vs[k]? = some x → (f z).p (hid H S.hd) x := fun k hk => by
    have e1 : vs[k]? = some (vs[k]'(by omega)) := List.getElem?_eq_getElem (by omega)
    obtain ⟨z, hz, r⟩ := a3 k _ e1
    exact ⟨z, hz, fun x e2 => by rw [e1] at e2; rw [← Option.some.inj e2]; exact r⟩
  let a : Nat → α := fun k => if h : k < n then Classical.choose (ex k h) else default
  have ha : ∀ k (h : k < n), A (a k) ∧ ∀ x, vs[k]? = some x → (f (a k)).p (hid H S.hd) x := fun k h => by
    show A (if h : k < n then Classical.choose (ex k h) else default) ∧ _
    have e : a k = Classical.choose (ex k h) := dif_pos h
    constructor
    · rw [dif_pos h]; exact (Classical.choose_spec (ex k h)).1
    · intro x z
      rw [e]
      exact (Classical.choose_spec (ex k h)).2 x z
  refine k a (fun k hk => (ha k hk).1) σ H ?_
  have eh : adr ((p, n, fun k => f (a k)) :: M2) = adr S.M := by rw [hM]; rfl
  have ehd : ({ S with M := (p, n, fun k => f (a k)) :: M2 } : Sta).hd = S.hd := by
    show adr ((p, n, fun k => f (a k)) :: M2) ++ S.N = adr S.M ++ S.N
    rw [eh]
  refine ⟨st.same, st.nold, fun q hq => ?_, fun q hq => ?_, st.len, fun i R z => ?_, ?_⟩
  · rcases List.mem_cons.mp hq with e | e
    · rw [e]; exact st.mnew (p, n, fun _ => Exr A f) (by rw [hM]; simp)
    · exact st.mnew q (by rw [hM]; exact List.mem_cons_of_mem _ e)
  · rw [ehd]
    rcases List.mem_cons.mp hq with e | e
    · subst e
      exact ⟨vs, a1, a2', fun k x z => (ha k (by rw [← a2']; exact (List.getElem?_eq_some_iff.mp z).1)).2 x z⟩
    · exact st.mem q (by rw [hM]; exact List.mem_cons_of_mem _ e)
  · rw [ehd]; exact st.sl i R z
  · show (adr ((p, n, fun k => f (a k)) :: M2)).Nodup
    rw [eh]; exact st.nd
/-! ### small numbers -/
theorem cm40 {i j : Int} (h1 : i.natAbs < 2 ^ 60) (h2 : j.natAbs < 2 ^ 60) : CMulW i j := wide_mul h1 h2 (by decide) (by decide) (by decide)
theorem low_bd {p q : Int} {a b : Nat} (hq : 0 < q) (ha : p.natAbs < 2 ^ a) (hb : q.natAbs < 2 ^ b) : Bd a b (Rat.divInt p q) ∧ (0 < p → 0 < Rat.divInt p q) ∧ (0 ≤ p → 0 ≤ Rat.divInt p q) ∧ (p : Rat) = Rat.divInt p q * (q : Rat) := by
  have hp := rpos hq
  have ne : (q : Rat) ≠ 0 := Rat.ne_of_gt hp
  have e : (p : Rat) = Rat.divInt p q * (q : Rat) := by
    rw [Rat.divInt_eq_div, Rat.div_mul_cancel ne]
  obtain ⟨s1, s2, s3⟩ := sgn_mul hp e
  refine ⟨Bd.of_int (V := q) (W := p) (by omega) (by rw [e]; grind) ha hb, fun h => ?_, fun h => Rat.divInt_nonneg_iff_of_pos_right hq |>.mpr h, e⟩
  have : ¬ Rat.divInt p q ≤ 0 := fun y => by
    have := s2.mpr y
    omega
  exact Rat.not_le.mp this
section
variable {K : PySem.W.Frag} {S : Sta} {tl tx ta te : TE}
abbrev PF (K : PySem.W.Frag) (a b : Nat) : Rp := Exr (fun x => Bd a b x ∧ 0 < x) (Fr K)
abbrev AF (K : PySem.W.Frag) (a b : Nat) : Rp := Exr (fun x => Bd a b x ∧ 0 ≤ x) (Fr K)
instance : Inhabited Rat := ⟨0⟩
theorem pf_up {a b c d : Nat} (h1 : a ≤ c) (h2 : b ≤ d) (H : Hp) (v : V) (r : (PF K a b).p H v) : (PF K c d).p H v := by
  obtain ⟨x, ⟨h, p⟩, r⟩ := r
  exact ⟨x, ⟨h.mono h1 h2, p⟩, r⟩
theorem af_up {a b c d : Nat} (h1 : a ≤ c) (h2 : b ≤ d) (H : Hp) (v : V) (r : (AF K a b).p H v) : (AF K c d).p H v := by
  obtain ⟨x, ⟨h, p⟩, r⟩ := r
  exact ⟨x, ⟨h.mono h1 h2, p⟩, r⟩
theorem fr_int {n : Int} : (Tp K [It n, It 1] : Rp) = Fr K (n : Rat) := by
  unfold Fr
  rw [Rat.num_intCast, Rat.den_intCast]
  rfl
theorem ev_d {f : Nat → Nat} {n k : Nat} {i : Int} (hl : EV S tl (Il n f)) (hx : EV S tx (It i)) (ei : i = (k : Int)) (hk : k < n) : EV S (tCB rInt1 (tCons (tOp (rIxL K) tl tx) tNil)) (Nt (f k)) := ev_toint (ev_op (ot_ixL (R := fun k => Nt (f k)) ei hk) hl hx)
theorem ev_dm {f : Nat → Nat} {n k : Nat} {i m : Int} (hl : EV S tl (Il n f)) (hx : EV S tx (It i)) (ei : i = (k : Int)) (hk : k < n) (hm : 0 < m) : EV S (tOp (rI (fun _ j => 0 < j) fun i j => .int (i % j)) (tCB rInt1 (tCons (tOp (rIxL K) tl tx) tNil)) (tC (.int m))) (It ((f k : Int) % m)) := ev_mod (ev_d hl hx ei hk) ev_int hm
theorem ev_1p {i : Int} (h : EV S te (It i)) : EV S (tOp (rI0 fun i j => .int (i + j)) (tC (.int 1)) te) (It (1 + i)) := ev_iadd ev_int h
theorem mod_lt {i m : Int} {a : Nat} (hm : 0 < m) (h : m ≤ 2 ^ a) : (i % m).natAbs < 2 ^ a ∧ 0 ≤ i % m := by
  have h1 := Int.emod_nonneg i (show m ≠ 0 by omega)
  have h2 := Int.emod_lt_of_pos i hm
  refine ⟨?_, h1⟩
  have : ((i % m).natAbs : Int) < ((2 ^ a : Nat) : Int) := by
    rw [Int.natAbs_of_nonneg h1, Int.natCast_pow]
    exact Int.lt_of_lt_of_le h2 h
  omega
theorem mod1_lt {i m : Int} {a : Nat} (hm : 0 < m) (h : m < 2 ^ a) : (1 + i % m).natAbs < 2 ^ a ∧ 0 < 1 + i % m := by
  have h1 := Int.emod_nonneg i (show m ≠ 0 by omega)
  have h2 := Int.emod_lt_of_pos i hm
  refine ⟨?_, by omega⟩
  have : ((1 + i % m).natAbs : Int) < ((2 ^ a : Nat) : Int) := by
    rw [Int.natAbs_of_nonneg (by omega), Int.natCast_pow]
    exact Int.lt_of_le_of_lt (show 1 + i % m ≤ m by omega) h
  omega
theorem ev_low {E : XK} {tp tq : TE} {p q : Int} {a b : Nat} (hp : EV S tp (It p)) (hq : EV S tq (It q)) (h0 : 0 < q) (ha : p.natAbs < 2 ^ a) (hb : q.natAbs < 2 ^ b) (h9 : b ≤ 9000) (p0 : 0 < p) : EV S (tCall (sp_law_lowest K) [] E (tCons tp (tCons tq tNil))) (PF K a b) :=
  ev_sub (ev_call (p, q) (eva_cons hp (eva_cons hq eva_nil)) ⟨h0, nabs_up hb h9⟩) fun H v r => ⟨_, ⟨(low_bd h0 ha hb).1, (low_bd h0 ha hb).2.1 p0⟩, r⟩
theorem ev_low0 {E : XK} {tp tq : TE} {p q : Int} {a b : Nat} (hp : EV S tp (It p)) (hq : EV S tq (It q)) (h0 : 0 < q) (ha : p.natAbs < 2 ^ a) (hb : q.natAbs < 2 ^ b) (h9 : b ≤ 9000) (p0 : 0 ≤ p) : EV S (tCall (sp_law_lowest K) [] E (tCons tp (tCons tq tNil))) (AF K a b) :=
  ev_sub (ev_call (p, q) (eva_cons hp (eva_cons hq eva_nil)) ⟨h0, nabs_up hb h9⟩) fun H v r => ⟨_, ⟨(low_bd h0 ha hb).1, (low_bd h0 ha hb).2.2.1 p0⟩, r⟩
theorem ev_pair {n : Int} {a : Nat} (h : EV S te (It n)) (ha : n.natAbs < 2 ^ a) (p0 : 0 < n) : EV S (tTup (tCons te (tCons (tC (.int 1)) tNil))) (PF K a 1) := ev_sub (ev_eq (ev_tup (K := K) (eva_cons h (eva_cons ev_int eva_nil))) fr_int) fun H v r => ⟨_, ⟨Bd.int ha (by decide), rpos p0⟩, r⟩
theorem ev_pair0 {n : Int} {a : Nat} (h : EV S te (It n)) (ha : n.natAbs < 2 ^ a) (p0 : 0 ≤ n) : EV S (tTup (tCons te (tCons (tC (.int 1)) tNil))) (AF K a 1) := ev_sub (ev_eq (ev_tup (K := K) (eva_cons h (eva_cons ev_int eva_nil))) fr_int) fun H v r => ⟨_, ⟨Bd.int ha (by decide), by
  have : ((0 : Int) : Rat) ≤ (n : Rat) := Rat.intCast_le_intCast.mpr p0
  exact this⟩, r⟩
theorem ct_max {n : Nat} {f : Nat → Int} (hn : 0 < n) : CT (rMax K) [Li n fun k => It (f k)] (Exr (fun m : Int => (∃ k, k < n ∧ m = f k) ∧ ∀ k, k < n → f k ≤ m) It) := fun H N xs Q _ ⟨v, r, e, ⟨a, vs, e1, hs, hl, hf⟩, e2⟩ q => by
  subst e1 e2 e
  have ev : vs = ((List.range n).map f).map V.int := by
    refine List.ext_getElem? fun k => ?_
    by_cases hk : k < n
    · have e1 : vs[k]? = some (vs[k]'(by omega)) := List.getElem?_eq_getElem (by omega)
      have e2 : vs[k]'(by omega) = V.int (f k) := hf k _ e1
      rw [e1, e2, List.getElem?_map, List.getElem?_map, List.getElem?_range hk]
      rfl
    · rw [List.getElem?_eq_none (by omega), List.getElem?_eq_none (by simp; omega)]
  refine ⟨a, (List.range n).map f, rfl, .inl (.inl (by rw [← ev]; exact hid_sub _ _ hs)), by simp; omega, fun m hm hy => q _ H (Same.refl H) ⟨m, ⟨?_, fun k hk => hy _ (List.mem_map.mpr ⟨k, List.mem_range.mpr hk, rfl⟩)⟩, rfl⟩⟩
  obtain ⟨k, hk, e⟩ := List.mem_map.mp hm
  exact ⟨k, List.mem_range.mp hk, e.symm⟩
end
end BB
namespace BB
open PySem PySem.Spec PyProof.Rows L2
theorem go_ifeqE {S : Sta} {ta : TE} {t u : TS} {nx : L2.St → Hp → Prop} {rt : VK} {bk ct : L2.St → Hp → Prop} {A : Int → Prop} {c : Int} (h : EV S ta (Exr A It)) (h1 : A c → Go S (t ⟨nx, rt, bk, ct⟩)) (h2 : ∀ m, A m → m ≠ c → Go S (u ⟨nx, rt, bk, ct⟩)) : Go S (tIfS (tTest (tOp rEq ta (tC (.int c)))) t u ⟨nx, rt, bk, ct⟩) := fun σ H st =>
  h σ H st _ fun v H1 s ⟨m, hm, r⟩ => by
    have ev : v = .int m := r
    subst ev
    by_cases e : m = c
    · subst e
      refine ⟨rfl, true, by simp, ?_⟩
      exact h1 hm σ H1 (st.mono s)
    · refine ⟨rfl, false, by simp [e], ?_⟩
      exact h2 m hm e σ H1 (st.mono s)
section
variable {P : Program} {w : World} {K : PySem.W.Frag} {mg : Str → Option Value} {base : Heap}
/-! ### a purchase -/
abbrev s_law_purchase : Stmt := (topS 74)
theorem sc_law_purchase : FnScope ["_law_row_here", "_law_shape", "_law_goods", "_law_kind", "_law_prices", "_law_amounts", "_law_k", "_law_price", "_law_amount", "_law_x"] ["_law_row_here", "_law_shape", "_law_goods", "_law_kind"] (defScope s_law_purchase) := ⟨rfl, rfl, rfl, by decide +kernel, rfl, by decide +kernel, by decide +kernel⟩

structure PurV where
  f : Nat → Nat
  s : Nat → Nat
  g : Nat
  kd : Nat
structure PurOk (z : PurV) : Prop where
  f : ∀ k, k < 33 → z.f k < 1000
  s : ∀ k, k < 9 → z.s k < 1000
  g0 : 1 ≤ z.g
  g : z.g ≤ 4
structure PurS (g : Nat) (z : (Nat → Rat) × (Nat → Rat)) : Prop where
  p : ∀ k, k < g → Bd 40 10 (z.1 k) ∧ 0 < z.1 k
  a : ∀ k, k < g → Bd 40 10 (z.2 k) ∧ 0 ≤ z.2 k
  pos : ∃ k, k < g ∧ 0 < z.2 k
def sp_law_purchase (K : PySem.W.Frag) : Sp := spR (fun z : PurV => [Il 33 z.f, Il 9 z.s, Nt z.g, Nt z.kd]) PurOk (fun z => Exr (PurS z.g) fun a => Tp K [Fl K z.g a.1, Fl K z.g a.2])
theorem ok_law_purchase (G : Gb K mg) (F : Def0 K mg "_law_purchase" s_law_purchase ["_law_row_here", "_law_shape", "_law_goods", "_law_kind"]) (d_law_lowest : DefOk P w K mg base "_law_lowest" 2 ["_law_p", "_law_q"] (sp_law_lowest K))
    (d_law_long : DefOk P w K mg base "_law_long" 1 ["_law_row_here", "_law_start", "_law_many"] sp_law_long) : DefOk P w K mg base "_law_purchase" 3 ["_law_row_here", "_law_shape", "_law_goods", "_law_kind"] (sp_law_purchase K) := by
  refine okD F sc_law_purchase (fun _ => rfl) (by decide) fun f cdv A outer s H E hr ⟨f, sh, g, kd⟩ h => ⟨_, (pss_cons (ps_set (i := 4) sc_law_purchase.nd rfl (.inl rfl) (pe_lst pa_nil))
        (pss_cons (ps_set (i := 5) sc_law_purchase.nd rfl (.inl rfl) (pe_lst pa_nil))
        (pss_cons (ps_for PassesOwn.never rfl (pi_range1 (by rfl) G.range (pa_cons (pv 2) pa_nil)) (pg_name (i := 6) sc_law_purchase.nd rfl (.inl rfl)) (pss_cons (ps_set (i := 7) sc_law_purchase.nd rfl (.inl rfl) (pe_cd d_law_lowest (hr.mono (by decide)) (by rfl) (pa_cons (pe_op op_add pe_int (pe_op op_mod (pe_callTy call_int1 (by rfl) G.int (by decide +kernel) (pa_cons (pe_ix (r := rIxL K) ix_list (pv 0) (pe_op op_mulW pe_int (pv 6)) (fun _ _ => rfl)) pa_nil)) pe_int)) (pa_cons (pe_op op_add pe_int (pe_op op_mod (pe_callTy call_int1 (by rfl) G.int (by decide +kernel) (pa_cons (pe_ix (r := rIxL K) ix_list (pv 0) (pe_op op_add (pe_op op_mulW pe_int (pv 6)) pe_int) (fun _ _ => rfl)) pa_nil)) pe_int)) pa_nil))))
        (pss_cons (ps_set (i := 8) sc_law_purchase.nd rfl (.inl rfl) (pe_cd d_law_lowest (hr.mono (by decide)) (by rfl) (pa_cons (pe_op op_mod (pe_callTy call_int1 (by rfl) G.int (by decide +kernel) (pa_cons (pe_ix (r := rIxL K) ix_list (pv 0) (pe_op op_add (pe_op op_mulW pe_int (pv 6)) pe_int) (fun _ _ => rfl)) pa_nil)) pe_int) (pa_cons (pe_op op_add pe_int (pe_op op_mod (pe_callTy call_int1 (by rfl) G.int (by decide +kernel) (pa_cons (pe_ix (r := rIxL K) ix_list (pv 0) (pe_op op_add (pe_op op_mulW pe_int (pv 6)) pe_int) (fun _ _ => rfl)) pa_nil)) pe_int)) pa_nil))))
        (pss_cons (ps_if (pt_cmpR op_eq (pv 3) pe_int (nomark _)) (pss_one (ps_set (i := 7) sc_law_purchase.nd rfl (.inl rfl) (pe_tup (pa_cons (pe_op op_add pe_int (pe_op op_mod (pe_callTy call_int1 (by rfl) G.int (by decide +kernel) (pa_cons (pe_ix (r := rIxL K) ix_list (pv 0) (pe_op op_mulW pe_int (pv 6)) (fun _ _ => rfl)) pa_nil)) pe_int)) (pa_cons pe_int pa_nil))))) pss_nil)
        (pss_cons (ps_if (pt_cmpR op_eq (pv 3) pe_int (nomark _)) (pss_one (ps_set (i := 7) sc_law_purchase.nd rfl (.inl rfl) (pe_tup (pa_cons (pe_op op_add pe_int (pe_op op_mod (pe_callTy call_int1 (by rfl) G.int (by decide +kernel) (pa_cons (pe_ix (r := rIxL K) ix_list (pv 1) (pe_op op_add pe_int (pv 6)) (fun _ _ => rfl)) pa_nil)) pe_int)) (pa_cons pe_int pa_nil))))) pss_nil)
        (pss_cons (ps_if (PW.pt (pw_or (pt_cmpR op_eq (pv 3) pe_int (nomark _)) (pw_or1 (pt_cmpR op_eq (pv 3) pe_int (nomark _))))) (pss_one (ps_set (i := 8) sc_law_purchase.nd rfl (.inl rfl) (pe_tup (pa_cons (pe_op op_mod (pe_callTy call_int1 (by rfl) G.int (by decide +kernel) (pa_cons (pe_ix (r := rIxL K) ix_list (pv 0) (pe_op op_add (pe_op op_mulW pe_int (pv 6)) pe_int) (fun _ _ => rfl)) pa_nil)) pe_int) (pa_cons pe_int pa_nil))))) pss_nil)
        (pss_cons (ps_if (pt_cmpR op_eq (pv 3) pe_int (nomark _)) (pss_one (ps_set (i := 8) sc_law_purchase.nd rfl (.inl rfl) (pe_cd d_law_lowest (hr.mono (by decide)) (by rfl) (pa_cons (pe_op op_mulW (pe_op op_mulW (pe_op op_add pe_int (pe_op op_mod (pe_callTy call_int1 (by rfl) G.int (by decide +kernel) (pa_cons (pe_ix (r := rIxL K) ix_list (pv 1) (pe_op op_add pe_int (pv 6)) (fun _ _ => rfl)) pa_nil)) pe_int)) (pe_op op_add pe_int (pe_op op_mod (pe_callTy call_int1 (by rfl) G.int (by decide +kernel) (pa_cons (pe_ix (r := rIxL K) ix_list (pv 0) pe_int (fun _ _ => rfl)) pa_nil)) pe_int))) (pe_ix (r := rIxT K) ix_tup (pv 7) pe_int (fun _ _ => rfl))) (pa_cons (pe_ix (r := rIxT K) ix_tup (pv 7) pe_int (fun _ _ => rfl)) pa_nil))))) pss_nil)
        (pss_cons (ps_if (pt_cmpR op_eq (pv 3) pe_int (nomark _)) (pss_cons (ps_set (i := 7) sc_law_purchase.nd rfl (.inl rfl) (pe_cd d_law_lowest (hr.mono (by decide)) (by rfl) (pa_cons (pe_op op_add pe_int (pe_cd d_law_long (hr.mono (by decide)) (by rfl) (pa_cons (pv 0) (pa_cons (pe_op op_mulW pe_int (pv 6)) (pa_cons pe_int pa_nil))))) (pa_cons (pe_op op_add pe_int (pe_ix (r := rIxL K) ix_list (pv 0) (pe_op op_add (pe_op op_mulW pe_int (pv 6)) pe_int) (fun _ _ => rfl))) pa_nil))))
        (pss_one (ps_set (i := 8) sc_law_purchase.nd rfl (.inl rfl) (pe_cd d_law_lowest (hr.mono (by decide)) (by rfl) (pa_cons (pe_cd d_law_long (hr.mono (by decide)) (by rfl) (pa_cons (pv 0) (pa_cons (pe_op op_add (pe_op op_mulW pe_int (pv 6)) pe_int) (pa_cons pe_int pa_nil)))) (pa_cons (pe_op op_add pe_int (pe_ix (r := rIxL K) ix_list (pv 0) (pe_op op_mulW pe_int (pv 6)) (fun _ _ => rfl))) pa_nil)))))) pss_nil)
        (pss_cons (ps_expr (pe_appK (K := K) rfl (pv 4) (pa_cons (pv 7) pa_nil)))
        (pss_one (ps_expr (pe_appK (K := K) rfl (pv 5) (pa_cons (pv 8) pa_nil)))))))))))))
        (pss_cons (ps_if (pt_cmpR op_eq (pe_callB (r := rMax K) (cr_max rfl) (by rfl) G.max (by decide +kernel) (pa_cons (pe_lc (own := [("_law_x", 9)]) (g := (gName 9)) (tt := tYes) rfl sc_law_purchase.nd (pi_listK (K := K) rfl (pv 5)) (blkOk_by (N := ["_law_row_here", "_law_shape", "_law_goods", "_law_kind", "_law_prices", "_law_amounts", "_law_k", "_law_price", "_law_amount", "_law_x"]) (own := [("_law_x", 9)]) (sc := (defScope s_law_purchase)) (by decide +kernel)) (fun _ _ _ _ _ => (pg_name (i := 9) sc_law_purchase.nd rfl (.inl rfl))) (fun _ _ _ _ _ => pts_nil) (fun _ _ _ _ _ => (pe_ix (r := rIxT K) ix_tup (pv 9) pe_int (fun _ _ => rfl)))) pa_nil)) pe_int (nomark _)) (pss_one (ps_asg (pe_tup (pa_cons pe_int (pa_cons pe_int pa_nil))) (pg_sub (pv 5) (pe_op op_sub (pv 2) pe_int) set_list))) pss_nil)
        (pss_one (ps_ret (pe_tup (pa_cons (pv 4) (pa_cons (pv 5) pa_nil))))))))), fun H0 N D rt => ?_⟩
  have hf : ∀ k, k < 33 → f k < 1000 := h.f
  have hsh : ∀ k, k < 9 → sh k < 1000 := h.s
  have g0 : 1 ≤ g := h.g0
  have hg : g ≤ 4 := h.g
  refine go_seq (go_new (evn_lst eva_nil) fun pp => go_seq (go_new (evn_lst eva_nil) fun pa => go_seq ?_))
  refine go_forR (n := g) (α := Unit) (fun k _ => ⟨H0, N, [(pa, k, fun _ => AF K 40 10), (pp, k, fun _ => PF K 40 10)], [some (Il 33 f), some (Il 9 sh), some (Nt g), some (Nt kd), some (Pt pp), some (Pt pa), none, none, none, none]⟩) (fun _ _ => True) (eva_cons (ev_var rfl) eva_nil) (by omega)
    ⟨(), trivial, fun σ H st => (st.mw (.sub (fun k hk => absurd hk (Nat.not_lt_zero k)) (.sub (fun k hk => absurd hk (Nat.not_lt_zero k)) .nil))).wk (by repeat first | exact Wk.nil | refine Wk.keep ?_ | refine Wk.drop ?_)⟩ (fun k _ hk _ => ?_) fun _ _ => ?_
  · have hk4 : k < 4 := by omega
    have e8 : ∀ {M : Mt} {a b c d e i : Option Rp}, EV ⟨H0, N, M, [a, b, c, d, e, i, some (Nt k), none, none, none]⟩ (tOp (rI CMulW fun i j => .int (i * j)) (tC (.int 8)) (tVar 6)) (It (8 * (k : Int))) := fun {M a b c d e i} => ev_imul ev_int (ev_var rfl) (cm40 (by decide) (by omega))
    have e8' : ∀ {M : Mt} {Γ : List (Option Rp)}, Γ[6]? = some (some (Nt k)) → EV ⟨H0, N, M, Γ⟩ (tOp (rI CMulW fun i j => .int (i * j)) (tC (.int 8)) (tVar 6)) (It (8 * (k : Int))) := fun {M Γ} hh => ev_imul ev_int (ev_var hh) (cm40 (by decide) (by omega))
    have e8c : ∀ {M : Mt} {Γ : List (Option Rp)} {c : Int}, Γ[6]? = some (some (Nt k)) → EV ⟨H0, N, M, Γ⟩ (tOp (rI0 fun i j => .int (i + j)) (tOp (rI CMulW fun i j => .int (i * j)) (tC (.int 8)) (tVar 6)) (tC (.int c))) (It (8 * (k : Int) + c)) := fun {M Γ c} hh => ev_iadd (e8' hh) ev_int
    refine go_seq (go_set (ev_low (a := 4) (b := 3) (ev_1p (ev_dm (k := 8 * k) (ev_var rfl) (e8' rfl) (by omega) (by omega) (by decide))) (ev_1p (ev_dm (k := 8 * k + 1) (ev_var rfl) (e8c rfl) (by omega) (by omega) (by decide))) (mod1_lt (a := 3) (by decide) (by decide)).2 (mod1_lt (by decide) (by decide)).1 (mod1_lt (by decide) (by decide)).1 (by decide) (mod1_lt (a := 4) (by decide) (by decide)).2) (go_seq ?_))
    refine go_set (ev_sub (ev_low0 (a := 3) (b := 3) (ev_dm (k := 8 * k + 2) (ev_var rfl) (e8c rfl) (by omega) (by omega) (by decide)) (ev_1p (ev_dm (k := 8 * k + 3) (ev_var rfl) (e8c rfl) (by omega) (by omega) (by decide))) (mod1_lt (a := 3) (by decide) (by decide)).2 (mod_lt (by decide) (by decide)).1 (mod1_lt (by decide) (by decide)).1 (by decide) (mod_lt (a := 3) (by decide) (by decide)).2) (af_up (c := 10) (d := 4) (by decide) (by decide))) (go_seq ?_)
    have e4k : ∀ {M : Mt} {Γ : List (Option Rp)}, Γ[6]? = some (some (Nt k)) → EV ⟨H0, N, M, Γ⟩ (tOp (rI0 fun i j => .int (i + j)) (tC (.int 4)) (tVar 6)) (It (4 + (k : Int))) := fun {M Γ} hh => ev_iadd ev_int (ev_var hh)
    let J : Rp → Rp → Sta := fun R1 R2 => ⟨H0, N, [(pa, k, fun _ => AF K 40 10), (pp, k, fun _ => PF K 40 10)], [some (Il 33 f), some (Il 9 sh), some (Nt g), some (Nt kd), some (Pt pp), some (Pt pa), some (Nt k), some R1, some R2, none]⟩
    refine go_ifj (J (PF K 4 3) (AF K 10 4)) (et_test (ev_op ot_eqI (ev_var rfl) ev_int)) (fun _ nx kk => ?_) (fun _ nx kk => go_next fun σ H st => kk σ H (st.wk (by repeat first | exact Wk.nil | refine Wk.keep ?_ | refine Wk.drop ?_))) (go_seq ?_)
    · exact go_set (ev_sub (ev_pair (a := 2) (ev_1p (ev_dm (k := 8 * k) (ev_var rfl) (e8' rfl) (by omega) (by omega) (by decide))) (mod1_lt (by decide) (by decide)).1 (mod1_lt (a := 2) (by decide) (by decide)).2) (pf_up (c := 4) (d := 3) (by decide) (by decide))) fun σ H st => kk σ H (st.wk (by repeat first | exact Wk.nil | refine Wk.keep ?_ | refine Wk.drop ?_))
    refine go_ifj (J (PF K 4 3) (AF K 10 4)) (et_test (ev_op ot_eqI (ev_var rfl) ev_int)) (fun _ nx kk => ?_) (fun _ nx kk => go_next fun σ H st => kk σ H (st.wk (by repeat first | exact Wk.nil | refine Wk.keep ?_ | refine Wk.drop ?_))) (go_seq ?_)
    · exact go_set (ev_sub (ev_pair (a := 2) (ev_1p (ev_dm (k := 4 + k) (ev_var rfl) (e4k rfl) (by omega) (by omega) (by decide))) (mod1_lt (by decide) (by decide)).1 (mod1_lt (a := 2) (by decide) (by decide)).2) (pf_up (c := 4) (d := 3) (by decide) (by decide))) fun σ H st => kk σ H (st.wk (by repeat first | exact Wk.nil | refine Wk.keep ?_ | refine Wk.drop ?_))
    refine go_ifj (J (PF K 4 3) (AF K 10 4)) (et_or (et_test (ev_op ot_eqI (ev_var rfl) ev_int)) fun _ => et_test (ev_op ot_eqI (ev_var rfl) ev_int)) (fun _ nx kk => ?_) (fun _ nx kk => go_next fun σ H st => kk σ H (st.wk (by repeat first | exact Wk.nil | refine Wk.keep ?_ | refine Wk.drop ?_))) (go_seq ?_)
    · exact go_set (ev_sub (ev_pair0 (a := 2) (ev_dm (k := 8 * k + 2) (ev_var rfl) (e8c rfl) (by omega) (by omega) (by decide)) (mod_lt (by decide) (by decide)).1 (mod_lt (a := 2) (by decide) (by decide)).2) (af_up (c := 10) (d := 4) (by decide) (by decide))) fun σ H st => kk σ H (st.wk (by repeat first | exact Wk.nil | refine Wk.keep ?_ | refine Wk.drop ?_))
    refine go_ifj (J (PF K 4 3) (AF K 10 4)) (et_test (ev_op ot_eqI (ev_var rfl) ev_int)) (fun _ nx kk => ?_) (fun _ nx kk => go_next fun σ H st => kk σ H (st.wk (by repeat first | exact Wk.nil | refine Wk.keep ?_ | refine Wk.drop ?_))) (go_seq ?_)
    · refine go_open (i := 7) rfl fun y ⟨hy, yp⟩ => ?_
      have q := Pq.fr (hy.mono (a' := 4) (b' := 4) (by decide) (by decide))
      have ny : 0 < y.num := Classical.byContradiction fun c => by
        have : y ≤ 0 := q.sgn.2.1.mp (show y.num ≤ 0 by omega)
        exact absurd yp (Rat.not_lt.mpr this)
      have m1 := mod1_lt (i := ((sh (4 + k) : Nat) : Int)) (m := 5) (a := 3) (by decide) (by decide)
      have m2 := mod1_lt (i := ((f 32 : Nat) : Int)) (m := 5) (a := 3) (by decide) (by decide)
      have dy : (0 : Int) < (y.den : Int) := by have := y.den_pos; omega
      have dyb : ((y.den : Int)).natAbs < 2 ^ 3 := by rw [Int.natAbs_natCast]; exact hy.den
      have n12 := nabs_mul (c := 6) m1.1 m2.1
      refine go_set (ev_sub (ev_low0 (a := 9) (b := 4) (ev_imul (ev_imul (ev_1p (ev_dm (k := 4 + k) (ev_var rfl) (e4k rfl) (by omega) (by omega) (by decide))) (ev_1p (ev_dm (k := 32) (ev_var rfl) ev_int rfl (by omega) (by decide))) (cm40 (nabs_up m1.1) (nabs_up m2.1))) (ev_den (ev_var rfl)) (cm40 (nabs_up n12) (nabs_up dyb))) (ev_num (ev_var rfl)) ny (nabs_mul n12 dyb) hy.num (by decide) (Int.le_of_lt (Int.mul_pos (Int.mul_pos m1.2 m2.2) dy))) (af_up (c := 10) (d := 4) (by decide) (by decide))) fun σ H st => kk σ H ?_
      exact st.wk (by repeat first | exact Wk.nil | refine Wk.keep ?_ | refine Wk.sub (fun H v r => ⟨y, ⟨hy, yp⟩, r⟩) ?_ | refine Wk.drop ?_)
    refine go_ifj (J (PF K 40 10) (AF K 40 10)) (et_test (ev_op ot_eqI (ev_var rfl) ev_int)) (fun _ nx kk => ?_) (fun _ nx kk => go_next fun σ H st => kk σ H ?_) (go_seq ?_)
    · have longB : ∀ n : Nat, n < 1000 ^ 4 → ((n : Nat) : Int).natAbs < 2 ^ 40 ∧ (1 + ((n : Nat) : Int)).natAbs < 2 ^ 40 := fun n hn => by
        have : (1000 : Nat) ^ 4 < 2 ^ 40 := by decide
        omega
      have dig : ∀ j, j < 33 → (1 + ((f j : Nat) : Int)).natAbs < 2 ^ 10 ∧ 0 < 1 + ((f j : Nat) : Int) := fun j hj => by
        have := hf j hj
        omega
      have eLong : ∀ {M : Mt} {Γ : List (Option Rp)} {tx : TE} {i : Int} {j : Nat} {E : XK}, Γ[0]? = some (some (Il 33 f)) → EV ⟨H0, N, M, Γ⟩ tx (It i) → i = (j : Int) → j + 4 ≤ 33 → EV ⟨H0, N, M, Γ⟩ (tCall sp_law_long [] E (tCons (tVar 0) (tCons tx (tCons (tC (.int 4)) tNil)))) (Exr (fun n : Nat => n < 1000 ^ 4) Nt) := fun {M Γ tx i j E} h0 hx ei hj => ev_call (⟨33, f, j, 4⟩ : LongV) (eva_cons (ev_var h0) (eva_cons (ev_eq hx (by rw [ei])) (eva_cons ev_int eva_nil))) ⟨hj, show 4 ≤ 4 by decide, hf⟩
      have e1 : ∀ {M : Mt} {Γ : List (Option Rp)} {tp tq : TE} {q : Int} {E : XK}, EV ⟨H0, N, M, Γ⟩ tp (Exr (fun n : Nat => n < 1000 ^ 4) Nt) → EV ⟨H0, N, M, Γ⟩ tq (It q) → q.natAbs < 2 ^ 10 → 0 < q → EV ⟨H0, N, M, Γ⟩ (tCall (sp_law_lowest K) [] E (tCons (tOp (rI0 fun i j => .int (i + j)) (tC (.int 1)) tp) (tCons tq tNil))) (PF K 40 10) := fun {M Γ tp tq q E} hp hq hb hq0 =>
        ev_callE (eva_cons (ev_sub (R := Exr (fun n : Nat => n < 1000 ^ 4) fun n => It (1 + (n : Int))) (fun σ H st Q qq => hp σ H st _ fun v H1 s1 ⟨n, hn, r⟩ => by
          have ev : v = .int (n : Int) := r
          subst ev
          exact ⟨1, (n : Int), rfl, rfl, qq _ H1 s1 ⟨n, hn, rfl⟩⟩) fun _ _ h => h) (eva_cons hq eva_nil)) fun H vs al => by
            obtain ⟨v, u, rfl, ⟨n, hn, r1⟩, r2⟩ := al2 al
            have hb2 := (longB n hn).2
            exact ⟨(1 + (n : Int), q), al2' r1 r2, ⟨hq0, nabs_up hb (by decide)⟩, fun H' v r => ⟨_, ⟨(low_bd hq0 hb2 hb).1, (low_bd hq0 hb2 hb).2.1 (by omega)⟩, r⟩⟩
      have e2 : ∀ {M : Mt} {Γ : List (Option Rp)} {tp tq : TE} {q : Int} {E : XK}, EV ⟨H0, N, M, Γ⟩ tp (Exr (fun n : Nat => n < 1000 ^ 4) Nt) → EV ⟨H0, N, M, Γ⟩ tq (It q) → q.natAbs < 2 ^ 10 → 0 < q → EV ⟨H0, N, M, Γ⟩ (tCall (sp_law_lowest K) [] E (tCons tp (tCons tq tNil))) (AF K 40 10) := fun {M Γ tp tq q E} hp hq hb hq0 =>
        ev_callE (eva_cons hp (eva_cons hq eva_nil)) fun H vs al => by
            obtain ⟨v, u, rfl, ⟨n, hn, r1⟩, r2⟩ := al2 al
            have hb2 := (longB n hn).1
            exact ⟨((n : Int), q), al2' r1 r2, ⟨hq0, nabs_up hb (by decide)⟩, fun H' v r => ⟨_, ⟨(low_bd hq0 hb2 hb).1, (low_bd hq0 hb2 hb).2.2.1 (by omega)⟩, r⟩⟩
      refine go_seq (go_set (e1 (eLong (j := 8 * k) rfl (e8' rfl) (by omega) (by omega)) (ev_1p (ev_op (ot_ixL (R := fun k => Nt (f k)) (k := 8 * k + 4) (by omega) (by omega)) (ev_var rfl) (e8c rfl))) (dig _ (by omega)).1 (dig _ (by omega)).2) ?_)
      refine go_set (e2 (eLong (j := 8 * k + 4) rfl (e8c rfl) (by omega) (by omega)) (ev_1p (ev_op (ot_ixL (R := fun k => Nt (f k)) (k := 8 * k) (by omega) (by omega)) (ev_var rfl) (e8' rfl))) (dig _ (by omega)).1 (dig _ (by omega)).2) fun σ H st => kk σ H (st.wk (by repeat first | exact Wk.nil | refine Wk.keep ?_ | refine Wk.drop ?_))
    · exact st.wk (by repeat first | exact Wk.nil | refine Wk.keep ?_ | refine Wk.sub (pf_up (by decide) (by decide)) ?_ | refine Wk.sub (af_up (by decide) (by decide)) ?_ | refine Wk.drop ?_)
    · refine go_app (M1 := [(pa, k, fun _ => AF K 40 10)]) (M2 := []) rfl rfl (by omega) (ev_var rfl) ?_
      refine go_app (M1 := []) rfl rfl (by omega) (ev_var rfl) fun σ H st => ⟨(), trivial, (st.mw (.sub (snoc_at (fun _ _ => rfl) rfl) (.sub (snoc_at (fun _ _ => rfl) rfl) .nil))).wk (by repeat first | exact Wk.nil | refine Wk.keep ?_ | refine Wk.drop ?_)⟩
  · refine go_openM (p := pa) rfl fun av hav => ?_
    have fin : ∀ (bv : Nat → Rat), (∀ k, k < g → Bd 40 10 (bv k) ∧ 0 ≤ bv k) → (∃ k, k < g ∧ 0 < bv k) → ∀ {nx : L2.St → Hp → Prop} {bk ct : L2.St → Hp → Prop}, Go ⟨H0, N, [(pa, g, fun k => Fr K (bv k)), (pp, g, fun _ => PF K 40 10)], [some (Il 33 f), some (Il 9 sh), some (Nt g), some (Nt kd), some (Pt pp), some (Pt pa), none, none, none, none]⟩ (tRet (tTup (tCons (tVar 4) (tCons (tVar 5) tNil))) ⟨nx, D.rt, bk, ct⟩) := fun bv hb hp {nx bk ct} => by
      refine go_freeze (i := 5) rfl rfl (go_openM (p := pp) rfl fun pv hpv => go_freeze (i := 4) rfl rfl ?_)
      exact go_ex (f := fun a : (Nat → Rat) × (Nat → Rat) => Tp K [Fl K g a.1, Fl K g a.2]) rt (pv, bv) ⟨hpv, hb, hp⟩ (ev_tup (eva_cons (ev_var rfl) (eva_cons (ev_var rfl) eva_nil)))
    refine go_seq ?_
    have em : EV ⟨H0, N, [(pa, g, fun k => Fr K (av k)), (pp, g, fun _ => PF K 40 10)], [some (Il 33 f), some (Il 9 sh), some (Nt g), some (Nt kd), some (Pt pp), some (Pt pa), none, none, none, none]⟩ (tCB (rMax K) (tCons (tLc (iList K (tVar 5)) (gName 9) tYes (tOp (rIxT K) (tVar 9) (tC (.int 0))) [9]) tNil)) (Exr (fun m : Int => (∃ k, k < g ∧ m = (av k).num) ∧ ∀ k, k < g → (av k).num ≤ m) It) :=
      ev_cb (ct_max (by omega)) (eva_cons (evn_thaw (i := 5) (p := pa) (n := g) (f := fun k => Fr K (av k)) rfl rfl (fun _ => off_It) (evn_lcL (n := g) (R := fun k => It (av k).num) (ev_var rfl) (by omega) fun Dq k hk => ev_num (ev_var rfl))).ev eva_nil)
    have numnn : ∀ k, k < g → 0 ≤ (av k).num := fun k hk => Rat.num_nonneg.mpr (hav k hk).2
    have posn : ∀ k, k < g → (av k).num ≠ 0 → 0 < av k := fun k hk hne => by
      have h1 := (hav k hk).2
      have h2 : av k ≠ 0 := fun e => hne (by rw [e]; rfl)
      grind
    refine go_ifeqE em (fun _ => ?_) fun m ⟨⟨k0, hk0, em0⟩, _⟩ hm => go_next (fin av hav ⟨k0, hk0, posn k0 hk0 (by rw [← em0]; exact hm)⟩)
    refine go_put (M1 := []) (j := g - 1) rfl rfl (R := Fr K 1) (ev_eq (ev_tup (K := K) (eva_cons ev_int (eva_cons ev_int eva_nil))) rfl) (ev_isub (ev_var rfl) ev_int) (by omega) (by omega) ?_
    exact fun σ H st => fin (fun k => if k = g - 1 then 1 else av k) (fun k hk => by
      show Bd 40 10 (if k = g - 1 then 1 else av k) ∧ 0 ≤ (if k = g - 1 then 1 else av k)
      by_cases c : k = g - 1
      · rw [if_pos c]; exact ⟨Bd.one.mono (by decide) (by decide), by decide⟩
      · rw [if_neg c]; exact hav k hk) ⟨g - 1, by omega, by
      show 0 < (if g - 1 = g - 1 then 1 else av (g - 1))
      rw [if_pos rfl]; decide⟩ σ H (st.mset rfl (put_to (fun k _ hne => by rw [if_neg hne]) (by rw [if_pos rfl])))
end
end BB
namespace BB
open PySem PySem.Spec PyProof.Rows L2
section
variable {P : Program} {w : World} {K : PySem.W.Frag} {mg : Str → Option Value} {base : Heap}
/-! ### the book -/
abbrev s_law_data : Stmt := (topS 75)
theorem sc_law_data : FnScope ["_law_script", "_law_place", "_law_most", "_law_linked", "_law_shape", "_law_goods", "_law_count", "_law_buys", "_law_i", "_law_kind", "_law_links", "_law_row_here", "_law_k"] ["_law_script", "_law_place", "_law_most", "_law_linked"] (defScope s_law_data) := ⟨rfl, rfl, rfl, by decide +kernel, rfl, by decide +kernel, by decide +kernel⟩

structure LawD (d : DataV) : Prop where
  g1 : 1 ≤ d.g
  g : d.g ≤ 4
  c : d.c ≤ 4
  l : d.l ≤ 10
  pr : ∀ i, i < d.c → ∀ k, k < d.g → Bd 40 10 (d.pr i k) ∧ 0 < d.pr i k
  am : ∀ i, i < d.c → ∀ k, k < d.g → Bd 40 10 (d.am i k) ∧ 0 ≤ d.am i k
  pos : ∀ i, i < d.c → ∃ k, k < d.g ∧ 0 < d.am i k
  lk : ∀ t, t < d.l → (d.lk t).1 < d.c ∧ (d.lk t).2.1 < d.c
abbrev DatT (K : PySem.W.Frag) (d : DataV) : Rp := Tp K [Nt d.g, Buys K d, Lnks K d]
def sp_law_data (K : PySem.W.Frag) : Sp := spR (fun ns : List Int => [Sc K ns, Nt 0, Nt 4, Nt 3]) (fun _ => True) (fun _ => Exr LawD (DatT K))
theorem ev_pickL {S : Sta} {ti tl : TE} {n k : Nat} {i : Int} {f : Nat → Rp} {A : Nat → Prop} (hl : EV S tl (Li n f)) (hi : EV S ti (It i)) (ei : i = (k : Int)) (hk : k < n) (h : ∀ j, j < n → ∀ H v, (f j).p H v → (Exr A Nt).p H v) : EV S (tOp (rIxL K) tl ti) (Exr A Nt) := ev_sub (ev_op (ot_ixL ei hk) hl hi) (h k hk)
theorem ok_law_data (G : Gb K mg) (F : Def0 K mg "_law_data" s_law_data ["_law_script", "_law_place", "_law_most", "_law_linked"]) (d_law_row : DefOk P w K mg base "_law_row" 1 ["_law_script", "_law_place", "_law_many"] (sp_law_row K))
    (d_law_purchase : DefOk P w K mg base "_law_purchase" 3 ["_law_row_here", "_law_shape", "_law_goods", "_law_kind"] (sp_law_purchase K)) : DefOk P w K mg base "_law_data" 4 ["_law_script", "_law_place", "_law_most", "_law_linked"] (sp_law_data K) := by
  refine okD F sc_law_data (fun _ => rfl) (by decide) fun f cdv A outer s H E hr ns _ => ⟨_, (pss_cons (ps_set (i := 4) sc_law_data.nd rfl (.inl rfl) (pe_cd d_law_row (hr.mono (by decide)) (by rfl) (pa_cons (pv 0) (pa_cons (pv 1) (pa_cons pe_int pa_nil)))))
        (pss_cons (ps_set (i := 5) sc_law_data.nd rfl (.inl rfl) (pe_ix (r := rIxL K) ix_list (pe_lst (pa_cons pe_int (pa_cons pe_int (pa_cons pe_int (pa_cons pe_int (pa_cons pe_int (pa_cons pe_int pa_nil))))))) (pe_op op_mod (pe_callTy call_int1 (by rfl) G.int (by decide +kernel) (pa_cons (pe_ix (r := rIxL K) ix_list (pv 4) pe_int (fun _ _ => rfl)) pa_nil)) pe_int) (fun _ _ => rfl)))
        (pss_cons (ps_set (i := 6) sc_law_data.nd rfl (.inl rfl) (pe_op op_mod (pe_callTy call_int1 (by rfl) G.int (by decide +kernel) (pa_cons (pe_ix (r := rIxL K) ix_list (pv 4) pe_int (fun _ _ => rfl)) pa_nil)) (pe_op op_add (pv 2) pe_int)))
        (pss_cons (ps_set (i := 7) sc_law_data.nd rfl (.inl rfl) (pe_lst pa_nil))
        (pss_cons (ps_for PassesOwn.never rfl (pi_range1 (by rfl) G.range (pa_cons (pv 6) pa_nil)) (pg_name (i := 8) sc_law_data.nd rfl (.inl rfl)) (pss_cons (ps_set (i := 9) sc_law_data.nd rfl (.inl rfl) (pe_ix (r := rIxL K) ix_list (pe_lst (pa_cons pe_int (pa_cons pe_int (pa_cons pe_int (pa_cons pe_int (pa_cons pe_int (pa_cons pe_int (pa_cons pe_int (pa_cons pe_int pa_nil))))))))) (pe_op op_mod (pe_callTy call_int1 (by rfl) G.int (by decide +kernel) (pa_cons (pe_ix (r := rIxL K) ix_list (pv 4) pe_int (fun _ _ => rfl)) pa_nil)) pe_int) (fun _ _ => rfl)))
        (pss_one (ps_expr (pe_appK (K := K) rfl (pv 7) (pa_cons (pe_cd d_law_purchase (hr.mono (by decide)) (by rfl) (pa_cons (pe_cd d_law_row (hr.mono (by decide)) (by rfl) (pa_cons (pv 0) (pa_cons (pe_op op_add (pe_op op_add (pv 1) pe_int) (pv 8)) (pa_cons pe_int pa_nil)))) (pa_cons (pv 4) (pa_cons (pv 5) (pa_cons (pv 9) pa_nil))))) pa_nil))))))
        (pss_cons (ps_set (i := 10) sc_law_data.nd rfl (.inl rfl) (pe_lst pa_nil))
        (pss_cons (ps_set (i := 11) sc_law_data.nd rfl (.inl rfl) (pe_cd d_law_row (hr.mono (by decide)) (by rfl) (pa_cons (pv 0) (pa_cons (pe_op op_add (pv 1) pe_int) (pa_cons pe_int pa_nil)))))
        (pss_cons (ps_if (pt_cmpR op_gt (pv 6) pe_int (nomark _)) (pss_one (ps_for PassesOwn.never rfl (pi_range1 (by rfl) G.range (pa_cons (pe_op op_mod (pe_callTy call_int1 (by rfl) G.int (by decide +kernel) (pa_cons (pe_ix (r := rIxL K) ix_list (pv 4) pe_int (fun _ _ => rfl)) pa_nil)) (pe_op op_add (pv 3) pe_int)) pa_nil)) (pg_name (i := 12) sc_law_data.nd rfl (.inl rfl)) (pss_one (ps_expr (pe_appK (K := K) rfl (pv 10) (pa_cons (pe_tup (pa_cons (pe_op op_mod (pe_callTy call_int1 (by rfl) G.int (by decide +kernel) (pa_cons (pe_ix (r := rIxL K) ix_list (pv 11) (pe_op op_mulW pe_int (pv 12)) (fun _ _ => rfl)) pa_nil)) (pv 6)) (pa_cons (pe_op op_mod (pe_callTy call_int1 (by rfl) G.int (by decide +kernel) (pa_cons (pe_ix (r := rIxL K) ix_list (pv 11) (pe_op op_add (pe_op op_mulW pe_int (pv 12)) pe_int) (fun _ _ => rfl)) pa_nil)) (pv 6)) (pa_cons (pe_cmpR op_eq (pe_op op_mod (pe_callTy call_int1 (by rfl) G.int (by decide +kernel) (pa_cons (pe_ix (r := rIxL K) ix_list (pv 11) (pe_op op_add (pe_op op_mulW pe_int (pv 12)) pe_int) (fun _ _ => rfl)) pa_nil)) pe_int) pe_int (nomark _)) pa_nil)))) pa_nil)))))) pss_nil)
        (pss_one (ps_ret (pe_tup (pa_cons (pv 5) (pa_cons (pv 7) (pa_cons (pv 10) pa_nil)))))))))))))), fun H0 N D rt => ?_⟩
  refine go_seq (go_set (ev_call (⟨ns, 0, 9⟩ : RowV) (eva_cons (ev_var rfl) (eva_cons (ev_var rfl) (eva_cons ev_int eva_nil))) ⟨show 0 ≤ 100 by decide, show 9 ≤ 100 by decide⟩) (go_open (i := 4) rfl fun sh hsh => go_seq ?_))
  have hsh : ∀ k, k < 9 → sh k < 1000 := hsh
  refine go_set (ev_pickL (A := fun n => 1 ≤ n ∧ n ≤ 4) (k := sh 0 % 6) (evn_lst (eva_cons (R := Nt 2) ev_int (eva_cons (R := Nt 1) ev_int (eva_cons (R := Nt 2) ev_int (eva_cons (R := Nt 3) ev_int (eva_cons (R := Nt 3) ev_int (eva_cons (R := Nt 4) ev_int eva_nil))))))).ev (ev_dm (n := 9) (f := sh) (k := 0) (ev_var rfl) ev_int rfl (by decide) (by decide)) rfl (show sh 0 % 6 < 6 by omega) fun j hj H v r => ?_) (go_open (i := 5) rfl fun g hg => go_seq ?_)
  · have hj : j < 6 := hj
    rcases j with _ | _ | _ | _ | _ | _ | j
    · exact ⟨2, ⟨by decide, by decide⟩, r⟩
    · exact ⟨1, ⟨by decide, by decide⟩, r⟩
    · exact ⟨2, ⟨by decide, by decide⟩, r⟩
    · exact ⟨3, ⟨by decide, by decide⟩, r⟩
    · exact ⟨3, ⟨by decide, by decide⟩, r⟩
    · exact ⟨4, ⟨by decide, by decide⟩, r⟩
    · omega
  obtain ⟨g1, g4⟩ := hg
  refine go_set (R := Nt (sh 1 % 5)) (ev_eq (ev_mod (ev_d (n := 9) (f := sh) (k := 1) (ev_var rfl) ev_int rfl (by decide)) (ev_iadd (ev_var rfl) ev_int) (by decide)) rfl) (go_seq ?_)
  have hc : sh 1 % 5 ≤ 4 := by omega
  generalize sh 1 % 5 = c at hc
  refine go_new (evn_lst eva_nil) fun pb => go_seq ?_
  let BR : Rp := Exr (PurS g) fun a => Tp K [Fl K g a.1, Fl K g a.2]
  let LR : Rp := Exr (fun x : Nat × Nat × Bool => x.1 < c ∧ x.2.1 < c) (Lnk K)
  refine go_forR (n := c) (α := Unit) (fun k _ => ⟨H0, N, [(pb, k, fun _ => BR)], [some (Sc K ns), some (Nt 0), some (Nt 4), some (Nt 3), some (Il 9 sh), some (Nt g), some (Nt c), some (Pt pb), none, none, none, none, none]⟩) (fun _ _ => True) (eva_cons (ev_var rfl) eva_nil) (by omega)
    ⟨(), trivial, fun σ H st => (st.mset rfl fun k hk => absurd hk (Nat.not_lt_zero k)).wk (by repeat first | exact Wk.nil | refine Wk.keep ?_ | refine Wk.drop ?_)⟩ (fun i _ hi _ => ?_) fun _ _ => go_seq ?_
  · have hi : i < c := hi
    refine go_seq (go_set (ev_pickL (A := fun _ => True) (k := sh 2 % 8) (evn_lst (eva_cons (R := Nt 0) ev_int (eva_cons (R := Nt 1) ev_int (eva_cons (R := Nt 2) ev_int (eva_cons (R := Nt 4) ev_int (eva_cons (R := Nt 0) ev_int (eva_cons (R := Nt 1) ev_int (eva_cons (R := Nt 2) ev_int (eva_cons (R := Nt 3) ev_int eva_nil))))))))).ev (ev_dm (n := 9) (f := sh) (k := 2) (ev_var rfl) ev_int rfl (by decide) (by decide)) rfl (show sh 2 % 8 < 8 by omega) fun j hj H v r => ?_) (go_open (i := 9) rfl fun kd _ => ?_))
    · have hj : j < 8 := hj
      rcases j with _ | _ | _ | _ | _ | _ | _ | _ | j
      · exact ⟨0, trivial, r⟩
      · exact ⟨1, trivial, r⟩
      · exact ⟨2, trivial, r⟩
      · exact ⟨4, trivial, r⟩
      · exact ⟨0, trivial, r⟩
      · exact ⟨1, trivial, r⟩
      · exact ⟨2, trivial, r⟩
      · exact ⟨3, trivial, r⟩
      · omega
    refine go_app (M1 := []) rfl rfl (by omega) (R := BR) (ev_callE (Rs := [Exr (fun f : Nat → Nat => ∀ k, k < 33 → f k < 1000) (Il 33), Il 9 sh, Nt g, Nt kd]) (eva_cons (ev_call (⟨ns, 0 + 1 + i, 33⟩ : RowV) (eva_cons (ev_var rfl) (eva_cons (ev_eq (ev_iadd (ev_iadd (ev_var rfl) ev_int) (ev_var rfl)) rfl) (eva_cons ev_int eva_nil))) ⟨show 0 + 1 + i ≤ 100 by omega, show 33 ≤ 100 by decide⟩) (eva_cons (ev_var rfl) (eva_cons (ev_var rfl) (eva_cons (ev_var rfl) eva_nil)))) fun H vs q => ?_) fun σ H st => ⟨(), trivial, (st.mset rfl (snoc_at (fun _ _ => rfl) rfl)).wk (by repeat first | exact Wk.nil | refine Wk.keep ?_ | refine Wk.drop ?_)⟩
    obtain ⟨v, r, e, ⟨f, hf, rf⟩, rest⟩ := q
    exact ⟨⟨f, sh, g, kd⟩, ⟨v, r, e, rf, rest⟩, ⟨hf, hsh, g1, g4⟩, fun _ _ h => h⟩
  refine go_new (evn_lst eva_nil) fun pl => go_seq ?_
  refine go_set (ev_call (⟨ns, 8, 18⟩ : RowV) (eva_cons (ev_var rfl) (eva_cons (ev_eq (ev_iadd (ev_var rfl) ev_int) rfl) (eva_cons ev_int eva_nil))) ⟨show 8 ≤ 100 by decide, show 18 ≤ 100 by decide⟩) (go_open (i := 11) rfl fun f hf => go_seq ?_)
  have hf : ∀ k, k < 18 → f k < 1000 := hf
  have rest : ∀ n, n ≤ 10 → Go ⟨H0, N, [(pl, n, fun _ => LR), (pb, c, fun _ => BR)], [some (Sc K ns), some (Nt 0), some (Nt 4), some (Nt 3), some (Il 9 sh), some (Nt g), some (Nt c), some (Pt pb), none, none, some (Pt pl), some (Il 18 f), none]⟩ (tRet (tTup (tCons (tVar 5) (tCons (tVar 7) (tCons (tVar 10) tNil)))) D) := fun n hn => by
    refine go_freeze (i := 10) rfl rfl (go_freeze (i := 7) rfl rfl ?_)
    have eb : EV ⟨H0, N, [], [some (Sc K ns), some (Nt 0), some (Nt 4), some (Nt 3), some (Il 9 sh), some (Nt g), some (Nt c), some (Li c fun _ => BR), none, none, some (Li n fun _ => LR), some (Il 18 f), none]⟩ (tVar 7) (Exr (fun a : Nat → (Nat → Rat) × (Nat → Rat) => ∀ k, k < c → PurS g (a k)) fun a => Li c fun k => Tp K [Fl K g (a k).1, Fl K g (a k).2]) := ev_sub (ev_var rfl) li_pick
    have el : EV ⟨H0, N, [], [some (Sc K ns), some (Nt 0), some (Nt 4), some (Nt 3), some (Il 9 sh), some (Nt g), some (Nt c), some (Li c fun _ => BR), none, none, some (Li n fun _ => LR), some (Il 18 f), none]⟩ (tVar 10) (Exr (fun a : Nat → Nat × Nat × Bool => ∀ k, k < n → (a k).1 < c ∧ (a k).2.1 < c) fun a => Li n fun k => Lnk K (a k)) := ev_sub (ev_var rfl) li_pick
    refine go_back rt (ev_sub (ev_tup (K := K) (eva_cons (ev_var rfl) (eva_cons eb (eva_cons el eva_nil)))) fun H v r => ?_)
    obtain ⟨a, vs, ev, hs, v1, r1, e1, p1, v2, r2, e2, ⟨ab, hab, p2⟩, v3, r3, e3, ⟨al, hal, p3⟩, e4⟩ := r
    exact ⟨⟨g, c, n, fun i => (ab i).1, fun i => (ab i).2, al⟩, ⟨g1, g4, hc, hn, fun i hi => (hab i hi).p, fun i hi => (hab i hi).a, fun i hi => (hab i hi).pos, hal⟩, a, vs, ev, hs, v1, r1, e1, p1, v2, r2, e2, p2, v3, r3, e3, p3, e4⟩
  refine go_if (et_test (ev_igt (ev_var rfl) ev_int)) (fun e => ?_) fun e => go_next fun σ H st => rest 0 (by decide) σ H ((st.mset rfl fun k hk => absurd hk (Nat.not_lt_zero k)).wk (by repeat first | exact Wk.nil | refine Wk.keep ?_ | refine Wk.drop ?_))
  have c0 : 0 < c := by
    have : (0 : Int) < (c : Int) := of_decide_eq_true e
    omega
  refine go_forR (n := sh 3 % 4) (α := Unit) (fun k _ => ⟨H0, N, [(pl, k, fun _ => LR), (pb, c, fun _ => BR)], [some (Sc K ns), some (Nt 0), some (Nt 4), some (Nt 3), some (Il 9 sh), some (Nt g), some (Nt c), some (Pt pb), none, none, some (Pt pl), some (Il 18 f), none]⟩) (fun _ _ => True) (eva_cons (ev_eq (ev_mod (ev_d (n := 9) (f := sh) (k := 3) (ev_var rfl) ev_int rfl (by decide)) (ev_iadd (ev_var rfl) ev_int) (by decide)) rfl) eva_nil) (by omega)
    ⟨(), trivial, fun σ H st => (st.mset rfl fun k hk => absurd hk (Nat.not_lt_zero k)).wk (by repeat first | exact Wk.nil | refine Wk.keep ?_ | refine Wk.drop ?_)⟩ (fun k _ hk _ => ?_) fun _ _ => rest _ (by omega)
  have hk : k < sh 3 % 4 := hk
  have hk3 : k < 3 := by omega
  have e3 : ∀ {M : Mt} {Γ : List (Option Rp)}, Γ[12]? = some (some (Nt k)) → EV ⟨H0, N, M, Γ⟩ (tOp (rI CMulW fun i j => .int (i * j)) (tC (.int 3)) (tVar 12)) (It (3 * (k : Int))) := fun {M Γ} hh => ev_imul ev_int (ev_var hh) (cm40 (by decide) (by omega))
  have e3c : ∀ {M : Mt} {Γ : List (Option Rp)} {c : Int}, Γ[12]? = some (some (Nt k)) → EV ⟨H0, N, M, Γ⟩ (tOp (rI0 fun i j => .int (i + j)) (tOp (rI CMulW fun i j => .int (i * j)) (tC (.int 3)) (tVar 12)) (tC (.int c))) (It (3 * (k : Int) + c)) := fun {M Γ c} hh => ev_iadd (e3 hh) ev_int
  refine go_app (M1 := []) rfl rfl (by omega) (R := LR) (ev_sub (ev_tup (K := K) (eva_cons (R := Nt (f (3 * k) % c)) (ev_eq (ev_mod (ev_d (n := 18) (f := f) (k := 3 * k) (ev_var rfl) (e3 rfl) (by omega) (by omega)) (ev_var rfl) (by omega)) rfl) (eva_cons (R := Nt (f (3 * k + 1) % c)) (ev_eq (ev_mod (ev_d (n := 18) (f := f) (k := 3 * k + 1) (ev_var rfl) (e3c rfl) (by omega) (by omega)) (ev_var rfl) (by omega)) rfl) (eva_cons (ev_op ot_eqI (ev_dm (n := 18) (f := f) (k := 3 * k + 2) (ev_var rfl) (e3c rfl) (by omega) (by omega) (by decide)) ev_int) eva_nil)))) fun H v r => ⟨(f (3 * k) % c, f (3 * k + 1) % c, decide (((f (3 * k + 2) : Nat) : Int) % 2 = 1)), ⟨Nat.mod_lt _ c0, Nat.mod_lt _ c0⟩, r⟩) fun σ H st => ⟨(), trivial, (st.mset rfl (snoc_at (fun _ _ => rfl) rfl)).wk (by repeat first | exact Wk.nil | refine Wk.keep ?_ | refine Wk.drop ?_)⟩
end
end BB
namespace BB
open PySem PySem.Spec PyProof.Rows L2
section
variable {S : Sta} {K : PySem.W.Frag} {te : TE}
theorem et_truth {n : Nat} {f : Nat → Rp} (h : EV S te (Li n f)) : ET S (fun σ H Q => te σ H fun x H' => ∃ k, TruV K x H' k ∧ Q k H') (decide (0 < n)) := fun σ H st Q q =>
  h σ H st _ fun v H' s ⟨a, vs, e, h1, h2, _⟩ => by
    subst e
    refine ⟨_, .inl ⟨vs, .inl (.inl (hid_sub _ _ h1)), rfl⟩, ?_⟩
    have : (!vs.isEmpty) = decide (0 < n) := by
      rw [← h2]
      cases vs <;> simp
    rw [this]
    exact q H' s
theorem evn_sub {n : Nat} {f f' : Nat → Rp} (h : EVN S te n f) (w : ∀ k, k < n → ∀ H v, (f k).p H v → (f' k).p H v) : EVN S te n f' := fun σ H st Q q =>
  h σ H st Q fun p vs H' s hp e l r => q p vs H' s hp e l fun k x z => w k (by rw [← l]; exact (List.getElem?_eq_some_iff.mp z).1) _ _ (r k x z)
end
section
variable {S : Sta} {nx : L2.St → Hp → Prop} {rt : VK} {bk ct : L2.St → Hp → Prop} {x : Nat} {tb : TS} {α : Type}
theorem go_forT {K : PySem.W.Frag} {tl : TE} {g : TG} {Rs : List Rp} (I : Hp → Nat → α → Sta) (S' : Hp → Nat → α → Sta) (P : Nat → α → Prop) (hn : EV S tl (Tp K Rs)) (hI : ∀ G k z, (I G k z).H0 = G ∧ (I G k z).N = S.N ∧ adr (I G k z).M = adr S.M)
    (h0 : ∀ G, ∃ z, P 0 z ∧ ∀ σ H, Stt { S with H0 := G } σ H → Stt (I G 0 z) σ H) (hg : ∀ G k z R, Rs[k]? = some R → GT (I G k z) g R (S' G k z))
    (hs : ∀ G k z, Same S.H0 G → k < Rs.length → P k z → Go (S' G k z) (tb ⟨fun σ H => ∃ z, P (k + 1) z ∧ Stt (I G (k + 1) z) σ H, rt, nx, fun σ H => ∃ z, P (k + 1) z ∧ Stt (I G (k + 1) z) σ H⟩))
    (hd : ∀ G z, Same S.H0 G → P Rs.length z → Go (I G Rs.length z) nx) : Go S (tFor (iTup K tl) g tb ⟨nx, rt, bk, ct⟩) := fun σ H st => by
  refine hn σ H st _ fun v H1 s1 ⟨a, vs, e, hv, hal⟩ => ?_
  subst e
  have st1 := st.mono s1
  obtain ⟨rb, up⟩ := st1.rebase
  refine ⟨a, rfl, ⟨vs, seqT hid_sub hv⟩, ?_⟩
  have hlv := hal.length
  have ha : ∀ {k z σ2 H2}, Stt (I (hid H1 (adr S.M)) k z) σ2 H2 → Same (hid H1 S.hd) (hid H2 (I (hid H1 (adr S.M)) k z).hd) := fun {k z σ2 H2} st2 => by
    obtain ⟨i1, i2, i3⟩ := hI (hid H1 (adr S.M)) k z
    have eh : (I (hid H1 (adr S.M)) k z).hd = S.hd := by
      unfold Sta.hd
      rw [i3, i2]
    rw [eh]
    have s2 := st2.same
    rw [i1] at s2
    intro b o q
    have nb : b ∉ S.hd := fun m => by
      have q' : (if b ∈ S.hd then none else H1 b) = some o := q
      rw [if_pos m] at q'; cases q'
    refine hid_out nb (s2 _ _ (hid_out (fun m => nb (List.mem_append_left _ m)) (hid_sub _ _ q)))
  refine for_tup (xs := vs) (fun k σ H => ∃ z, P k z ∧ Stt (I (hid H1 (adr S.M)) k z) σ H) ?_ (fun k σ2 H2 _ ⟨z, _, st2⟩ => seqT hid_sub (seqT (ha st2) hv)) (fun k y σ2 H2 hk ⟨z, hP, st2⟩ => ?_) fun σ2 H2 ⟨z, hP, st2⟩ => ?_
  · obtain ⟨z, hP, f⟩ := h0 (hid H1 (adr S.M))
    exact ⟨z, hP, f _ _ rb⟩
  · have hkn : k < Rs.length := by rw [← hlv]; exact (List.getElem?_eq_some_iff.mp hk).1
    obtain ⟨u, e1, e2⟩ := hal.get (i := k) (R := Rs[k]) (List.getElem?_eq_getElem hkn)
    rw [hk] at e1
    cases e1
    exact hg _ k z Rs[k] (List.getElem?_eq_getElem hkn) y σ2 H2 _ st2 ((Rs[k]).mono (ha st2) e2) fun σ3 st3 => hs _ k z up hkn hP σ3 H2 st3
  · rw [hlv] at hP
    rw [hlv] at st2
    exact hd _ z up hP σ2 H2 st2
end
section
variable {P : Program} {w : World} {K : PySem.W.Frag} {mg : Str → Option Value} {base : Heap}
/-! ### fractions -/
abbrev s_law_is_fraction : Stmt := (topS 72)
theorem sc_law_is_fraction : FnScope ["_law_x"] ["_law_x"] (defScope s_law_is_fraction) := ⟨rfl, rfl, rfl, by decide +kernel, rfl, by decide +kernel, by decide +kernel⟩

theorem tyx_tup {K : PySem.W.Frag} {Rs : List Rp} (H : Hp) (N : List Addr) (v : V) (r : (Tp K Rs).p (hid H N) v) : TyX K H v (.type "tuple") := by
  obtain ⟨a, vs, e, h, _⟩ := r
  subst e
  rcases h with (h | ⟨o, h⟩) | ⟨o, its, n, h, c, _⟩
  · exact .base (.tup (hid_sub _ _ h))
  · exact .fTuple (hid_sub _ _ h)
  · exact .kTuple h c
theorem tyx_lst {K : PySem.W.Frag} {n : Nat} {f : Nat → Rp} (H : Hp) (N : List Addr) (v : V) (r : (Li n f).p (hid H N) v) : TyX K H v (.type "list") := by
  obtain ⟨a, vs, e, h, _⟩ := r
  subst e
  exact .base (.lst (hid_sub _ _ h))
def sp_is_fraction (K : PySem.W.Frag) : Sp := spR (fun x : Rat => [Fr K x]) (fun x => x.den < 2 ^ 9000) (fun _ => Bo true)
theorem ok_is_fraction (G : Gb K mg) (F : Def0 K mg "_law_is_fraction" s_law_is_fraction ["_law_x"]) (d_law_is_integer : DefOk P w K mg base "_law_is_integer" 1 ["_law_x"] sp_is_integer) (d_law_gcd : DefOk P w K mg base "_law_gcd" 1 ["_law_a", "_law_b"] sp_law_gcd) : DefOk P w K mg base "_law_is_fraction" 2 ["_law_x"] (sp_is_fraction K) := by
  refine okD F sc_law_is_fraction (fun _ => rfl) (by decide) fun f cdv A outer s H E hr x hx => ⟨_, (pss_cons (ps_if (PW.pt (pw_or (pt_not (pt_val (pe_callB call_isi (by rfl) G.isinstance (by decide +kernel) (pa_cons (pv 0) (pa_cons (pe_bltn (v := .ty "tuple") (by rfl) G.tuple (by decide +kernel) rfl) pa_nil))))) (pw_or1 (pt_cmpR op_ne (pe_callB (r := rLenQ K) call_len_seq (by rfl) G.len PySem.boot_len (pa_cons (pv 0) pa_nil)) pe_int (nomark _))))) (pss_one (ps_ret pe_bl)) pss_nil)
        (pss_cons (ps_if (PW.pt (pw_or (pt_not (pt_val (pe_cd d_law_is_integer (hr.mono (by decide)) (by rfl) (pa_cons (pe_ix (r := rIxT K) ix_tup (pv 0) pe_int (fun _ _ => rfl)) pa_nil)))) (pw_or (pt_not (pt_val (pe_cd d_law_is_integer (hr.mono (by decide)) (by rfl) (pa_cons (pe_ix (r := rIxT K) ix_tup (pv 0) pe_int (fun _ _ => rfl)) pa_nil)))) (pw_or1 (pt_cmpR op_lt (pe_ix (r := rIxT K) ix_tup (pv 0) pe_int (fun _ _ => rfl)) pe_int (nomark _)))))) (pss_one (ps_ret pe_bl)) pss_nil)
        (pss_one (ps_ret (pe_cmpR op_eq (pe_cd d_law_gcd (hr.mono (by decide)) (by rfl) (pa_cons (pe_callB call_abs (by rfl) G.abs (by decide +kernel) (pa_cons (pe_ix (r := rIxT K) ix_tup (pv 0) pe_int (fun _ _ => rfl)) pa_nil)) (pa_cons (pe_ix (r := rIxT K) ix_tup (pv 0) pe_int (fun _ _ => rfl)) pa_nil))) pe_int (nomark _)))))), fun H0 N D rt => ?_⟩
  have hx : x.den < 2 ^ 9000 := hx
  have dp := x.den_pos
  refine go_seq (go_if (b := false) (et_or (a := false) (et_not (a := true) (et_test (ev_isi (R := Fr K x) tyx_tup (by rfl) (ev_var rfl) fun _ _ _ q => q))) fun _ => et_eq (et_test (ev_op ot_neI (ev_cb (ct_lenT (K := K)) (eva_cons (ev_var (R := Fr K x) rfl) eva_nil)) ev_int)) (by rfl)) (fun e => by cases e) fun _ => go_next (go_seq ?_))
  refine go_if (b := false) (et_or (a := false) (et_not (a := true) (et_B (ev_call (x.num : Int) (eva_cons (ev_num (ev_var rfl)) eva_nil) trivial))) fun _ => et_or (a := false) (et_not (a := true) (et_B (ev_call (x.den : Int) (eva_cons (ev_den (ev_var rfl)) eva_nil) trivial))) fun _ => et_eq (et_test (ev_ilt (ev_den (ev_var rfl)) ev_int)) (decide_eq_false (by omega))) (fun e => by cases e) fun _ => go_next ?_
  refine go_back rt (ev_eq (ev_op ot_eqI (ev_call (x.num.natAbs, x.den) (eva_cons (ev_abs (ev_num (ev_var rfl))) (eva_cons (ev_den (ev_var rfl)) eva_nil)) hx) ev_int) ?_)
  show Bo (decide (((Nat.gcd x.num.natAbs x.den : Nat) : Int) = 1)) = Bo true
  have : Nat.gcd x.num.natAbs x.den = 1 := x.reduced
  rw [this]
  rfl
abbrev s_law_are_fractions : Stmt := (topS 73)
theorem sc_law_are_fractions : FnScope ["_law_xs", "_law_many", "_law_x"] ["_law_xs", "_law_many"] (defScope s_law_are_fractions) := ⟨rfl, rfl, rfl, by decide +kernel, rfl, by decide +kernel, by decide +kernel⟩

def sp_are_fractions (K : PySem.W.Frag) : Sp := spR (fun z : Nat × (Nat → Rat) => [Fl K z.1 z.2, Nt z.1]) (fun z => z.1 ≤ 1000 ∧ ∀ k, k < z.1 → (z.2 k).den < 2 ^ 9000) (fun _ => Bo true)
theorem ok_are_fractions (G : Gb K mg) (F : Def0 K mg "_law_are_fractions" s_law_are_fractions ["_law_xs", "_law_many"]) (d_law_is_fraction : DefOk P w K mg base "_law_is_fraction" 2 ["_law_x"] (sp_is_fraction K)) : DefOk P w K mg base "_law_are_fractions" 3 ["_law_xs", "_law_many"] (sp_are_fractions K) := by
  refine okD F sc_law_are_fractions (fun _ => rfl) (by decide) fun f cdv A outer s H E hr ⟨n, x⟩ h => ⟨_, (pss_cons (ps_if (PW.pt (pw_or (pt_not (pt_val (pe_callB call_isi (by rfl) G.isinstance (by decide +kernel) (pa_cons (pv 0) (pa_cons (pe_bltn (v := .ty "list") (by rfl) G.list (by decide +kernel) rfl) pa_nil))))) (pw_or1 (pt_cmpR op_ne (pe_callB (r := rLenQ K) call_len_seq (by rfl) G.len PySem.boot_len (pa_cons (pv 0) pa_nil)) (pv 1) (nomark _))))) (pss_one (ps_ret pe_bl)) pss_nil)
        (pss_cons (ps_for PassesOwn.never rfl (pi_listK (K := K) rfl (pv 0)) (pg_name (i := 2) sc_law_are_fractions.nd rfl (.inl rfl)) (pss_one (ps_if (pt_not (pt_val (pe_cd d_law_is_fraction (hr.mono (by decide)) (by rfl) (pa_cons (pv 2) pa_nil)))) (pss_one (ps_ret pe_bl)) pss_nil)))
        (pss_one (ps_ret pe_bl)))), fun H0 N D rt => ?_⟩
  refine go_seq (go_if (b := false) (et_or (a := false) (et_not (a := true) (et_test (ev_isi (R := Fl K n x) tyx_lst (by rfl) (ev_var rfl) fun _ _ _ q => q))) fun _ => et_eq (et_test (ev_op ot_neI (ev_cb (ct_len (K := K)) (eva_cons (ev_var (R := Fl K n x) rfl) eva_nil)) (ev_var rfl))) (by simp)) (fun e => by cases e) fun _ => go_next (go_seq ?_))
  refine go_forL (α := Unit) (fun G' k _ => ⟨G', N, [], [some (Fl K n x), some (Nt n), none]⟩) (fun G' k _ => ⟨G', N, [], [some (Fl K n x), some (Nt n), some (Fr K (x k))]⟩) (fun _ _ => True) (ev_var rfl) (fun _ _ _ => ⟨rfl, rfl, rfl⟩) (fun G' => ⟨(), trivial, fun σ H st => st⟩) (fun _ _ _ _ => gt_name) (fun G' k _ s1 hk _ => ?_) fun G' _ s1 _ => go_back (rt.base s1) ev_bl
  exact go_if (b := false) (et_not (a := true) (et_B (ev_call (x k) (eva_cons (ev_var rfl) eva_nil) (h.2 k hk)))) (fun e => by cases e) fun _ => go_next fun σ H st => ⟨(), trivial, st.wk (by repeat first | exact Wk.nil | refine Wk.keep ?_ | refine Wk.drop ?_)⟩
end
end BB
namespace BB
open PySem PySem.Spec PyProof.Rows L2
section
variable {P : Program} {w : World} {K : PySem.W.Frag} {mg : Str → Option Value} {base : Heap}
/-! ### baskets -/
structure BkS (g : Nat) (x : Nat → Rat) : Prop where
  b : ∀ k, k < g → Bd 40 10 (x k) ∧ 0 ≤ x k
  pos : ∃ k, k < g ∧ 0 < x k
abbrev s_law_drawn_basket : Stmt := (topS 88)
theorem sc_law_drawn_basket : FnScope ["_law_row_here", "_law_goods", "_law_basket", "_law_k", "_law_x"] ["_law_row_here", "_law_goods"] (defScope s_law_drawn_basket) := ⟨rfl, rfl, rfl, by decide +kernel, rfl, by decide +kernel, by decide +kernel⟩

def sp_drawn_basket (K : PySem.W.Frag) : Sp := spR (fun z : (Nat → Nat) × Nat => [Il 9 z.1, Nt z.2]) (fun z => (∀ k, k < 9 → z.1 k < 1000) ∧ 1 ≤ z.2 ∧ z.2 ≤ 4) (fun z => Exr (BkS z.2) (Fl K z.2))
theorem ok_drawn_basket (G : Gb K mg) (F : Def0 K mg "_law_drawn_basket" s_law_drawn_basket ["_law_row_here", "_law_goods"]) (d_law_lowest : DefOk P w K mg base "_law_lowest" 2 ["_law_p", "_law_q"] (sp_law_lowest K)) : DefOk P w K mg base "_law_drawn_basket" 3 ["_law_row_here", "_law_goods"] (sp_drawn_basket K) := by
  refine okD F sc_law_drawn_basket (fun _ => rfl) (by decide) fun f cdv A outer s H E hr ⟨f, g⟩ h => ⟨_, (pss_cons (ps_setLc (i := 2) (own := [("_law_k", 3)]) (g := (gName 3)) (tt := tYes) rfl sc_law_drawn_basket.nd rfl rfl (sw_true rfl rfl rfl (by decide +kernel)) (pi_range1 (by rfl) G.range (pa_cons (pv 1) pa_nil)) (blkOk_by (N := ["_law_row_here", "_law_goods", "_law_basket", "_law_k", "_law_x"]) (own := [("_law_k", 3)]) (sc := (defScope s_law_drawn_basket)) (by decide +kernel)) (fun _ _ _ _ _ => (pg_name (i := 3) sc_law_drawn_basket.nd rfl (.inl rfl))) (fun _ _ _ _ _ => pts_nil) (fun _ _ _ _ _ => (pe_cd d_law_lowest (hr.mono (by decide)) (by rfl) (pa_cons (pe_op op_mod (pe_callTy call_int1 (by rfl) G.int (by decide +kernel) (pa_cons (pe_ix (r := rIxL K) ix_list (pv 0) (pe_op op_mulW pe_int (pv 3)) (fun _ _ => rfl)) pa_nil)) pe_int) (pa_cons (pe_op op_add pe_int (pe_op op_mod (pe_callTy call_int1 (by rfl) G.int (by decide +kernel) (pa_cons (pe_ix (r := rIxL K) ix_list (pv 0) (pe_op op_add (pe_op op_mulW pe_int (pv 3)) pe_int) (fun _ _ => rfl)) pa_nil)) pe_int)) pa_nil)))))
        (pss_cons (ps_if (pt_cmpR op_eq (pe_callB (r := rMax K) (cr_max rfl) (by rfl) G.max (by decide +kernel) (pa_cons (pe_lc (own := [("_law_x", 4)]) (g := (gName 4)) (tt := tYes) rfl sc_law_drawn_basket.nd (pi_listK (K := K) rfl (pv 2)) (blkOk_by (N := ["_law_row_here", "_law_goods", "_law_basket", "_law_k", "_law_x"]) (own := [("_law_x", 4)]) (sc := (defScope s_law_drawn_basket)) (by decide +kernel)) (fun _ _ _ _ _ => (pg_name (i := 4) sc_law_drawn_basket.nd rfl (.inl rfl))) (fun _ _ _ _ _ => pts_nil) (fun _ _ _ _ _ => (pe_ix (r := rIxT K) ix_tup (pv 4) pe_int (fun _ _ => rfl)))) pa_nil)) pe_int (nomark _)) (pss_one (ps_asg (pe_tup (pa_cons pe_int (pa_cons pe_int pa_nil))) (pg_sub (pv 2) (pe_op op_mod (pe_callTy call_int1 (by rfl) G.int (by decide +kernel) (pa_cons (pe_ix (r := rIxL K) ix_list (pv 0) pe_int (fun _ _ => rfl)) pa_nil)) (pv 1)) set_list))) pss_nil)
        (pss_one (ps_ret (pv 2))))), fun H0 N D rt => ?_⟩
  obtain ⟨hf, g1, g4⟩ := h
  have g1 : 1 ≤ g := g1
  have g4 : g ≤ 4 := g4
  have hf : ∀ k, k < 9 → f k < 1000 := hf
  have e2 : ∀ {M : Mt} {Γ : List (Option Rp)} {k : Nat}, k < 4 → Γ[3]? = some (some (Nt k)) → EV ⟨H0, N, M, Γ⟩ (tOp (rI CMulW fun i j => .int (i * j)) (tC (.int 2)) (tVar 3)) (It (2 * (k : Int))) := fun {M Γ k} hk hh => ev_imul ev_int (ev_var hh) (cm40 (by decide) (by omega))
  refine go_seq (go_new (n := g) (f := fun _ => AF K 3 3) (evn_lcR (n := g) (R := fun _ => AF K 3 3) (eva_cons (ev_var rfl) eva_nil) (by omega) fun Dq k hk => ev_low0 (a := 3) (b := 3) (ev_dm (n := 9) (f := f) (k := 2 * k) (ev_var rfl) (e2 (by omega) rfl) (by omega) (by omega) (by decide)) (ev_1p (ev_dm (n := 9) (f := f) (k := 2 * k + 1) (ev_var rfl) (ev_iadd (e2 (by omega) rfl) ev_int) (by omega) (by omega) (by decide))) (mod1_lt (a := 3) (by decide) (by decide)).2 (mod_lt (by decide) (by decide)).1 (mod1_lt (by decide) (by decide)).1 (by decide) (mod_lt (a := 3) (by decide) (by decide)).2) fun pa => go_openM (p := pa) rfl fun av hav => go_seq ?_)
  have fin : ∀ (bv : Nat → Rat), (∀ k, k < g → Bd 40 10 (bv k) ∧ 0 ≤ bv k) → (∃ k, k < g ∧ 0 < bv k) → ∀ {nx : L2.St → Hp → Prop} {bk ct : L2.St → Hp → Prop}, Go ⟨H0, N, [(pa, g, fun k => Fr K (bv k))], [some (Il 9 f), some (Nt g), some (Pt pa), none, none]⟩ (tRet (tVar 2) ⟨nx, D.rt, bk, ct⟩) := fun bv hb hp {nx bk ct} =>
    go_freeze (i := 2) rfl rfl (go_ex (f := Fl K g) rt bv ⟨hb, hp⟩ (ev_var rfl))
  have em : EV ⟨H0, N, [(pa, g, fun k => Fr K (av k))], [some (Il 9 f), some (Nt g), some (Pt pa), none, none]⟩ (tCB (rMax K) (tCons (tLc (iList K (tVar 2)) (gName 4) tYes (tOp (rIxT K) (tVar 4) (tC (.int 0))) [4]) tNil)) (Exr (fun m : Int => (∃ k, k < g ∧ m = (av k).num) ∧ ∀ k, k < g → (av k).num ≤ m) It) :=
    ev_cb (ct_max (by omega)) (eva_cons (evn_thaw (i := 2) (p := pa) (n := g) (f := fun k => Fr K (av k)) rfl rfl (fun _ => off_It) (evn_lcL (n := g) (R := fun k => It (av k).num) (ev_var rfl) (by omega) fun Dq k hk => ev_num (ev_var rfl))).ev eva_nil)
  have hav' : ∀ k, k < g → Bd 40 10 (av k) ∧ 0 ≤ av k := fun k hk => ⟨(hav k hk).1.mono (by decide) (by decide), (hav k hk).2⟩
  refine go_ifeqE em (fun _ => ?_) fun m ⟨⟨k0, hk0, em0⟩, _⟩ hm => go_next (fin av hav' ⟨k0, hk0, by
    have h1 := (hav k0 hk0).2
    have h2 : av k0 ≠ 0 := fun e => hm (by rw [em0, e]; rfl)
    grind⟩)
  have hlt : f 8 % g < g := Nat.mod_lt _ (by omega)
  refine go_put (M1 := []) (j := f 8 % g) rfl rfl (R := Fr K 1) (ev_eq (ev_tup (K := K) (eva_cons ev_int (eva_cons ev_int eva_nil))) rfl) (ev_mod (ev_d (n := 9) (f := f) (k := 8) (ev_var rfl) ev_int rfl (by decide)) (ev_var rfl) (by omega)) rfl hlt ?_
  exact fun σ H st => fin (fun k => if k = f 8 % g then 1 else av k) (fun k hk => by
    show Bd 40 10 (if k = f 8 % g then 1 else av k) ∧ 0 ≤ (if k = f 8 % g then 1 else av k)
    by_cases c : k = f 8 % g
    · rw [if_pos c]; exact ⟨Bd.one.mono (by decide) (by decide), by decide⟩
    · rw [if_neg c]; exact hav' k hk) ⟨f 8 % g, hlt, by
    show 0 < (if f 8 % g = f 8 % g then 1 else av (f 8 % g))
    rw [if_pos rfl]; decide⟩ σ H (st.mset rfl (put_to (fun k _ hne => by rw [if_neg hne]) (by rw [if_pos rfl])))
abbrev s_law_lifted : Stmt := (topS 89)
theorem sc_law_lifted : FnScope ["_law_buys", "_law_rows", "_law_basket", "_law_factor", "_law_j", "_law_price", "_law_money", "_law_needed"] ["_law_buys", "_law_rows", "_law_basket"] (defScope s_law_lifted) := ⟨rfl, rfl, rfl, by decide +kernel, rfl, by decide +kernel, by decide +kernel⟩

structure WkS (d : DataV) (T : Nat → Option Bool) (y : Nat → Rat) : Prop where
  b : ∀ k, k < d.g → Bd 1000 1000 (y k) ∧ 0 ≤ y k
  k : ∀ j, j < d.c → ∀ t, T j = some t → d.sp j ≤ d.val j y
structure LiV where
  d : DataV
  T : Nat → Option Bool
  x : Nat → Rat
structure LiOk (z : LiV) : Prop where
  d : DOk z.d
  p : ∀ i, i < z.d.c → ∀ k, k < z.d.g → 0 < z.d.pr i k
  a : ∀ i, i < z.d.c → ∀ k, k < z.d.g → 0 ≤ z.d.am i k
  x : BkS z.d.g z.x
def sp_law_lifted (K : PySem.W.Frag) : Sp := spR (fun z : LiV => [Buys K z.d, Row z.d.c z.T, Fl K z.d.g z.x]) LiOk (fun z => Exr (fun y => (∀ k, k < z.d.g → Bd 800 800 (y k)) ∧ WkS z.d z.T y) (Fl K z.d.g))
theorem ok_law_lifted (G : Gb K mg) (F : Def0 K mg "_law_lifted" s_law_lifted ["_law_buys", "_law_rows", "_law_basket"]) (d_law_dot : DefOk P w K mg base "_law_dot" 1 ["_law_a", "_law_b"] (sp_law_dot K)) (d_law_over : DefOk P w K mg base "_law_over" 1 ["_law_a", "_law_b"] (sp_law_over K))
    (d_law_scaled : DefOk P w K mg base "_law_scaled" 3 ["_law_basket", "_law_p", "_law_q"] (sp_law_scaled K)) : DefOk P w K mg base "_law_lifted" 4 ["_law_buys", "_law_rows", "_law_basket"] (sp_law_lifted K) := by
  refine okD F sc_law_lifted (fun _ => rfl) (by decide) fun f cdv A outer s H E hr ⟨d, T, x⟩ h => ⟨_, (pss_cons (ps_set (i := 3) sc_law_lifted.nd rfl (.inl rfl) (pe_tup (pa_cons pe_int (pa_cons pe_int pa_nil))))
        (pss_cons (ps_for PassesOwn.never rfl (pi_range1 (by rfl) G.range (pa_cons (pe_callB (r := rLenQ K) call_len_seq (by rfl) G.len PySem.boot_len (pa_cons (pv 0) pa_nil)) pa_nil)) (pg_name (i := 4) sc_law_lifted.nd rfl (.inl rfl)) (pss_one (ps_if (pt_cmpR op_notN (pe_ix (r := rIxL K) ix_list (pv 1) (pv 4) (fun _ _ => rfl)) pe_non (nomark _)) (pss_cons (ps_set (i := 5) sc_law_lifted.nd rfl (.inl rfl) (pe_cd d_law_dot (hr.mono (by decide)) (by rfl) (pa_cons (pe_ix (r := rIxT K) ix_tup (pe_ix (r := rIxL K) ix_list (pv 0) (pv 4) (fun _ _ => rfl)) pe_int (fun _ _ => rfl)) (pa_cons (pv 2) pa_nil))))
        (pss_cons (ps_set (i := 6) sc_law_lifted.nd rfl (.inl rfl) (pe_cd d_law_dot (hr.mono (by decide)) (by rfl) (pa_cons (pe_ix (r := rIxT K) ix_tup (pe_ix (r := rIxL K) ix_list (pv 0) (pv 4) (fun _ _ => rfl)) pe_int (fun _ _ => rfl)) (pa_cons (pe_ix (r := rIxT K) ix_tup (pe_ix (r := rIxL K) ix_list (pv 0) (pv 4) (fun _ _ => rfl)) pe_int (fun _ _ => rfl)) pa_nil))))
        (pss_cons (ps_set (i := 7) sc_law_lifted.nd rfl (.inl rfl) (pe_tup (pa_cons (pe_op op_mulW (pe_ix (r := rIxT K) ix_tup (pv 6) pe_int (fun _ _ => rfl)) (pe_ix (r := rIxT K) ix_tup (pv 5) pe_int (fun _ _ => rfl))) (pa_cons (pe_op op_mulW (pe_ix (r := rIxT K) ix_tup (pv 6) pe_int (fun _ _ => rfl)) (pe_ix (r := rIxT K) ix_tup (pv 5) pe_int (fun _ _ => rfl))) pa_nil))))
        (pss_one (ps_if (pt_cmpR op_gt (pe_cd d_law_over (hr.mono (by decide)) (by rfl) (pa_cons (pv 7) (pa_cons (pv 3) pa_nil))) pe_int (nomark _)) (pss_one (ps_set (i := 3) sc_law_lifted.nd rfl (.inl rfl) (pv 7))) pss_nil))))) pss_nil)))
        (pss_one (ps_ret (pe_cd d_law_scaled (hr.mono (by decide)) (by rfl) (pa_cons (pv 2) (pa_cons (pe_ix (r := rIxT K) ix_tup (pv 3) pe_int (fun _ _ => rfl)) (pa_cons (pe_ix (r := rIxT K) ix_tup (pv 3) pe_int (fun _ _ => rfl)) pa_nil)))))))), fun H0 N D rt => ?_⟩
  have D' : DOk d := h.d
  have hp : ∀ i, i < d.c → ∀ k, k < d.g → 0 < d.pr i k := h.p
  have ha : ∀ i, i < d.c → ∀ k, k < d.g → 0 ≤ d.am i k := h.a
  have hx : BkS d.g x := h.x
  have hc := D'.c
  have vp : ∀ j, j < d.c → 0 < d.val j x := fun j hj => by
    obtain ⟨k, hk, hxk⟩ := hx.pos
    have h4 := sm_ge1 (f := fun k => d.pr j k * x k) hk fun i hi => Rat.mul_nonneg (Rat.le_of_lt (hp j hj i hi)) (hx.b i hi).2
    exact Std.lt_of_lt_of_le (Rat.mul_pos (hp j hj k hk) hxk) h4
  have spn : ∀ j, j < d.c → 0 ≤ d.sp j := fun j hj => sm_nn fun k hk => Rat.mul_nonneg (Rat.le_of_lt (hp j hj k hk)) (ha j hj k hk)
  refine go_seq (go_set (R := Pr2 K (0, 1)) (ev_tup (eva_cons ev_int (eva_cons ev_int eva_nil))) (go_seq ?_))
  refine go_forR (n := d.c) (α := (Int × Int) × Rat) (fun k z => ⟨H0, N, [], [some (Buys K d), some (Row d.c T), some (Fl K d.g x), some (Pr2 K z.1), none, none, none, none]⟩) (fun k z => Pq z.2 656 z.1 ∧ 0 ≤ z.2 ∧ ∀ j, j < k → ∀ t, T j = some t → d.sp j ≤ z.2 * d.val j x) (eva_cons (ev_cb ct_len (eva_cons (ev_var rfl) eva_nil)) eva_nil) (by omega)
    ⟨((0, 1), 0), ⟨⟨by decide, by show ((0 : Int) : Rat) = 0 * _; rw [Rat.zero_mul]; rfl, two_pos _, Nat.one_lt_two_pow (by decide)⟩, Rat.le_refl, fun j hj => absurd hj (Nat.not_lt_zero j)⟩, fun σ H st => st.wk (by repeat first | exact Wk.nil | refine Wk.keep ?_ | refine Wk.drop ?_)⟩ (fun k ⟨z, u⟩ hk ⟨hz, hu, I⟩ => ?_) fun ⟨z, u⟩ ⟨hz, hu, I⟩ => ?_
  · have hk : k < d.c := hk
    have hz : Pq u 656 z := hz
    have hu : 0 ≤ u := hu
    have I : ∀ j, j < k → ∀ t, T j = some t → d.sp j ≤ u * d.val j x := I
    have er : ∀ {a b c e : Option Rp}, EV ⟨H0, N, [], [some (Buys K d), some (Row d.c T), some (Fl K d.g x), a, some (Nt k), b, c, e]⟩ (tOp (rIxL K) (tVar 1) (tVar 4)) (Ob (T k)) := fun {a b c e} => ev_op (ot_ixL (R := fun j => Ob (T j)) rfl hk) (ev_var rfl) (ev_var rfl)
    have ep : ∀ {a b c e : Option Rp}, EV ⟨H0, N, [], [some (Buys K d), some (Row d.c T), some (Fl K d.g x), a, some (Nt k), b, c, e]⟩ (tOp (rIxT K) (tOp (rIxL K) (tVar 0) (tVar 4)) (tC (.int 0))) (Fl K d.g (d.pr k)) := fun {a b c e} => ev_op (ot_ixT (k := 0) rfl rfl) (ev_op (ot_ixL (R := fun i => Buy K d.g (d.pr i) (d.am i)) rfl hk) (ev_var rfl) (ev_var rfl)) ev_int
    cases eT : T k with
    | none =>
      rw [eT] at er
      refine go_if (b := false) (et_test (ev_op (ot_notN ob_none) er ev_non)) (fun e => by cases e) fun _ => go_next fun σ H st => ⟨(z, u), ⟨hz, hu, fun j hj t et => ?_⟩, st.wk (by repeat first | exact Wk.nil | refine Wk.keep ?_ | refine Wk.drop ?_)⟩
      by_cases c : j = k
      · subst c; rw [eT] at et; cases et
      · exact I j (by omega) t et
    | some t0 =>
      rw [eT] at er
      refine go_if (b := true) (et_test (ev_op (ot_notN ob_none) er ev_non)) (fun _ => ?_) fun e => by cases e
      refine go_seq (go_set (ev_call (⟨d.g, 40, d.pr k, x⟩ : LdV) (eva_cons ep (eva_cons (ev_var rfl) eva_nil)) ⟨D'.g, show 1 ≤ 40 by decide, show 40 ≤ 1500 by decide, fun i hi => (D'.pr k hk i hi).mono (show 40 ≤ 40 by decide) (show 10 ≤ 40 by decide), fun i hi => (hx.b i hi).1.mono (show 40 ≤ 40 by decide) (show 10 ≤ 40 by decide)⟩) (go_open (i := 5) rfl fun zp hzp => go_seq ?_))
      refine go_set (ev_call (⟨d.g, 40, d.pr k, d.am k⟩ : LdV) (eva_cons ep (eva_cons (ev_op (ot_ixT (k := 1) rfl rfl) (ev_op (ot_ixL (R := fun i => Buy K d.g (d.pr i) (d.am i)) rfl hk) (ev_var rfl) (ev_var rfl)) ev_int) eva_nil)) ⟨D'.g, show 1 ≤ 40 by decide, show 40 ≤ 1500 by decide, fun i hi => (D'.pr k hk i hi).mono (show 40 ≤ 40 by decide) (show 10 ≤ 40 by decide), fun i hi => (D'.am k hk i hi).mono (show 40 ≤ 40 by decide) (show 10 ≤ 40 by decide)⟩) (go_open (i := 6) rfl fun zm hzm => go_seq ?_)
      have hzp : Pq (d.val k x) 328 zp := hzp
      have hzm : Pq (d.sp k) 328 zm := hzm
      have vk := vp k hk
      have vkn : d.val k x ≠ 0 := Rat.ne_of_gt vk
      have p0 : 0 < zp.1 := Classical.byContradiction fun c => absurd vk (Rat.not_lt.mpr (hzp.sgn.2.1.mp (by omega)))
      have hq : Pq (d.sp k / d.val k x) 656 (zm.1 * zp.2, zm.2 * zp.1) := ⟨Int.mul_pos hzm.pos p0, by
        show ((zm.1 * zp.2 : Int) : Rat) = d.sp k / d.val k x * ((zm.2 * zp.1 : Int) : Rat)
        have e : d.sp k / d.val k x * d.val k x = d.sp k := Rat.div_mul_cancel vkn
        rw [Rat.intCast_mul, Rat.intCast_mul, hzm.val, hzp.val]
        have e2 : d.sp k / d.val k x * ((zm.2 : Rat) * (d.val k x * (zp.2 : Rat))) = (d.sp k / d.val k x * d.val k x) * ((zm.2 : Rat) * (zp.2 : Rat)) := by grind
        rw [e2, e]
        grind, nabs_mul hzm.n hzp.d, nabs_mul hzm.d hzp.n⟩
      refine go_set (R := Pr2 K (zm.1 * zp.2, zm.2 * zp.1)) (ev_tup (eva_cons (ev_imul (ev_p1 (ev_var rfl)) (ev_p2 (ev_var rfl)) (mulW (nabs_up hzm.n) (nabs_up hzp.d))) (eva_cons (ev_imul (ev_p2 (ev_var rfl)) (ev_p1 (ev_var rfl)) (mulW (nabs_up hzm.d) (nabs_up hzp.n))) eva_nil))) ?_
      have cn : d.sp k / d.val k x * d.val k x = d.sp k := Rat.div_mul_cancel vkn
      refine go_if (et_test (ev_gtE (b := decide (u < d.sp k / d.val k x)) (ev_over (ev_sub (ev_var rfl) fun H v r => ⟨_, hq, r⟩) (ev_sub (ev_var rfl) fun H v r => ⟨_, hz, r⟩) (by decide) (by decide)) fun o ho => ?_)) (fun e => ?_) fun e => go_next fun σ H st => ⟨(z, u), ⟨hz, hu, fun j hj t et => ?_⟩, st.wk (by repeat first | exact Wk.nil | refine Wk.keep ?_ | refine Wk.drop ?_)⟩
      · refine decide_eq_decide.mpr ?_
        have := ho.le
        constructor
        · intro y
          exact Rat.not_le.mp fun c => by
            have := this.mpr c
            omega
        · intro y
          exact Classical.byContradiction fun c => absurd (this.mp (by omega)) (Rat.not_le.mpr y)
      · have e' : u < d.sp k / d.val k x := of_decide_eq_true e
        refine go_set (ev_var rfl) fun σ H st => ⟨((zm.1 * zp.2, zm.2 * zp.1), d.sp k / d.val k x), ⟨hq, Rat.le_of_lt (Std.lt_of_le_of_lt hu e'), fun j hj t et => ?_⟩, st.wk (by repeat first | exact Wk.nil | refine Wk.keep ?_ | refine Wk.drop ?_)⟩
        by_cases c : j = k
        · subst c
          show d.sp j ≤ d.sp j / d.val j x * d.val j x
          rw [cn]; exact Rat.le_refl
        · have h1 := I j (by omega) t et
          exact Rat.le_trans h1 (Rat.mul_le_mul_of_nonneg_right (Rat.le_of_lt e') (Rat.le_of_lt (vp j (by omega))))
      · by_cases c : j = k
        · subst c
          have h1 : d.sp j / d.val j x ≤ u := Rat.not_lt.mp (of_decide_eq_false e)
          have h2 := Rat.mul_le_mul_of_nonneg_right h1 (Rat.le_of_lt vk)
          rw [cn] at h2
          exact h2
        · exact I j (by omega) t et
  · have hz : Pq u 656 z := hz
    have hu : 0 ≤ u := hu
    have eu : Rat.divInt z.1 z.2 = u := hz.div
    refine go_ex (f := Fl K d.g) rt (fun k => x k * u) ⟨fun k hk => ((hx.b k hk).1.mul hz.bd).mono (by decide) (by decide), fun k hk => ⟨((hx.b k hk).1.mul hz.bd).mono (by decide) (by decide), Rat.mul_nonneg (hx.b k hk).2 hu⟩, fun j hj t et => ?_⟩ (ev_eq (ev_call (⟨d.g, x, z⟩ : SaV) (eva_cons (ev_var rfl) (eva_cons (ev_p1 (ev_var rfl)) (eva_cons (ev_p2 (ev_var rfl)) eva_nil))) ⟨D'.g, fun k hk => (hx.b k hk).1.mono (by decide) (by decide), hz.pos, nabs_up hz.n (by decide), nabs_up hz.d (by decide)⟩) (by rw [← eu]))
    have h1 : d.sp j ≤ u * d.val j x := I j hj t et
    have h2 : d.val j (fun k => x k * u) = u * d.val j x := by
      show sm d.g (fun k => d.pr j k * (x k * u)) = u * sm d.g fun k => d.pr j k * x k
      rw [← sm_mul]
      exact sm_congr fun k _ => by grind
    rw [h2]
    exact h1
end
end BB
namespace BB
open PySem PySem.Spec PyProof.Rows L2
section
variable {P : Program} {w : World} {K : PySem.W.Frag} {mg : Str → Option Value} {base : Heap}
theorem LawD.dok {d : DataV} (h : LawD d) : DOk d := ⟨h.g, h.c, h.l, fun i hi k hk => (h.pr i hi k hk).1, fun i hi k hk => (h.am i hi k hk).1, h.lk⟩
abbrev s_law_baskets : Stmt := (topS 90)
theorem sc_law_baskets : FnScope ["_law_script", "_law_goods", "_law_buys", "_law_rows", "_law_found", "_law_place", "_law_baskets_here", "_law_basket", "_law_least", "_law_one"] ["_law_script", "_law_goods", "_law_buys", "_law_rows"] (defScope s_law_baskets) := ⟨rfl, rfl, rfl, by decide +kernel, rfl, by decide +kernel, by decide +kernel⟩

structure BaV where
  ns : List Int
  d : DataV
  T : Nat → Option Bool
abbrev WkR (K : PySem.W.Frag) (d : DataV) (T : Nat → Option Bool) : Rp := Exr (WkS d T) (Fl K d.g)
def sp_law_baskets (K : PySem.W.Frag) : Sp := spR (fun z : BaV => [Sc K z.ns, Nt z.d.g, Buys K z.d, Row z.d.c z.T]) (fun z => LawD z.d) (fun z => Li (2 * (z.d.c + 3)) fun _ => WkR K z.d z.T)
theorem ok_law_baskets (G : Gb K mg) (F : Def0 K mg "_law_baskets" s_law_baskets ["_law_script", "_law_goods", "_law_buys", "_law_rows"]) (d_law_row : DefOk P w K mg base "_law_row" 1 ["_law_script", "_law_place", "_law_many"] (sp_law_row K)) (d_law_drawn_basket : DefOk P w K mg base "_law_drawn_basket" 3 ["_law_row_here", "_law_goods"] (sp_drawn_basket K))
    (d_law_lifted : DefOk P w K mg base "_law_lifted" 4 ["_law_buys", "_law_rows", "_law_basket"] (sp_law_lifted K)) (d_law_scaled : DefOk P w K mg base "_law_scaled" 3 ["_law_basket", "_law_p", "_law_q"] (sp_law_scaled K)) : DefOk P w K mg base "_law_baskets" 5 ["_law_script", "_law_goods", "_law_buys", "_law_rows"] (sp_law_baskets K) := by
  refine okD F sc_law_baskets (fun _ => rfl) (by decide) fun f cdv A outer s H E hr ⟨ns, d, T⟩ h => ⟨_, (pss_cons (ps_setLc (i := 4) (own := [("_law_one", 9)]) (g := (gName 9)) (tt := tYes) rfl sc_law_baskets.nd rfl rfl (sw_true rfl rfl rfl (by decide +kernel)) (pi_listK (K := K) rfl (pv 2)) (blkOk_by (N := ["_law_script", "_law_goods", "_law_buys", "_law_rows", "_law_found", "_law_place", "_law_baskets_here", "_law_basket", "_law_least", "_law_one"]) (own := [("_law_one", 9)]) (sc := (defScope s_law_baskets)) (by decide +kernel)) (fun _ _ _ _ _ => (pg_name (i := 9) sc_law_baskets.nd rfl (.inl rfl))) (fun _ _ _ _ _ => pts_nil) (fun _ _ _ _ _ => (pe_ix (r := rIxT K) ix_tup (pv 9) pe_int (fun _ _ => rfl))))
        (pss_cons (ps_for PassesOwn.never rfl (pi_tupK (K := K) rfl (pe_tup (pa_cons pe_int (pa_cons pe_int (pa_cons pe_int pa_nil))))) (pg_name (i := 5) sc_law_baskets.nd rfl (.inl rfl)) (pss_one (ps_expr (pe_appK (K := K) rfl (pv 4) (pa_cons (pe_cd d_law_drawn_basket (hr.mono (by decide)) (by rfl) (pa_cons (pe_cd d_law_row (hr.mono (by decide)) (by rfl) (pa_cons (pv 0) (pa_cons (pv 5) (pa_cons pe_int pa_nil)))) (pa_cons (pv 1) pa_nil))) pa_nil)))))
        (pss_cons (ps_set (i := 6) sc_law_baskets.nd rfl (.inl rfl) (pe_lst pa_nil))
        (pss_cons (ps_for PassesOwn.never rfl (pi_listK (K := K) rfl (pv 4)) (pg_name (i := 7) sc_law_baskets.nd rfl (.inl rfl)) (pss_cons (ps_set (i := 8) sc_law_baskets.nd rfl (.inl rfl) (pe_cd d_law_lifted (hr.mono (by decide)) (by rfl) (pa_cons (pv 2) (pa_cons (pv 3) (pa_cons (pv 7) pa_nil)))))
        (pss_one (ps_set (i := 6) sc_law_baskets.nd rfl (.inl rfl) (pe_op op_cat (pv 6) (pe_lst (pa_cons (pv 8) (pa_cons (pe_cd d_law_scaled (hr.mono (by decide)) (by rfl) (pa_cons (pv 8) (pa_cons pe_int (pa_cons pe_int pa_nil)))) pa_nil))))))))
        (pss_one (ps_ret (pv 6))))))), fun H0 N D rt => ?_⟩
  have L : LawD d := h
  have hc := L.c
  refine go_seq (go_new (n := d.c) (f := fun _ => Exr (BkS d.g) (Fl K d.g)) (evn_sub (evn_lcL (n := d.c) (R0 := fun i => Buy K d.g (d.pr i) (d.am i)) (R := fun i => Fl K d.g (d.am i)) (ev_var rfl) (by omega) fun Dq i hi => ev_op (ot_ixT (k := 1) rfl rfl) (ev_var rfl) ev_int) fun i hi H v r => ⟨d.am i, ⟨L.am i hi, L.pos i hi⟩, r⟩) fun p => go_seq ?_)
  refine go_forT (α := Unit) (Rs := [Nt 12, Nt 13, Nt 14]) (fun G' k _ => ⟨G', N, [(p, d.c + k, fun _ => Exr (BkS d.g) (Fl K d.g))], [some (Sc K ns), some (Nt d.g), some (Buys K d), some (Row d.c T), some (Pt p), none, none, none, none, none]⟩)
    (fun G' k _ => ⟨G', N, [(p, d.c + k, fun _ => Exr (BkS d.g) (Fl K d.g))], [some (Sc K ns), some (Nt d.g), some (Buys K d), some (Row d.c T), some (Pt p), some (Exr (fun n : Nat => n ≤ 100) Nt), none, none, none, none]⟩) (fun _ _ => True) (ev_tup (K := K) (eva_cons ev_int (eva_cons ev_int (eva_cons ev_int eva_nil)))) (fun _ _ _ => ⟨rfl, rfl, rfl⟩) (fun G' => ⟨(), trivial, fun σ H st => st⟩) (fun G' k z R hR => ?_) (fun G' k _ s1 hk _ => ?_) fun G' _ s1 _ => ?_
  · have key : ∀ (H : Hp) (v : V), R.p H v → (Exr (fun n : Nat => n ≤ 100) Nt).p H v := fun H v r => by
      rcases k with _ | _ | _ | k
      · have e : R = Nt 12 := (Option.some.inj hR).symm
        subst e; exact ⟨12, by decide, r⟩
      · have e : R = Nt 13 := (Option.some.inj hR).symm
        subst e; exact ⟨13, by decide, r⟩
      · have e : R = Nt 14 := (Option.some.inj hR).symm
        subst e; exact ⟨14, by decide, r⟩
      · cases hR
    exact fun x σ H Q st r q => gt_name (S := ⟨G', N, [(p, d.c + k, fun _ => Exr (BkS d.g) (Fl K d.g))], [some (Sc K ns), some (Nt d.g), some (Buys K d), some (Row d.c T), some (Pt p), none, none, none, none, none]⟩) (i := 5) x σ H Q st (key _ _ r) q
  · have hk : k < 3 := hk
    refine go_open (i := 5) rfl fun pl hpl => ?_
    refine go_app (M1 := []) rfl rfl (by omega) (R := Exr (BkS d.g) (Fl K d.g)) (ev_callE (Rs := [Exr (fun f : Nat → Nat => ∀ k, k < 9 → f k < 1000) (Il 9), Nt d.g]) (eva_cons (ev_call (⟨ns, pl, 9⟩ : RowV) (eva_cons (ev_var rfl) (eva_cons (ev_var rfl) (eva_cons ev_int eva_nil))) ⟨hpl, show 9 ≤ 100 by decide⟩) (eva_cons (ev_var rfl) eva_nil)) fun H vs q => ?_) fun σ H st => ⟨(), trivial, (st.mset rfl (snoc_at (fun _ _ => rfl) rfl)).wk (by repeat first | exact Wk.nil | refine Wk.keep ?_ | refine Wk.drop ?_)⟩
    obtain ⟨v, u, rfl, ⟨f, hf, rf⟩, r2⟩ := al2 q
    exact ⟨(f, d.g), al2' rf r2, ⟨hf, L.g1, L.g⟩, fun _ _ h => h⟩
  refine go_freeze (i := 4) rfl rfl (go_seq (go_set (R := Li (2 * 0) fun _ => WkR K d T) (ev_sub (evn_lst eva_nil).ev (li_sub (n := 0) fun k hk => absurd hk (Nat.not_lt_zero k))) (go_seq ?_)))
  refine go_forL (n := d.c + 3) (α := Unit) (fun G' k _ => ⟨G', N, [], [some (Sc K ns), some (Nt d.g), some (Buys K d), some (Row d.c T), some (Li (d.c + 3) fun _ => Exr (BkS d.g) (Fl K d.g)), none, some (Li (2 * k) fun _ => WkR K d T), none, none, none]⟩)
    (fun G' k _ => ⟨G', N, [], [some (Sc K ns), some (Nt d.g), some (Buys K d), some (Row d.c T), some (Li (d.c + 3) fun _ => Exr (BkS d.g) (Fl K d.g)), none, some (Li (2 * k) fun _ => WkR K d T), some (Exr (BkS d.g) (Fl K d.g)), none, none]⟩) (fun _ _ => True) (ev_var rfl) (fun _ _ _ => ⟨rfl, rfl, rfl⟩) (fun G' => ⟨(), trivial, fun σ H st => st.wk (by repeat first | exact Wk.nil | refine Wk.keep ?_ | refine Wk.drop ?_)⟩) (fun _ _ _ _ => gt_name) (fun G2 k _ s2 hk _ => ?_) fun G2 _ s2 _ => go_back (rt.base (s1.trans s2)) (ev_var rfl)
  refine go_open (i := 7) rfl fun x hx => go_seq (go_set (ev_call (⟨d, T, x⟩ : LiV) (eva_cons (ev_var rfl) (eva_cons (ev_var rfl) (eva_cons (ev_var rfl) eva_nil))) ⟨L.dok, fun i hi k hk => (L.pr i hi k hk).2, fun i hi k hk => (L.am i hi k hk).2, hx⟩) (go_open (i := 8) rfl fun y hy => ?_))
  obtain ⟨hb, hw⟩ := hy
  have hb : ∀ k, k < d.g → Bd 800 800 (y k) := hb
  have hw : WkS d T y := hw
  have spn : ∀ j, j < d.c → 0 ≤ d.val j y := fun j hj => sm_nn fun k hk => Rat.mul_nonneg (Rat.le_of_lt (L.pr j hj k hk).2) (hw.b k hk).2
  have b101 : Bd 7 7 (Rat.divInt 101 100) := (low_bd (p := 101) (q := 100) (by decide) (by decide) (by decide)).1
  have n101 : 0 ≤ Rat.divInt 101 100 := (low_bd (p := 101) (q := 100) (a := 7) (b := 7) (by decide) (by decide) (by decide)).2.2.1 (by decide)
  have g101 : (1 : Rat) ≤ Rat.divInt 101 100 := by rw [Rat.divInt_eq_div]; decide +kernel
  have hw2 : WkS d T (fun k => y k * Rat.divInt 101 100) := ⟨fun k hk => ⟨((hb k hk).mul b101).mono (by decide) (by decide), Rat.mul_nonneg (hw.b k hk).2 n101⟩, fun j hj t et => by
    have h1 := hw.k j hj t et
    have h2 : d.val j (fun k => y k * Rat.divInt 101 100) = d.val j y * Rat.divInt 101 100 := by
      show sm d.g (fun k => d.pr j k * (y k * Rat.divInt 101 100)) = (sm d.g fun k => d.pr j k * y k) * Rat.divInt 101 100
      rw [← sm_mulr]
      exact sm_congr fun k _ => by grind
    rw [h2]
    have h3 := Rat.mul_le_mul_of_nonneg_left g101 (spn j hj)
    rw [Rat.mul_one] at h3
    exact Rat.le_trans h1 h3⟩
  refine go_set (R := Li (2 * (k + 1)) fun _ => WkR K d T) (evn_eq (g := fun _ => WkR K d T) (evn_cat (n := 2 * k) (m := 2) (R := fun _ => WkR K d T) (R' := fun _ => WkR K d T) (ev_var rfl) (ev_sub (evn_lst (eva_cons (R := WkR K d T) (ev_sub (ev_var rfl) fun H v r => ⟨y, hw, r⟩) (eva_cons (R := WkR K d T) (ev_sub (ev_call (⟨d.g, y, (101, 100)⟩ : SaV) (eva_cons (ev_var rfl) (eva_cons ev_int (eva_cons ev_int eva_nil))) ⟨L.g, fun k hk => (hb k hk).mono (by decide) (by decide), show (0 : Int) < 100 by decide, nabs_up (i := 101) (a := 7) (by decide) (by decide), nabs_up (i := 100) (a := 7) (by decide) (by decide)⟩) fun H v r => ⟨_, hw2, r⟩) eva_nil))).ev (li_sub (n := 2) fun j hj H v r => ?_)) (by omega)) (by omega) fun j hj => ?_).ev fun σ H st => ⟨(), trivial, st.wk (by repeat first | exact Wk.nil | refine Wk.keep ?_ | refine Wk.drop ?_)⟩
  · rcases j with _ | _ | j
    · exact r
    · exact r
    · omega
  · unfold glue
    split <;> rfl
end
end BB
namespace BB
open PySem PySem.Spec PyProof.Rows L2
section
variable {P : Program} {w : World} {K : PySem.W.Frag} {mg : Str → Option Value} {base : Heap}
theorem ev_madd {S : Sta} {ta tb : TE} {x y : Int × Int} {E : XK} (ha : EV S ta (Pr2 K x)) (hb : EV S tb (Pr2 K y)) (h : PpO (x, y)) : EV S (tCall (sp_law_add K) [] E (tCons ta (tCons tb tNil))) (Pr2 K (x.1 * y.2 + y.1 * x.2, x.2 * y.2)) := ev_call (x, y) (eva_cons ha (eva_cons hb eva_nil)) h
theorem ev_mmul {S : Sta} {ta tb : TE} {x y : Int × Int} {E : XK} (ha : EV S ta (Pr2 K x)) (hb : EV S tb (Pr2 K y)) (h : PpO (x, y)) : EV S (tCall (sp_law_mul K) [] E (tCons ta (tCons tb tNil))) (Pr2 K (x.1 * y.1, x.2 * y.2)) := ev_call (x, y) (eva_cons ha (eva_cons hb eva_nil)) h
structure Zb (a b : Nat) (z : Int × Int) : Prop where
  pos : 0 < z.2
  n : z.1.natAbs < 2 ^ a
  d : z.2.natAbs < 2 ^ b
theorem fr_zb {a b : Nat} {x : Rat} (h : Bd a b x) : Zb a b (x.num, (x.den : Int)) := ⟨by have := x.den_pos; show (0 : Int) < (x.den : Int); omega, h.num, by show ((x.den : Int)).natAbs < _; rw [Int.natAbs_natCast]; exact h.den⟩
theorem Zb.add {a b c d e : Nat} {x y : Int × Int} (hx : Zb a b x) (hy : Zb c d y) (h1 : a + d ≤ e) (h2 : c + b ≤ e) : Zb (e + 1) (b + d) (x.1 * y.2 + y.1 * x.2, x.2 * y.2) := ⟨Int.mul_pos hx.pos hy.pos, nabs_add (a := e) (nabs_mul hx.n hy.d h1) (nabs_mul hy.n hx.d h2) (Nat.le_refl _), nabs_mul hx.d hy.d (Nat.le_refl _)⟩
theorem Zb.mul {a b c d : Nat} {x y : Int × Int} (hx : Zb a b x) (hy : Zb c d y) : Zb (a + c) (b + d) (x.1 * y.1, x.2 * y.2) := ⟨Int.mul_pos hx.pos hy.pos, nabs_mul hx.n hy.n (Nat.le_refl _), nabs_mul hx.d hy.d (Nat.le_refl _)⟩
theorem Zb.up {a b c d : Nat} {x : Int × Int} (hx : Zb a b x) (h1 : a ≤ c) (h2 : b ≤ d) : Zb c d x := ⟨hx.pos, nabs_up hx.n h1, nabs_up hx.d h2⟩
theorem Zb.pp {a b c d : Nat} {x y : Int × Int} (hx : Zb a b x) (hy : Zb c d y) (h : a ≤ 20000 ∧ b ≤ 20000 ∧ c ≤ 20000 ∧ d ≤ 20000) : PpO (x, y) := ⟨nabs_up hx.n h.1, nabs_up hx.d h.2.1, nabs_up hy.n h.2.2.1, nabs_up hy.d h.2.2.2⟩
theorem pq_zb {v : Rat} {a : Nat} {z : Int × Int} (h : Pq v a z) : Zb a a z := ⟨h.pos, h.n, h.d⟩
/-! ### a drawn paper -/
abbrev s_law_drawn_paper : Stmt := (topS 91)
theorem sc_law_drawn_paper : FnScope ["_law_row_here", "_law_buys", "_law_rows", "_law_prices", "_law_k", "_law_paper", "_law_j", "_law_most", "_law_total", "_law_part"] ["_law_row_here", "_law_buys", "_law_rows", "_law_prices"] (defScope s_law_drawn_paper) := ⟨rfl, rfl, rfl, by decide +kernel, rfl, by decide +kernel, by decide +kernel⟩

structure DpV where
  f : Nat → Nat
  d : DataV
  T : Nat → Option Bool
  q : Nat → Rat
structure DpOk (z : DpV) : Prop where
  f : ∀ k, k < 9 → z.f k < 1000
  d : DOk z.d
  q : ∀ k, k < z.d.g → Bd 40 10 (z.q k) ∧ 0 < z.q k
def sp_drawn_paper (K : PySem.W.Frag) : Sp := spR (fun z : DpV => [Il 9 z.f, Buys K z.d, Row z.d.c z.T, Fl K z.d.g z.q]) DpOk (fun z => Exr (fun Q : Nat → Rat => ∀ j, j < z.d.c → Bd 120 120 (Q j)) (Fl K z.d.c))
theorem ok_drawn_paper (G : Gb K mg) (F : Def0 K mg "_law_drawn_paper" s_law_drawn_paper ["_law_row_here", "_law_buys", "_law_rows", "_law_prices"]) (d_law_lowest : DefOk P w K mg base "_law_lowest" 2 ["_law_p", "_law_q"] (sp_law_lowest K)) (d_law_add : DefOk P w K mg base "_law_add" 1 ["_law_a", "_law_b"] (sp_law_add K)) (d_law_mul : DefOk P w K mg base "_law_mul" 1 ["_law_a", "_law_b"] (sp_law_mul K))
    (d_law_over : DefOk P w K mg base "_law_over" 1 ["_law_a", "_law_b"] (sp_law_over K)) (d_law_scaled : DefOk P w K mg base "_law_scaled" 3 ["_law_basket", "_law_p", "_law_q"] (sp_law_scaled K)) : DefOk P w K mg base "_law_drawn_paper" 4 ["_law_row_here", "_law_buys", "_law_rows", "_law_prices"] (sp_drawn_paper K) := by
  refine okD F sc_law_drawn_paper (fun _ => rfl) (by decide) fun f cdv A outer s H E hr ⟨f, d, T, q⟩ h => ⟨_, (pss_cons (ps_setLc (i := 5) (own := [("_law_k", 4)]) (g := (gName 4)) (tt := tYes) rfl sc_law_drawn_paper.nd rfl rfl (sw_true rfl rfl rfl (by decide +kernel)) (pi_range1 (by rfl) G.range (pa_cons (pe_callB (r := rLenQ K) call_len_seq (by rfl) G.len PySem.boot_len (pa_cons (pv 1) pa_nil)) pa_nil)) (blkOk_by (N := ["_law_row_here", "_law_buys", "_law_rows", "_law_prices", "_law_k", "_law_paper", "_law_j", "_law_most", "_law_total", "_law_part"]) (own := [("_law_k", 4)]) (sc := (defScope s_law_drawn_paper)) (by decide +kernel)) (fun _ _ _ _ _ => (pg_name (i := 4) sc_law_drawn_paper.nd rfl (.inl rfl))) (fun _ _ _ _ _ => pts_nil) (fun _ _ _ _ _ => (pe_cd d_law_lowest (hr.mono (by decide)) (by rfl) (pa_cons (pe_op op_mod (pe_callTy call_int1 (by rfl) G.int (by decide +kernel) (pa_cons (pe_ix (r := rIxL K) ix_list (pv 0) (pv 4) (fun _ _ => rfl)) pa_nil)) pe_int) (pa_cons (pe_op op_add pe_int (pe_op op_mod (pe_callTy call_int1 (by rfl) G.int (by decide +kernel) (pa_cons (pe_ix (r := rIxL K) ix_list (pv 0) (pe_op op_add pe_int (pv 4)) (fun _ _ => rfl)) pa_nil)) pe_int)) pa_nil)))))
        (pss_cons (ps_for PassesOwn.never rfl (pi_range1 (by rfl) G.range (pa_cons (pe_callB (r := rLenQ K) call_len_seq (by rfl) G.len PySem.boot_len (pa_cons (pv 1) pa_nil)) pa_nil)) (pg_name (i := 6) sc_law_drawn_paper.nd rfl (.inl rfl)) (pss_one (ps_if (pt_cmpR op_isN (pe_ix (r := rIxL K) ix_list (pv 2) (pv 6) (fun _ _ => rfl)) pe_non (nomark _)) (pss_one (ps_asg (pe_tup (pa_cons pe_int (pa_cons pe_int pa_nil))) (pg_sub (pv 5) (pv 6) set_list))) pss_nil)))
        (pss_cons (ps_set (i := 7) sc_law_drawn_paper.nd rfl (.inl rfl) (pe_tup (pa_cons pe_int (pa_cons pe_int pa_nil))))
        (pss_cons (ps_for PassesOwn.never rfl (pi_range1 (by rfl) G.range (pa_cons (pe_callB (r := rLenQ K) call_len_seq (by rfl) G.len PySem.boot_len (pa_cons (pv 3) pa_nil)) pa_nil)) (pg_name (i := 4) sc_law_drawn_paper.nd rfl (.inl rfl)) (pss_cons (ps_set (i := 8) sc_law_drawn_paper.nd rfl (.inl rfl) (pe_tup (pa_cons pe_int (pa_cons pe_int pa_nil))))
        (pss_cons (ps_for PassesOwn.never rfl (pi_range1 (by rfl) G.range (pa_cons (pe_callB (r := rLenQ K) call_len_seq (by rfl) G.len PySem.boot_len (pa_cons (pv 1) pa_nil)) pa_nil)) (pg_name (i := 6) sc_law_drawn_paper.nd rfl (.inl rfl)) (pss_one (ps_set (i := 8) sc_law_drawn_paper.nd rfl (.inl rfl) (pe_cd d_law_add (hr.mono (by decide)) (by rfl) (pa_cons (pv 8) (pa_cons (pe_cd d_law_mul (hr.mono (by decide)) (by rfl) (pa_cons (pe_ix (r := rIxL K) ix_list (pv 5) (pv 6) (fun _ _ => rfl)) (pa_cons (pe_ix (r := rIxL K) ix_list (pe_ix (r := rIxT K) ix_tup (pe_ix (r := rIxL K) ix_list (pv 1) (pv 6) (fun _ _ => rfl)) pe_int (fun _ _ => rfl)) (pv 4) (fun _ _ => rfl)) pa_nil))) pa_nil))))))
        (pss_cons (ps_set (i := 9) sc_law_drawn_paper.nd rfl (.inl rfl) (pe_tup (pa_cons (pe_op op_mulW (pe_ix (r := rIxT K) ix_tup (pv 8) pe_int (fun _ _ => rfl)) (pe_ix (r := rIxT K) ix_tup (pe_ix (r := rIxL K) ix_list (pv 3) (pv 4) (fun _ _ => rfl)) pe_int (fun _ _ => rfl))) (pa_cons (pe_op op_mulW (pe_ix (r := rIxT K) ix_tup (pv 8) pe_int (fun _ _ => rfl)) (pe_ix (r := rIxT K) ix_tup (pe_ix (r := rIxL K) ix_list (pv 3) (pv 4) (fun _ _ => rfl)) pe_int (fun _ _ => rfl))) pa_nil))))
        (pss_one (ps_if (pt_cmpR op_gt (pe_cd d_law_over (hr.mono (by decide)) (by rfl) (pa_cons (pv 9) (pa_cons (pv 7) pa_nil))) pe_int (nomark _)) (pss_one (ps_set (i := 7) sc_law_drawn_paper.nd rfl (.inl rfl) (pv 9))) pss_nil))))))
        (pss_one (ps_ret (pe_cd d_law_scaled (hr.mono (by decide)) (by rfl) (pa_cons (pv 5) (pa_cons (pe_ix (r := rIxT K) ix_tup (pv 7) pe_int (fun _ _ => rfl)) (pa_cons (pe_ix (r := rIxT K) ix_tup (pv 7) pe_int (fun _ _ => rfl)) pa_nil)))))))))), fun H0 N D rt => ?_⟩
  have D' : DOk d := h.d
  have hc := D'.c
  have hg := D'.g
  have hf : ∀ k, k < 9 → f k < 1000 := h.f
  have hq : ∀ k, k < d.g → Bd 40 10 (q k) ∧ 0 < q k := h.q
  refine go_seq (go_new (n := d.c) (f := fun _ => AF K 2 2) (evn_lcR (n := d.c) (R := fun _ => AF K 2 2) (eva_cons (ev_cb ct_len (eva_cons (ev_var rfl) eva_nil)) eva_nil) (by omega) fun Dq k hk => ev_low0 (a := 2) (b := 2) (ev_dm (n := 9) (f := f) (k := k) (ev_var rfl) (ev_var rfl) rfl (by omega) (by decide)) (ev_1p (ev_dm (n := 9) (f := f) (k := 4 + k) (ev_var rfl) (ev_iadd ev_int (ev_var rfl)) (by omega) (by omega) (by decide))) (mod1_lt (a := 2) (by decide) (by decide)).2 (mod_lt (by decide) (by decide)).1 (mod1_lt (by decide) (by decide)).1 (by decide) (mod_lt (a := 2) (by decide) (by decide)).2) fun pa => go_seq ?_)
  refine go_forR (n := d.c) (α := Unit) (fun _ _ => ⟨H0, N, [(pa, d.c, fun _ => AF K 2 2)], [some (Il 9 f), some (Buys K d), some (Row d.c T), some (Fl K d.g q), none, some (Pt pa), none, none, none, none]⟩) (fun _ _ => True) (eva_cons (ev_cb ct_len (eva_cons (ev_var rfl) eva_nil)) eva_nil) (by omega) ⟨(), trivial, fun σ H st => st.wk (by repeat first | exact Wk.nil | refine Wk.keep ?_ | refine Wk.drop ?_)⟩ (fun j _ hj _ => ?_) fun _ _ => ?_
  · refine go_if (et_test (ev_op (ot_isN ob_none) (ev_op (ot_ixL (R := fun j => Ob (T j)) rfl hj) (ev_var rfl) (ev_var rfl)) ev_non)) (fun _ => ?_) fun _ => go_next fun σ H st => ⟨(), trivial, st.wk (by repeat first | exact Wk.nil | refine Wk.keep ?_ | refine Wk.drop ?_)⟩
    exact go_put (M1 := []) (j := j) rfl rfl (R := AF K 2 2) (ev_sub (ev_eq (ev_tup (K := K) (eva_cons ev_int (eva_cons ev_int eva_nil))) (rfl : _ = Fr K 0)) fun H v r => ⟨0, ⟨Bd.zero.mono (by decide) (by decide), Rat.le_refl⟩, r⟩) (ev_var rfl) rfl hj fun σ H st => ⟨(), trivial, (st.mset rfl (put_to (fun _ _ _ => rfl) rfl)).wk (by repeat first | exact Wk.nil | refine Wk.keep ?_ | refine Wk.drop ?_)⟩
  refine go_openM (p := pa) rfl fun Q hQ => go_freeze (i := 5) rfl rfl (go_seq (go_set (R := Pr2 K (1, 1)) (ev_tup (eva_cons ev_int (eva_cons ev_int eva_nil))) (go_seq ?_)))
  refine go_forR (n := d.g) (α := Int × Int) (fun _ z => ⟨H0, N, [], [some (Il 9 f), some (Buys K d), some (Row d.c T), some (Fl K d.g q), none, some (Fl K d.c Q), none, some (Pr2 K z), none, none]⟩) (fun _ z => 0 < z.1 ∧ Zb 110 110 z) (eva_cons (ev_cb ct_len (eva_cons (ev_var rfl) eva_nil)) eva_nil) (by omega) ⟨(1, 1), ⟨by decide, by decide, by show 1 < 2 ^ 110; exact Nat.one_lt_two_pow (by decide), by show 1 < 2 ^ 110; exact Nat.one_lt_two_pow (by decide)⟩, fun σ H st => st.wk (by repeat first | exact Wk.nil | refine Wk.keep ?_ | refine Wk.drop ?_)⟩ (fun k z hk ⟨z0, hz⟩ => ?_) fun z ⟨z0, hz⟩ => ?_
  · have hk : k < d.g := hk
    have z0 : 0 < z.1 := z0
    have hz : Zb 110 110 z := hz
    have zq := fr_zb (hq k hk).1
    have qn : 0 < (q k).num := Classical.byContradiction fun c => absurd (hq k hk).2 (Rat.not_lt.mpr ((Pq.fr ((hq k hk).1.mono (a' := 40) (b' := 40) (by decide) (by decide))).sgn.2.1.mp (show (q k).num ≤ 0 by omega)))
    refine go_seq (go_set (R := Pr2 K (0, 1)) (ev_tup (eva_cons ev_int (eva_cons ev_int eva_nil))) (go_seq ?_))
    refine go_forR (n := d.c) (α := Int × Int) (fun _ t => ⟨H0, N, [], [some (Il 9 f), some (Buys K d), some (Row d.c T), some (Fl K d.g q), some (Nt k), some (Fl K d.c Q), none, some (Pr2 K z), some (Pr2 K t), none]⟩) (fun j t => Zb (44 + 13 * j) (12 * j + 1) t) (eva_cons (ev_cb ct_len (eva_cons (ev_var rfl) eva_nil)) eva_nil) (by omega) ⟨(0, 1), ⟨by decide, two_pos _, by show 1 < 2 ^ (12 * 0 + 1); decide⟩, fun σ H st => st.wk (by repeat first | exact Wk.nil | refine Wk.keep ?_ | refine Wk.drop ?_)⟩ (fun j t hj ht => ?_) fun t ht => go_seq ?_
    · have hj : j < d.c := hj
      have zQ := fr_zb (hQ j hj).1
      have zP := fr_zb (D'.pr j hj k hk)
      have zM := zQ.mul zP
      refine go_set (ev_madd (y := ((Q j).num * (d.pr j k).num, ((Q j).den : Int) * ((d.pr j k).den : Int))) (ev_var rfl) (ev_mmul (x := ((Q j).num, ((Q j).den : Int))) (y := ((d.pr j k).num, ((d.pr j k).den : Int))) (ev_op (ot_ixL (R := fun j => Fr K (Q j)) rfl hj) (ev_var rfl) (ev_var rfl)) (ev_op (ot_ixL (R := fun k => Fr K (d.pr j k)) rfl hk) (ev_op (ot_ixT (k := 0) rfl rfl) (ev_op (ot_ixL (R := fun i => Buy K d.g (d.pr i) (d.am i)) rfl hj) (ev_var rfl) (ev_var rfl)) ev_int) (ev_var rfl)) (zQ.pp zP (by decide))) (ht.pp zM (by omega))) fun σ H st => ⟨_, (ht.add zM (e := 44 + 13 * j + 12) (by omega) (by omega)).up (by omega) (by omega), st.wk (by repeat first | exact Wk.nil | refine Wk.keep ?_ | refine Wk.drop ?_)⟩
    · have ht' : Zb 96 49 t := ht.up (by omega) (by omega)
      have zPt : Zb 106 89 (t.1 * ((q k).den : Int), t.2 * (q k).num) := ⟨Int.mul_pos ht.pos qn, nabs_mul ht'.n zq.d (by decide), nabs_mul ht'.d zq.n (by decide)⟩
      refine go_set (R := Pr2 K (t.1 * ((q k).den : Int), t.2 * (q k).num)) (ev_tup (eva_cons (ev_imul (ev_p1 (ev_var rfl)) (ev_den (ev_op (ot_ixL (R := fun k => Fr K (q k)) rfl hk) (ev_var rfl) (ev_var rfl))) (mulW (nabs_up ht'.n) (nabs_up zq.d))) (eva_cons (ev_imul (ev_p2 (ev_var rfl)) (ev_num (ev_op (ot_ixL (R := fun k => Fr K (q k)) rfl hk) (ev_var rfl) (ev_var rfl))) (mulW (nabs_up ht'.d) (nabs_up zq.n))) eva_nil))) ?_
      refine go_if (et_test (ev_igt (ev_call (((t.1 * ((q k).den : Int), t.2 * (q k).num), z) : (Int × Int) × (Int × Int)) (eva_cons (ev_var rfl) (eva_cons (ev_var rfl) eva_nil)) (zPt.pp hz (by decide))) ev_int)) (fun e => ?_) fun e => go_next fun σ H st => ⟨z, ⟨z0, hz⟩, st.wk (by repeat first | exact Wk.nil | refine Wk.keep ?_ | refine Wk.drop ?_)⟩
      refine go_set (ev_var rfl) fun σ H st => ⟨_, ⟨?_, zPt.up (by decide) (by decide)⟩, st.wk (by repeat first | exact Wk.nil | refine Wk.keep ?_ | refine Wk.drop ?_)⟩
      have e' : (0 : Int) < (t.1 * ((q k).den : Int)) * z.2 - z.1 * (t.2 * (q k).num) := of_decide_eq_true e
      have h1 : 0 < z.1 * (t.2 * (q k).num) := Int.mul_pos z0 zPt.pos
      have h2 : 0 < (t.1 * ((q k).den : Int)) * z.2 := by omega
      exact Int.pos_of_mul_pos_left h2 hz.pos
  · have z0 : 0 < z.1 := z0
    have hz : Zb 110 110 z := hz
    have b := low_bd (p := z.2) (q := z.1) z0 hz.d hz.n
    exact go_ex (f := Fl K d.c) rt _ (fun j hj => ((hQ j hj).1.mul b.1).mono (by decide) (by decide)) (ev_call (⟨d.c, Q, (z.2, z.1)⟩ : SaV) (eva_cons (ev_var rfl) (eva_cons (ev_p2 (ev_var rfl)) (eva_cons (ev_p1 (ev_var rfl)) eva_nil))) ⟨hc, fun j hj => (hQ j hj).1.mono (by decide) (by decide), z0, nabs_up hz.d (by decide), nabs_up hz.n (by decide)⟩)
abbrev s_law_given : Stmt := (topS 92)
theorem sc_law_given : FnScope ["_law_buys", "_law_paper", "_law_total", "_law_j"] ["_law_buys", "_law_paper"] (defScope s_law_given) := ⟨rfl, rfl, rfl, by decide +kernel, rfl, by decide +kernel, by decide +kernel⟩

structure GiV where
  d : DataV
  Q : Nat → Rat
def sp_law_given (K : PySem.W.Frag) : Sp := spR (fun z : GiV => [Buys K z.d, Fl K z.d.c z.Q]) (fun z => DOk z.d ∧ ∀ j, j < z.d.c → Bd 120 120 (z.Q j)) (fun _ => BF K 2000)
theorem ok_law_given (G : Gb K mg) (F : Def0 K mg "_law_given" s_law_given ["_law_buys", "_law_paper"]) (d_law_lowest : DefOk P w K mg base "_law_lowest" 2 ["_law_p", "_law_q"] (sp_law_lowest K)) (d_law_add : DefOk P w K mg base "_law_add" 1 ["_law_a", "_law_b"] (sp_law_add K)) (d_law_mul : DefOk P w K mg base "_law_mul" 1 ["_law_a", "_law_b"] (sp_law_mul K))
    (d_law_dot : DefOk P w K mg base "_law_dot" 1 ["_law_a", "_law_b"] (sp_law_dot K)) : DefOk P w K mg base "_law_given" 3 ["_law_buys", "_law_paper"] (sp_law_given K) := by
  refine okD F sc_law_given (fun _ => rfl) (by decide) fun f cdv A outer s H E hr ⟨d, Q⟩ h => ⟨_, (pss_cons (ps_set (i := 2) sc_law_given.nd rfl (.inl rfl) (pe_tup (pa_cons pe_int (pa_cons pe_int pa_nil))))
        (pss_cons (ps_for PassesOwn.never rfl (pi_range1 (by rfl) G.range (pa_cons (pe_callB (r := rLenQ K) call_len_seq (by rfl) G.len PySem.boot_len (pa_cons (pv 0) pa_nil)) pa_nil)) (pg_name (i := 3) sc_law_given.nd rfl (.inl rfl)) (pss_one (ps_set (i := 2) sc_law_given.nd rfl (.inl rfl) (pe_cd d_law_add (hr.mono (by decide)) (by rfl) (pa_cons (pv 2) (pa_cons (pe_cd d_law_mul (hr.mono (by decide)) (by rfl) (pa_cons (pe_ix (r := rIxL K) ix_list (pv 1) (pv 3) (fun _ _ => rfl)) (pa_cons (pe_cd d_law_dot (hr.mono (by decide)) (by rfl) (pa_cons (pe_ix (r := rIxT K) ix_tup (pe_ix (r := rIxL K) ix_list (pv 0) (pv 3) (fun _ _ => rfl)) pe_int (fun _ _ => rfl)) (pa_cons (pe_ix (r := rIxT K) ix_tup (pe_ix (r := rIxL K) ix_list (pv 0) (pv 3) (fun _ _ => rfl)) pe_int (fun _ _ => rfl)) pa_nil))) pa_nil))) pa_nil))))))
        (pss_one (ps_ret (pe_cd d_law_lowest (hr.mono (by decide)) (by rfl) (pa_cons (pe_ix (r := rIxT K) ix_tup (pv 2) pe_int (fun _ _ => rfl)) (pa_cons (pe_ix (r := rIxT K) ix_tup (pv 2) pe_int (fun _ _ => rfl)) pa_nil))))))), fun H0 N D rt => ?_⟩
  obtain ⟨D', hQ⟩ := h
  have D' : DOk d := D'
  have hQ : ∀ j, j < d.c → Bd 120 120 (Q j) := hQ
  have hc := D'.c
  refine go_seq (go_set (R := Pr2 K (0, 1)) (ev_tup (eva_cons ev_int (eva_cons ev_int eva_nil))) (go_seq ?_))
  refine go_forR (n := d.c) (α := Int × Int) (fun _ t => ⟨H0, N, [], [some (Buys K d), some (Fl K d.c Q), some (Pr2 K t), none]⟩) (fun j t => Zb (450 * j + j + 1) (448 * j + 1) t) (eva_cons (ev_cb ct_len (eva_cons (ev_var rfl) eva_nil)) eva_nil) (by omega) ⟨(0, 1), ⟨by decide, two_pos _, by show 1 < 2 ^ (448 * 0 + 1); decide⟩, fun σ H st => st⟩ (fun j t hj ht => ?_) fun t ht => ?_
  · have hj : j < d.c := hj
    have zQ := fr_zb (hQ j hj)
    refine go_set (R := Exr (Zb (450 * (j + 1) + (j + 1) + 1) (448 * (j + 1) + 1)) (Pr2 K)) (ev_callE (Rs := [Pr2 K t, Exr (Zb 448 448) (Pr2 K)]) (eva_cons (ev_var rfl) (eva_cons (ev_callE (Rs := [Fr K (Q j), PQ K (d.sp j) 328]) (eva_cons (ev_op (ot_ixL (R := fun j => Fr K (Q j)) rfl hj) (ev_var rfl) (ev_var rfl)) (eva_cons (ev_call (⟨d.g, 40, d.pr j, d.am j⟩ : LdV) (eva_cons (ev_op (ot_ixT (k := 0) rfl rfl) (ev_op (ot_ixL (R := fun i => Buy K d.g (d.pr i) (d.am i)) rfl hj) (ev_var rfl) (ev_var rfl)) ev_int) (eva_cons (ev_op (ot_ixT (k := 1) rfl rfl) (ev_op (ot_ixL (R := fun i => Buy K d.g (d.pr i) (d.am i)) rfl hj) (ev_var rfl) (ev_var rfl)) ev_int) eva_nil)) ⟨D'.g, show 1 ≤ 40 by decide, show 40 ≤ 1500 by decide, fun i hi => (D'.pr j hj i hi).mono (show 40 ≤ 40 by decide) (show 10 ≤ 40 by decide), fun i hi => (D'.am j hj i hi).mono (show 40 ≤ 40 by decide) (show 10 ≤ 40 by decide)⟩) eva_nil)) fun H vs al => ?_) eva_nil)) fun H vs al => ?_) (go_open (i := 2) rfl fun t' ht' σ H st => ⟨t', ht', st.wk (by repeat first | exact Wk.nil | refine Wk.keep ?_ | refine Wk.drop ?_)⟩)
    · obtain ⟨v, u, rfl, r1, z, hz, r2⟩ := al2 al
      exact ⟨(((Q j).num, ((Q j).den : Int)), z), al2' r1 r2, zQ.pp (pq_zb hz) (by decide), fun H' v r => ⟨_, (zQ.mul (pq_zb hz)).up (by decide) (by decide), r⟩⟩
    · obtain ⟨v, u, rfl, r1, z, hz, r2⟩ := al2 al
      exact ⟨(t, z), al2' r1 r2, ht.pp hz (by omega), fun H' v r => ⟨_, (ht.add hz (e := 450 * j + j + 1 + 448) (by omega) (by omega)).up (by omega) (by omega), r⟩⟩
  · have ht' : Zb 2000 2000 t := ht.up (by omega) (by omega)
    exact go_back rt (ev_sub (ev_call (t.1, t.2) (eva_cons (ev_p1 (ev_var rfl)) (eva_cons (ev_p2 (ev_var rfl)) eva_nil)) ⟨ht'.pos, nabs_up ht'.d (by decide)⟩) fun H v r => ⟨_, (low_bd ht'.pos ht'.n ht'.d).1, r⟩)
end
end BB
namespace BB
open PySem PySem.Spec PyProof.Rows L2
section
variable {P : Program} {w : World} {K : PySem.W.Frag} {mg : Str → Option Value} {base : Heap}
/-! ### what is told holds -/
abbrev s_law_holds : Stmt := (topS 93)
theorem sc_law_holds : FnScope ["_law_data_here", "_law_i", "_law_prices", "_law_money", "_law_paper", "_law_weak", "_law_strict", "_law_basket"] ["_law_data_here", "_law_i", "_law_prices", "_law_money", "_law_paper", "_law_weak", "_law_strict"] (defScope s_law_holds) := ⟨rfl, rfl, rfl, by decide +kernel, rfl, by decide +kernel, by decide +kernel⟩

structure HoV where
  x : JnV
  m : Nat
  n : Nat
abbrev StR (K : PySem.W.Frag) (d : DataV) (T : Nat → Option Bool) : Rp := Exr (fun y => WkS d T y ∧ KpS d T y false) (Fl K d.g)
structure HoOk (z : HoV) : Prop where
  j : JnOk z.x
  q : ∀ k, k < z.x.d.g → Bd 40 10 (z.x.q k)
  v : Bd 2000 2000 z.x.v
def sp_law_holds (K : PySem.W.Frag) : Sp := spR (fun z : HoV => [Dat K z.x.d, Nt z.x.i, Fl K z.x.d.g z.x.q, Fr K z.x.v, Fl K z.x.d.c z.x.P, Li z.m fun _ => WkR K z.x.d (z.x.d.led z.x.i), Li z.n fun _ => StR K z.x.d (z.x.d.led z.x.i)]) HoOk (fun _ => Bo true)
theorem ok_law_holds (G : Gb K mg) (F : Def0 K mg "_law_holds" s_law_holds ["_law_data_here", "_law_i", "_law_prices", "_law_money", "_law_paper", "_law_weak", "_law_strict"]) (d_judge_need : DefOk P w K mg base "judge_need" 8 ["data", "i", "prices", "money", "paper"] (sp_judge_need K)) (d_judge_strict_need : DefOk P w K mg base "judge_strict_need" 9 ["data", "i", "prices", "money", "paper"] (sp_judge_strict_need K))
    (d_law_over : DefOk P w K mg base "_law_over" 1 ["_law_a", "_law_b"] (sp_law_over K)) (d_law_dot : DefOk P w K mg base "_law_dot" 1 ["_law_a", "_law_b"] (sp_law_dot K)) : DefOk P w K mg base "_law_holds" 10 ["_law_data_here", "_law_i", "_law_prices", "_law_money", "_law_paper", "_law_weak", "_law_strict"] (sp_law_holds K) := by
  refine okD F sc_law_holds (fun _ => rfl) (by decide) fun f cdv A outer s H E hr ⟨x, m, n⟩ h => ⟨_, (pss_cons (ps_if (pt_val (pe_cd d_judge_need (hr.mono (by decide)) (by rfl) (pa_cons (pv 0) (pa_cons (pv 1) (pa_cons (pe_callTy (r := rListQ K) call_list_of (by rfl) G.list (by decide +kernel) (pa_cons (pv 2) pa_nil)) (pa_cons (pv 3) (pa_cons (pe_callTy (r := rListQ K) call_list_of (by rfl) G.list (by decide +kernel) (pa_cons (pv 4) pa_nil)) pa_nil))))))) (pss_one (ps_for PassesOwn.never rfl (pi_listK (K := K) rfl (pv 5)) (pg_name (i := 7) sc_law_holds.nd rfl (.inl rfl)) (pss_one (ps_if (pt_cmpR op_lt (pe_cd d_law_over (hr.mono (by decide)) (by rfl) (pa_cons (pe_cd d_law_dot (hr.mono (by decide)) (by rfl) (pa_cons (pv 2) (pa_cons (pv 7) pa_nil))) (pa_cons (pv 3) pa_nil))) pe_int (nomark _)) (pss_one (ps_ret pe_bl)) pss_nil)))) pss_nil)
        (pss_cons (ps_if (pt_val (pe_cd d_judge_strict_need (hr.mono (by decide)) (by rfl) (pa_cons (pv 0) (pa_cons (pv 1) (pa_cons (pe_callTy (r := rListQ K) call_list_of (by rfl) G.list (by decide +kernel) (pa_cons (pv 2) pa_nil)) (pa_cons (pv 3) (pa_cons (pe_callTy (r := rListQ K) call_list_of (by rfl) G.list (by decide +kernel) (pa_cons (pv 4) pa_nil)) pa_nil))))))) (pss_one (ps_for PassesOwn.never rfl (pi_listK (K := K) rfl (pv 6)) (pg_name (i := 7) sc_law_holds.nd rfl (.inl rfl)) (pss_one (ps_if (pt_cmpR op_le (pe_cd d_law_over (hr.mono (by decide)) (by rfl) (pa_cons (pe_cd d_law_dot (hr.mono (by decide)) (by rfl) (pa_cons (pv 2) (pa_cons (pv 7) pa_nil))) (pa_cons (pv 3) pa_nil))) pe_int (nomark _)) (pss_one (ps_ret pe_bl)) pss_nil)))) pss_nil)
        (pss_one (ps_ret pe_bl)))), fun H0 N D rt => ?_⟩
  have J : JnOk x := h.j
  have hq : ∀ k, k < x.d.g → Bd 40 10 (x.q k) := h.q
  have hv : Bd 2000 2000 x.v := h.v
  have D' := J.d
  have ejn : ∀ {G' : Hp} {o : Option Rp}, EVA ⟨G', N, [], [some (Dat K x.d), some (Nt x.i), some (Fl K x.d.g x.q), some (Fr K x.v), some (Fl K x.d.c x.P), some (Li m fun _ => WkR K x.d (x.d.led x.i)), some (Li n fun _ => StR K x.d (x.d.led x.i)), o]⟩ (tCons (tVar 0) (tCons (tVar 1) (tCons (tCB (rListQ K) (tCons (tVar 2) tNil)) (tCons (tVar 3) (tCons (tCB (rListQ K) (tCons (tVar 4) tNil)) tNil))))) (jnPre K x) := fun {G' o} => eva_cons (ev_var rfl) (eva_cons (ev_var rfl) (eva_cons (evn_list (ev_var rfl)).ev (eva_cons (ev_var rfl) (eva_cons (evn_list (ev_var rfl)).ev eva_nil))))
  have edot : ∀ {S : Sta} {E : XK} {y : Nat → Rat}, S.Γ[2]? = some (some (Fl K x.d.g x.q)) → S.Γ[7]? = some (some (Fl K x.d.g y)) → (∀ k, k < x.d.g → Bd 1000 1000 (y k) ∧ 0 ≤ y k) → EV S (tCall (sp_law_dot K) [] E (tCons (tVar 2) (tCons (tVar 7) tNil))) (PQ K (sm x.d.g fun k => x.q k * y k) 8008) := fun {S E y} h2 h7 hy => ev_call (⟨x.d.g, 1000, x.q, y⟩ : LdV) (eva_cons (ev_var h2) (eva_cons (ev_var h7) eva_nil)) ⟨D'.g, show 1 ≤ 1000 by decide, show 1000 ≤ 1500 by decide, fun k hk => (hq k hk).mono (show 40 ≤ 1000 by decide) (show 10 ≤ 1000 by decide), fun k hk => (hy k hk).1⟩
  let Γ0 : Option Rp → List (Option Rp) := fun o => [some (Dat K x.d), some (Nt x.i), some (Fl K x.d.g x.q), some (Fr K x.v), some (Fl K x.d.c x.P), some (Li m fun _ => WkR K x.d (x.d.led x.i)), some (Li n fun _ => StR K x.d (x.d.led x.i)), o]
  have second : ∀ (G' : Hp), Same H0 G' → ∀ {nx : L2.St → Hp → Prop} {bk ct : L2.St → Hp → Prop} {E1 E2 E3 : XK}, Go ⟨G', N, [], Γ0 none⟩ (tSeq (tIfS (tTest (tCall (sp_judge_strict_need K) [] E1 (tCons (tVar 0) (tCons (tVar 1) (tCons (tCB (rListQ K) (tCons (tVar 2) tNil)) (tCons (tVar 3) (tCons (tCB (rListQ K) (tCons (tVar 4) tNil)) tNil))))))) (tFor (iList K (tVar 6)) (gName 7) (tIfS (tTest (tOp (rI0 fun i j => .bl (decide (i ≤ j))) (tCall (sp_law_over K) [] E2 (tCons (tCall (sp_law_dot K) [] E3 (tCons (tVar 2) (tCons (tVar 7) tNil))) (tCons (tVar 3) tNil))) (tC (.int 0)))) (tRet (tC (.bl false))) tNext)) tNext) (tRet (tC (.bl true))) ⟨nx, D.rt, bk, ct⟩) := fun G' sG {nx bk ct E1 E2 E3} => by
    refine go_seq (go_if (et_test (ev_trE (ev_call x ejn J))) (fun e => ?_) fun _ => go_next (go_back (rt.base sG) ev_bl))
    obtain ⟨hold, j0, hj0, ht0, hp0⟩ := tr_iff.mp e
    refine go_forL (α := Unit) (fun G2 k _ => ⟨G2, N, [], Γ0 none⟩) (fun G2 k _ => ⟨G2, N, [], Γ0 (some (StR K x.d (x.d.led x.i)))⟩) (fun _ _ => True) (ev_var rfl) (fun _ _ _ => ⟨rfl, rfl, rfl⟩) (fun G2 => ⟨(), trivial, fun σ H st => st⟩) (fun _ _ _ _ => gt_name) (fun G2 k _ s2 hk _ => ?_) fun G2 _ s2 _ => go_back (rt.base (sG.trans s2)) ev_bl
    refine go_open (i := 7) rfl fun y ⟨hy, ky⟩ => ?_
    have lt := hold.strict (x := y) (fun k hk => (hy.b k hk).2) hy.k hj0 ht0 hp0 ((ky j0 hj0 true ht0).2 rfl rfl)
    refine go_if (b := false) (et_test (ev_leE (ev_over (edot rfl rfl hy.b) (ev_sub (ev_var rfl) (fr_pq hv)) (by decide) (by decide)) fun o ho => decide_eq_false fun c => absurd (ho.le.mp c) (Rat.not_le.mpr lt))) (fun e => by cases e) fun _ => go_next fun σ H st => ⟨(), trivial, st.wk (by repeat first | exact Wk.nil | refine Wk.keep ?_ | refine Wk.drop ?_)⟩
  refine go_seq (go_if (et_test (ev_trE (ev_call x ejn J))) (fun e => ?_) fun _ => go_next (second H0 (Same.refl _)))
  have hold := tr_iff.mp e
  refine go_forL (α := Unit) (fun G2 k _ => ⟨G2, N, [], Γ0 none⟩) (fun G2 k _ => ⟨G2, N, [], Γ0 (some (WkR K x.d (x.d.led x.i)))⟩) (fun _ _ => True) (ev_var rfl) (fun _ _ _ => ⟨rfl, rfl, rfl⟩) (fun G2 => ⟨(), trivial, fun σ H st => st⟩) (fun _ _ _ _ => gt_name) (fun G2 k _ s2 hk _ => ?_) fun G2 _ s2 _ => second G2 s2
  refine go_open (i := 7) rfl fun y hy => ?_
  have le := hold.weak (x := y) (fun k hk => (hy.b k hk).2) hy.k
  refine go_if (b := false) (et_test (ev_ltE (ev_over (edot rfl rfl hy.b) (ev_sub (ev_var rfl) (fr_pq hv)) (by decide) (by decide)) fun o ho => decide_eq_false fun c => absurd (ho.lt.mp c) (Rat.not_lt.mpr le))) (fun e => by cases e) fun _ => go_next fun σ H st => ⟨(), trivial, st.wk (by repeat first | exact Wk.nil | refine Wk.keep ?_ | refine Wk.drop ?_)⟩
end
end BB
namespace BB
open PySem PySem.Spec PyProof.Rows L2
/-! ### defs that hand back a new list -/
def spN {α : Type} (pre : α → List Rp) (side : α → Prop) (n : α → Nat) (R : α → Nat → Rp) : Sp := fun vs H Q _ => ∃ (x : α) (N : List Addr), (∀ a ∈ N, H a ≠ none) ∧ side x ∧ AL (pre x) (hid H N) vs ∧ ∀ p us H', Same H H' → H p = none → H' p = some (.lst us) → us.length = n x → (∀ k y, us[k]? = some y → (R x k).p (hid H' (p :: N)) y) → Q (.ref p) H'
theorem evn_call {S : Sta} {α : Type} {pre : α → List Rp} {side : α → Prop} {n : α → Nat} {R : α → Nat → Rp} {E : XK} {t : TA} (x : α) (ha : EVA S t (pre x)) (hs : side x) : EVN S (tCall (spN pre side n R) [] E t) (n x) (R x) := fun σ H st Q q =>
  ha σ H st _ fun vs H1 s1 r1 => ⟨x, S.hd, (st.mono s1).used, hs, by rw [List.append_nil]; exact r1, fun p us H2 s2 hp e l f => q p us H2 (s1.trans s2) (s1.free hp) e l f⟩
section
variable {P : Program} {w : World} {K : PySem.W.Frag} {mg : Str → Option Value} {base : Heap}
/-- what may be handed back: a new list -/
def RN (rt : VK) (H0 : Hp) (N : List Addr) (n : Nat) (R : Nat → Rp) : Prop := ∀ p us H', Same H0 H' → H0 p = none → H' p = some (.lst us) → us.length = n → (∀ k y, us[k]? = some y → (R k).p (hid H' (p :: N)) y) → rt (.ref p) H'
theorem go_retN {H0 : Hp} {N : List Addr} {Γ : List (Option Rp)} {n : Nat} {R : Nat → Rp} {rt : VK} {nx : L2.St → Hp → Prop} {bk ct : L2.St → Hp → Prop} {te : TE} (r : RN rt H0 N n R) (h : EVN ⟨H0, N, [], Γ⟩ te n R) : Go ⟨H0, N, [], Γ⟩ (tRet te ⟨nx, rt, bk, ct⟩) := fun σ H st =>
  h σ H st _ fun p us H' s hp e l f => r p us H' (st.same.trans s) (st.same.free hp) e l f
theorem okN {x : Str} {st : Stmt} {names ps : List Str} {k : Nat} {α : Type} {pre : α → List Rp} {side : α → Prop} {n : α → Nat} {R : α → Nat → Rp}
    (F : Def0 K mg x st ps) (sc : FnScope names ps (defScope st)) (hl : ∀ z, (pre z).length = ps.length) (hnl : ps.length ≤ names.length)
    (hbody : ∀ (f : Addr) (cdv : Value) (A : Around) (outer : List Env) (s : Shared) (H : Hp) (E : XK), Room k (A.deeper (envOfC x (defScope st) s.heap.objs.size f cdv)) → ∀ z, side z →
      ∃ t, PSs (cxOf CX0 P w K mg base names x (defScope st) f cdv A outer s H E).nox (defBody st) t ∧ ∀ (H0 : Hp) (N : List Addr) (D : Ends), RN D.rt H0 N (n z) (R z) → Go ⟨H0, N, [], (pre z).map some ++ List.replicate (names.length - ps.length) none⟩ (t D)) :
    DefOk P w K mg base x (k + 1) ps (spN pre side n R) := by
  obtain ⟨f, fd, FD, hm, hb⟩ := F
  refine ⟨f, fd, hm, FD.kp, hb, FD.ok sc (fun vs H Q E ⟨z, N, _, _, h, _⟩ => by rw [h.length, hl]) fun cdv A outer s H vs Q E hr ⟨z, N, hN, hs, ha, hq⟩ => ?_⟩
  obtain ⟨t, ht, hgo⟩ := hbody f cdv A outer s H E hr z hs
  refine ⟨t, ht.nox, ?_⟩
  have st := start_stt (names := names) hN ha (by rw [hl]; exact hnl)
  rw [hl] at st
  exact hgo H N { nx := fun _ H' => Q .non H', rt := Q } hq _ H st
end
section
variable {P : Program} {w : World} {K : PySem.W.Frag} {mg : Str → Option Value} {base : Heap}
/-! ### what least_need tells -/
abbrev s_law_is_told : Stmt := (topS 94)
theorem sc_law_is_told : FnScope ["_law_found", "_law_goods", "_law_count"] ["_law_found", "_law_goods", "_law_count"] (defScope s_law_is_told) := ⟨rfl, rfl, rfl, by decide +kernel, rfl, by decide +kernel, by decide +kernel⟩

structure ItV where
  met : Bool
  v : Rat
  g : Nat
  y : Nat → Rat
  c : Nat
  Q : Nat → Rat
abbrev FdR (K : PySem.W.Frag) (z : ItV) : Rp := Tp K [Sr (if z.met = true then "met" else "near"), Fr K z.v, Fl K z.g z.y, Fl K z.c z.Q]
structure ItOk (z : ItV) : Prop where
  v : Bd 2000 2000 z.v
  v0 : 0 < z.v
  g : z.g ≤ 4
  c : z.c ≤ 4
  y : ∀ k, k < z.g → Bd 2000 2000 (z.y k)
  Q : ∀ k, k < z.c → Bd 2000 2000 (z.Q k)
def sp_is_told (K : PySem.W.Frag) : Sp := spR (fun z : ItV => [FdR K z, Nt z.g, Nt z.c]) ItOk (fun _ => Bo true)
theorem den9 {x : Rat} (h : Bd 2000 2000 x) : x.den < 2 ^ 9000 := Nat.lt_of_lt_of_le h.den (pow_le2 (by decide))
theorem ok_is_told (G : Gb K mg) (F : Def0 K mg "_law_is_told" s_law_is_told ["_law_found", "_law_goods", "_law_count"]) (d_law_is_fraction : DefOk P w K mg base "_law_is_fraction" 2 ["_law_x"] (sp_is_fraction K)) (d_law_are_fractions : DefOk P w K mg base "_law_are_fractions" 3 ["_law_xs", "_law_many"] (sp_are_fractions K)) : DefOk P w K mg base "_law_is_told" 4 ["_law_found", "_law_goods", "_law_count"] (sp_is_told K) := by
  refine okD F sc_law_is_told (fun _ => rfl) (by decide) fun f cdv A outer s H E hr z h => ⟨_, (pss_cons (ps_if (PW.pt (pw_or (pt_not (pt_val (pe_callB call_isi (by rfl) G.isinstance (by decide +kernel) (pa_cons (pv 0) (pa_cons (pe_bltn (v := .ty "tuple") (by rfl) G.tuple (by decide +kernel) rfl) pa_nil))))) (pw_or (pt_cmpR op_ne (pe_callB (r := rLenQ K) call_len_seq (by rfl) G.len PySem.boot_len (pa_cons (pv 0) pa_nil)) pe_int (nomark _)) (pw_or1 (PW.pt (pw_and (pt_cmpR op_ne (pe_ix (r := rIxT K) ix_tup (pv 0) pe_int (fun _ _ => rfl)) pe_str (nomark _)) (pw_and1 (pt_cmpR op_ne (pe_ix (r := rIxT K) ix_tup (pv 0) pe_int (fun _ _ => rfl)) pe_str (nomark _))))))))) (pss_one (ps_ret pe_bl)) pss_nil)
        (pss_cons (ps_if (PW.pt (pw_or (pt_not (pt_val (pe_cd d_law_is_fraction (hr.mono (by decide)) (by rfl) (pa_cons (pe_ix (r := rIxT K) ix_tup (pv 0) pe_int (fun _ _ => rfl)) pa_nil)))) (pw_or (pt_cmpR op_le (pe_ix (r := rIxT K) ix_tup (pe_ix (r := rIxT K) ix_tup (pv 0) pe_int (fun _ _ => rfl)) pe_int (fun _ _ => rfl)) pe_int (nomark _)) (pw_or1 (pt_not (pt_val (pe_cd d_law_are_fractions (hr.mono (by decide)) (by rfl) (pa_cons (pe_ix (r := rIxT K) ix_tup (pv 0) pe_int (fun _ _ => rfl)) (pa_cons (pv 1) pa_nil))))))))) (pss_one (ps_ret pe_bl)) pss_nil)
        (pss_one (ps_ret (pe_cd d_law_are_fractions (hr.mono (by decide)) (by rfl) (pa_cons (pe_ix (r := rIxT K) ix_tup (pv 0) pe_int (fun _ _ => rfl)) (pa_cons (pv 2) pa_nil))))))), fun H0 N D rt => ?_⟩
  have vn : 0 < z.v.num := Classical.byContradiction fun c => absurd h.v0 (Rat.not_lt.mpr ((Pq.fr h.v).sgn.2.1.mp (show z.v.num ≤ 0 by omega)))
  refine go_seq (go_if (b := false) (et_or (a := false) (et_not (a := true) (et_test (ev_isi (R := FdR K z) tyx_tup (by rfl) (ev_var rfl) fun _ _ _ q => q))) fun _ => et_or (a := false) (et_eq (et_test (ev_op ot_neI (ev_cb (ct_lenT (K := K)) (eva_cons (ev_var (R := FdR K z) rfl) eva_nil)) ev_int)) (by rfl)) fun _ => et_eq (et_and (et_test (ev_op (ot_neS (i := if z.met = true then "met" else "near")) (ev_op (ot_ixT (k := 0) rfl rfl) (ev_var rfl) ev_int) ev_str)) fun _ => et_test (ev_op (ot_neS (i := if z.met = true then "met" else "near")) (ev_op (ot_ixT (k := 0) rfl rfl) (ev_var rfl) ev_int) ev_str)) (by cases z.met <;> decide)) (fun e => by cases e) fun _ => go_next (go_seq ?_))
  refine go_if (b := false) (et_or (a := false) (et_not (a := true) (et_B (ev_call z.v (eva_cons (ev_op (ot_ixT (k := 1) rfl rfl) (ev_var rfl) ev_int) eva_nil) (den9 h.v)))) fun _ => et_or (a := false) (et_eq (et_test (ev_ile (ev_num (a := z.v) (ev_op (ot_ixT (k := 1) rfl rfl) (ev_var rfl) ev_int)) ev_int)) (decide_eq_false (by omega))) fun _ => et_not (a := true) (et_B (ev_call (z.g, z.y) (eva_cons (ev_op (ot_ixT (k := 2) rfl rfl) (ev_var rfl) ev_int) (eva_cons (ev_var rfl) eva_nil)) ⟨by have := h.g; show z.g ≤ 1000; omega, fun k hk => den9 (h.y k hk)⟩))) (fun e => by cases e) fun _ => go_next ?_
  exact go_back rt (ev_call (z.c, z.Q) (eva_cons (ev_op (ot_ixT (k := 3) rfl rfl) (ev_var rfl) ev_int) (eva_cons (ev_var rfl) eva_nil)) ⟨by have := h.c; show z.c ≤ 1000; omega, fun k hk => den9 (h.Q k hk)⟩)
abbrev s_law_told_papers : Stmt := (topS 95)
theorem sc_law_told_papers : FnScope ["_law_data_here", "_law_i", "_law_goods", "_law_buys", "_law_prices", "_law_found", "_law_money", "_law_more", "_law_lower"] ["_law_data_here", "_law_i", "_law_goods", "_law_buys", "_law_prices"] (defScope s_law_told_papers) := ⟨rfl, rfl, rfl, by decide +kernel, rfl, by decide +kernel, by decide +kernel⟩

abbrev PpR (K : PySem.W.Frag) (x : JnV) : Rp := Exr (fun a : Rat × (Nat → Rat) => Bd 2000 2000 a.1 ∧ Nd.PB x.z.nd a.2) fun a => Tp K [Fr K a.1, Fl K x.d.c a.2]
structure TpOk (x : JnV) : Prop where
  l : LnOk x
  q : ∀ k, k < x.d.g → Bd 40 10 (x.q k)
def sp_told_papers (K : PySem.W.Frag) : Sp := spN (fun x : JnV => [Dat K x.d, Nt x.i, Nt x.d.g, Buys K x.d, Fl K x.d.g x.q]) TpOk (fun _ => 3) (fun x _ => PpR K x)
theorem bd_q {x : Rat} (h : Bd 40 10 x) : Mid x := h.mid (by decide) (by decide)
theorem ok_told_papers (G : Gb K mg) (F : Def0 K mg "_law_told_papers" s_law_told_papers ["_law_data_here", "_law_i", "_law_goods", "_law_buys", "_law_prices"]) (d_least_need : DefOk P w K mg base "least_need" 9 ["data", "i", "prices"] (sp_least_need K)) (d_law_is_told : DefOk P w K mg base "_law_is_told" 4 ["_law_found", "_law_goods", "_law_count"] (sp_is_told K))
    (d_judge_need : DefOk P w K mg base "judge_need" 8 ["data", "i", "prices", "money", "paper"] (sp_judge_need K)) (d_judge_strict_need : DefOk P w K mg base "judge_strict_need" 9 ["data", "i", "prices", "money", "paper"] (sp_judge_strict_need K)) (d_law_add : DefOk P w K mg base "_law_add" 1 ["_law_a", "_law_b"] (sp_law_add K))
    (d_law_lowest : DefOk P w K mg base "_law_lowest" 2 ["_law_p", "_law_q"] (sp_law_lowest K)) : DefOk P w K mg base "_law_told_papers" 10 ["_law_data_here", "_law_i", "_law_goods", "_law_buys", "_law_prices"] (sp_told_papers K) := by
  refine okN F sc_law_told_papers (fun _ => rfl) (by decide) fun f cdv A outer s H E hr x h => ⟨_, (pss_cons (ps_set (i := 5) sc_law_told_papers.nd rfl (.inl rfl) (pe_cd d_least_need (hr.mono (by decide)) (by rfl) (pa_cons (pv 0) (pa_cons (pv 1) (pa_cons (pe_callTy (r := rListQ K) call_list_of (by rfl) G.list (by decide +kernel) (pa_cons (pv 4) pa_nil)) pa_nil)))))
        (pss_cons (ps_if (pt_not (pt_val (pe_cd d_law_is_told (hr.mono (by decide)) (by rfl) (pa_cons (pv 5) (pa_cons (pv 2) (pa_cons (pe_callB (r := rLenQ K) call_len_seq (by rfl) G.len PySem.boot_len (pa_cons (pv 3) pa_nil)) pa_nil)))))) (pss_one (ps_ret (pe_lst pa_nil))) pss_nil)
        (pss_cons (ps_set (i := 6) sc_law_told_papers.nd rfl (.inl rfl) (pe_ix (r := rIxT K) ix_tup (pv 5) pe_int (fun _ _ => rfl)))
        (pss_cons (ps_if (pt_cmpR (op_notO) (pe_cd d_judge_need (hr.mono (by decide)) (by rfl) (pa_cons (pv 0) (pa_cons (pv 1) (pa_cons (pe_callTy (r := rListQ K) call_list_of (by rfl) G.list (by decide +kernel) (pa_cons (pv 4) pa_nil)) (pa_cons (pv 6) (pa_cons (pe_callTy (r := rListQ K) call_list_of (by rfl) G.list (by decide +kernel) (pa_cons (pe_ix (r := rIxT K) ix_tup (pv 5) pe_int (fun _ _ => rfl)) pa_nil)) pa_nil)))))) pe_bl (nomark _)) (pss_one (ps_ret (pe_lst pa_nil))) pss_nil)
        (pss_cons (ps_if (PW.pt (pw_and (pt_cmpR op_eq (pe_ix (r := rIxT K) ix_tup (pv 5) pe_int (fun _ _ => rfl)) pe_str (nomark _)) (pw_and1 (pt_cmpR (op_notO) (pe_cd d_judge_strict_need (hr.mono (by decide)) (by rfl) (pa_cons (pv 0) (pa_cons (pv 1) (pa_cons (pe_callTy (r := rListQ K) call_list_of (by rfl) G.list (by decide +kernel) (pa_cons (pv 4) pa_nil)) (pa_cons (pv 6) (pa_cons (pe_callTy (r := rListQ K) call_list_of (by rfl) G.list (by decide +kernel) (pa_cons (pe_ix (r := rIxT K) ix_tup (pv 5) pe_int (fun _ _ => rfl)) pa_nil)) pa_nil)))))) pe_bl (nomark _))))) (pss_one (ps_ret (pe_lst pa_nil))) pss_nil)
        (pss_cons (ps_set (i := 7) sc_law_told_papers.nd rfl (.inl rfl) (pe_cd d_law_add (hr.mono (by decide)) (by rfl) (pa_cons (pv 6) (pa_cons (pe_tup (pa_cons pe_int (pa_cons (pe_op op_pow pe_int pe_int) pa_nil))) pa_nil))))
        (pss_cons (ps_set (i := 8) sc_law_told_papers.nd rfl (.inl rfl) (pe_cd d_law_lowest (hr.mono (by decide)) (by rfl) (pa_cons (pe_op op_mulW (pe_ix (r := rIxT K) ix_tup (pv 6) pe_int (fun _ _ => rfl)) pe_int) (pa_cons (pe_op op_mulW (pe_ix (r := rIxT K) ix_tup (pv 6) pe_int (fun _ _ => rfl)) pe_int) pa_nil))))
        (pss_one (ps_ret (pe_lst (pa_cons (pe_tup (pa_cons (pv 6) (pa_cons (pe_ix (r := rIxT K) ix_tup (pv 5) pe_int (fun _ _ => rfl)) pa_nil))) (pa_cons (pe_tup (pa_cons (pe_cd d_law_lowest (hr.mono (by decide)) (by rfl) (pa_cons (pe_ix (r := rIxT K) ix_tup (pv 7) pe_int (fun _ _ => rfl)) (pa_cons (pe_ix (r := rIxT K) ix_tup (pv 7) pe_int (fun _ _ => rfl)) pa_nil))) (pa_cons (pe_ix (r := rIxT K) ix_tup (pv 5) pe_int (fun _ _ => rfl)) pa_nil))) (pa_cons (pe_tup (pa_cons (pv 8) (pa_cons (pe_ix (r := rIxT K) ix_tup (pv 5) pe_int (fun _ _ => rfl)) pa_nil))) pa_nil))))))))))))), fun H0 N D rt => ?_⟩
  have L := h.l
  have D' := L.d
  refine go_seq (go_set (ev_call x (eva_cons (ev_var rfl) (eva_cons (ev_var rfl) (eva_cons (evn_list (ev_var rfl)).ev eva_nil))) L) (go_open (i := 5) rfl fun a ha => go_seq ?_))
  obtain ⟨met, v, y, Q⟩ := a
  have hv : Bd 909 866 v := ha.bd
  have v0 : 0 < v := ha.pos
  have hy : ∀ k, k < x.d.g → Bd 2000 2000 (y k) := ha.y
  have hold : Nd.Holds x.z.nd Q v := ha.holds
  have pb : Nd.PB x.z.nd Q := ha.pb
  have hst : met = false → StrictR { x with P := Q } := ha.st
  have hQ : ∀ k, k < x.d.c → Bd 2000 2000 (Q k) := fun k hk => (pb.p k hk).mono (by decide) (by decide)
  have hv2 : Bd 2000 2000 v := hv.mono (by decide) (by decide)
  have J : JnOk { x with v := v, P := Q } := ⟨D', L.i, hv2.mid (by decide) (by decide), fun k hk => bd_q (h.q k hk), pb⟩
  show Go ⟨H0, N, [], [some (Dat K x.d), some (Nt x.i), some (Nt x.d.g), some (Buys K x.d), some (Fl K x.d.g x.q), some (FdR K ⟨met, v, x.d.g, y, x.d.c, Q⟩), none, none, none]⟩ _
  refine go_if (b := false) (et_not (a := true) (et_B (ev_call (⟨met, v, x.d.g, y, x.d.c, Q⟩ : ItV) (eva_cons (ev_var rfl) (eva_cons (ev_var rfl) (eva_cons (ev_cb ct_len (eva_cons (ev_var rfl) eva_nil)) eva_nil))) ⟨hv2, v0, D'.g, D'.c, hy, hQ⟩))) (fun e => by cases e) fun _ => go_next (go_seq ?_)
  refine go_set (R := Fr K v) (ev_op (ot_ixT (k := 1) rfl rfl) (ev_var rfl) ev_int) (go_seq ?_)
  have ejn : ∀ {o o' : Option Rp}, EVA ⟨H0, N, [], [some (Dat K x.d), some (Nt x.i), some (Nt x.d.g), some (Buys K x.d), some (Fl K x.d.g x.q), some (FdR K ⟨met, v, x.d.g, y, x.d.c, Q⟩), some (Fr K v), o, o']⟩ (tCons (tVar 0) (tCons (tVar 1) (tCons (tCB (rListQ K) (tCons (tVar 4) tNil)) (tCons (tVar 6) (tCons (tCB (rListQ K) (tCons (tOp (rIxT K) (tVar 5) (tC (.int 3))) tNil)) tNil))))) (jnPre K { x with v := v, P := Q }) := fun {o o'} => eva_cons (ev_var rfl) (eva_cons (ev_var rfl) (eva_cons (evn_list (ev_var rfl)).ev (eva_cons (ev_var rfl) (eva_cons (evn_list (ev_op (ot_ixT (k := 3) rfl rfl) (ev_var rfl) ev_int)).ev eva_nil))))
  refine go_if (b := false) (et_eq (et_test (ev_op (ot_notO (o := some true)) (ev_sub (R := Bo true) (ev_eq (ev_trE (ev_call (⟨x.d, x.i, x.q, v, Q⟩ : JnV) (ejn (o := none) (o' := none)) J)) (by rw [tr_iff.mpr hold])) fun _ _ q => q) ev_bl)) (by decide)) (fun e => by cases e) fun _ => go_next (go_seq ?_)
  refine go_if (b := false) (et_eq (et_and (a := !met) (b := false) (et_eq (et_test (ev_op (ot_eqS (i := if met = true then "met" else "near")) (ev_op (ot_ixT (k := 0) rfl rfl) (ev_var rfl) ev_int) ev_str)) (by cases met <;> decide)) fun e => ?_) (by simp)) (fun e => by cases e) fun _ => go_next (go_seq ?_)
  · have hm : met = false := by simpa using e
    exact et_eq (et_test (ev_op (ot_notO (o := some true)) (ev_sub (R := Bo true) (ev_eq (ev_trE (ev_call (⟨x.d, x.i, x.q, v, Q⟩ : JnV) (ejn (o := none) (o' := none)) J)) (by rw [tr_iff.mpr ⟨hold, hst hm⟩])) fun _ _ q => q) ev_bl)) (by decide)
  have zv := fr_zb hv
  have zm : Zb 1 20 ((1 : Int), (10 : Int) ^ 6) := ⟨by decide, by decide, by decide⟩
  refine go_set (R := Pr2 K (v.num * 10 ^ 6 + 1 * (v.den : Int), (v.den : Int) * 10 ^ 6)) (ev_madd (x := (v.num, (v.den : Int))) (y := (1, 10 ^ 6)) (ev_var rfl) (ev_tup (eva_cons ev_int (eva_cons (ev_pow ev_int ev_int ⟨by decide, by decide, by decide⟩) eva_nil))) (zv.pp zm (by decide))) (go_seq ?_)
  have zs := (zv.add zm (e := 930) (by decide) (by decide)).up (c := 1000) (d := 1000) (by decide) (by decide)
  have n3 : (v.num * 3).natAbs < 2 ^ 1000 := nabs_mul zv.n (show (3 : Int).natAbs < 2 ^ 2 by decide) (by decide)
  have d4 : ((v.den : Int) * 4).natAbs < 2 ^ 1000 := nabs_mul zv.d (show (4 : Int).natAbs < 2 ^ 3 by decide) (by decide)
  have p4 : 0 < (v.den : Int) * 4 := Int.mul_pos zv.pos (by decide)
  refine go_set (R := BF K 1000) (ev_sub (ev_call (v.num * 3, (v.den : Int) * 4) (eva_cons (ev_imul (ev_num (ev_var rfl)) ev_int (mulW (nabs_up zv.n) (nabs_up (show (3 : Int).natAbs < 2 ^ 2 by decide)))) (eva_cons (ev_imul (ev_den (ev_var rfl)) ev_int (mulW (nabs_up zv.d) (nabs_up (show (4 : Int).natAbs < 2 ^ 3 by decide)))) eva_nil)) ⟨p4, nabs_up d4 (by decide)⟩) fun H v r => ⟨_, (low_bd p4 n3 d4).1, r⟩) ?_
  have mk : ∀ {S : Sta} {tm : TE}, S.Γ[5]? = some (some (FdR K ⟨met, v, x.d.g, y, x.d.c, Q⟩)) → EV S tm (BF K 2000) → EV S (tTup (tCons tm (tCons (tOp (rIxT K) (tVar 5) (tC (.int 3))) tNil))) (PpR K x) := fun {S tm} h5 hm => ev_sub (ev_tup (K := K) (eva_cons hm (eva_cons (R := Fl K x.d.c Q) (ev_op (ot_ixT (k := 3) rfl rfl) (ev_var h5) ev_int) eva_nil))) fun H u ⟨b, vs, e, hs, v1, r1, e1, ⟨m, hm', rm⟩, rest⟩ => ⟨(m, Q), ⟨hm', pb⟩, b, vs, e, hs, v1, r1, e1, rm, rest⟩
  refine go_retN rt (evn_sub (evn_lst (eva_cons (mk rfl (ev_sub (ev_var rfl) (bf_of hv2 (Nat.le_refl _) (Nat.le_refl _)))) (eva_cons (mk rfl (ev_sub (ev_call (v.num * 10 ^ 6 + 1 * (v.den : Int), (v.den : Int) * 10 ^ 6) (eva_cons (ev_p1 (ev_var rfl)) (eva_cons (ev_p2 (ev_var rfl)) eva_nil)) ⟨zs.pos, nabs_up zs.d (by decide)⟩) fun H v r => ⟨_, (low_bd zs.pos zs.n zs.d).1.mono (by decide) (by decide), r⟩)) (eva_cons (mk rfl (ev_sub (ev_var rfl) (bf_mono (by decide)))) eva_nil)))) fun k hk H v r => ?_)
  have hk : k < 3 := hk
  rcases k with _ | _ | _ | k
  · exact r
  · exact r
  · exact r
  · omega
end
end BB
namespace BB
open PySem PySem.Spec PyProof.Rows L2
section
variable {P : Program} {w : World} {K : PySem.W.Frag} {mg : Str → Option Value} {base : Heap}
/-! ### what is asked -/
abbrev s_law_asked : Stmt := (topS 85)
theorem sc_law_asked : FnScope ["_law_script", "_law_place", "_law_goods", "_law_buys", "_law_row_here", "_law_prices", "_law_money", "_law_exact", "_law_k"] ["_law_script", "_law_place", "_law_goods", "_law_buys"] (defScope s_law_asked) := ⟨rfl, rfl, rfl, by decide +kernel, rfl, by decide +kernel, by decide +kernel⟩

structure AsV where
  ns : List Int
  d : DataV
def AsS (g : Nat) (q : Nat → Rat) : Prop := ∀ k, k < g → Bd 40 10 (q k) ∧ 0 < q k
def sp_law_asked (K : PySem.W.Frag) : Sp := spR (fun z : AsV => [Sc K z.ns, Nt 9, Nt z.d.g, Buys K z.d]) (fun z => LawD z.d) (fun z => Exr (AsS z.d.g) fun q => Tp K [Fl K z.d.g q, Ay])
theorem ok_law_asked (G : Gb K mg) (F : Def0 K mg "_law_asked" s_law_asked ["_law_script", "_law_place", "_law_goods", "_law_buys"]) (d_law_row : DefOk P w K mg base "_law_row" 1 ["_law_script", "_law_place", "_law_many"] (sp_law_row K)) (d_law_lowest : DefOk P w K mg base "_law_lowest" 2 ["_law_p", "_law_q"] (sp_law_lowest K))
    (d_law_dot : DefOk P w K mg base "_law_dot" 1 ["_law_a", "_law_b"] (sp_law_dot K)) : DefOk P w K mg base "_law_asked" 3 ["_law_script", "_law_place", "_law_goods", "_law_buys"] (sp_law_asked K) := by
  refine okD F sc_law_asked (fun _ => rfl) (by decide) fun f cdv A outer s H E hr ⟨ns, d⟩ h => ⟨_, (pss_cons (ps_set (i := 4) sc_law_asked.nd rfl (.inr rfl) (pe_cd d_law_row (hr.mono (by decide)) (by rfl) (pa_cons (pv 0) (pa_cons (pv 1) (pa_cons pe_int pa_nil)))))
        (pss_cons (ps_setLc (i := 5) (own := [("_law_k", 8)]) (g := (gName 8)) (tt := tYes) rfl sc_law_asked.nd rfl rfl (sw_true rfl rfl rfl (by decide +kernel)) (pi_range1 (by rfl) G.range (pa_cons (pv 2) pa_nil)) (blkOk_by (N := ["_law_script", "_law_place", "_law_goods", "_law_buys", "_law_row_here", "_law_prices", "_law_money", "_law_exact", "_law_k"]) (own := [("_law_k", 8)]) (sc := (defScope s_law_asked)) (by decide +kernel)) (fun _ _ _ _ _ => (pg_name (i := 8) sc_law_asked.nd rfl (.inl rfl))) (fun _ _ _ _ _ => pts_nil) (fun _ _ _ _ _ => (pe_cd d_law_lowest (hr.mono (by decide)) (by rfl) (pa_cons (pe_op op_add pe_int (pe_op op_mod (pe_callTy call_int1 (by rfl) G.int (by decide +kernel) (pa_cons (pe_ix (r := rIxL K) ix_list (pv 4) (pe_op op_mulW pe_int (pv 8)) (fun _ _ => rfl)) pa_nil)) pe_int)) (pa_cons (pe_op op_add pe_int (pe_op op_mod (pe_callTy call_int1 (by rfl) G.int (by decide +kernel) (pa_cons (pe_ix (r := rIxL K) ix_list (pv 4) (pe_op op_add (pe_op op_mulW pe_int (pv 8)) pe_int) (fun _ _ => rfl)) pa_nil)) pe_int)) pa_nil)))))
        (pss_cons (ps_if (PW.pt (pw_and (pt_truthK (K := K) rfl (pv 3) (by intro _; rfl)) (pw_and1 (pt_cmpR op_eq (pe_op op_mod (pe_callTy call_int1 (by rfl) G.int (by decide +kernel) (pa_cons (pe_ix (r := rIxL K) ix_list (pv 4) pe_int (fun _ _ => rfl)) pa_nil)) pe_int) pe_int (nomark _))))) (pss_one (ps_set (i := 5) sc_law_asked.nd rfl (.inl rfl) (pe_callTy (r := rListQ K) call_list_of (by rfl) G.list (by decide +kernel) (pa_cons (pe_ix (r := rIxT K) ix_tup (pe_ix (r := rIxL K) ix_list (pv 3) (pe_op op_mod (pe_callTy call_int1 (by rfl) G.int (by decide +kernel) (pa_cons (pe_ix (r := rIxL K) ix_list (pv 4) pe_int (fun _ _ => rfl)) pa_nil)) (pe_callB (r := rLenQ K) call_len_seq (by rfl) G.len PySem.boot_len (pa_cons (pv 3) pa_nil))) (fun _ _ => rfl)) pe_int (fun _ _ => rfl)) pa_nil)))) pss_nil)
        (pss_cons (ps_set (i := 6) sc_law_asked.nd rfl (.inl rfl) (pe_cd d_law_lowest (hr.mono (by decide)) (by rfl) (pa_cons (pe_op op_add pe_int (pe_op op_mod (pe_callTy call_int1 (by rfl) G.int (by decide +kernel) (pa_cons (pe_ix (r := rIxL K) ix_list (pv 4) pe_int (fun _ _ => rfl)) pa_nil)) pe_int)) (pa_cons (pe_op op_add pe_int (pe_op op_mod (pe_callTy call_int1 (by rfl) G.int (by decide +kernel) (pa_cons (pe_ix (r := rIxL K) ix_list (pv 4) pe_int (fun _ _ => rfl)) pa_nil)) pe_int)) pa_nil))))
        (pss_cons (ps_if (PW.pt (pw_and (pt_truthK (K := K) rfl (pv 3) (by intro _; rfl)) (pw_and1 (pt_cmpR op_eq (pe_op op_mod (pe_callTy call_int1 (by rfl) G.int (by decide +kernel) (pa_cons (pe_ix (r := rIxL K) ix_list (pv 4) pe_int (fun _ _ => rfl)) pa_nil)) pe_int) pe_int (nomark _))))) (pss_cons (ps_set (i := 7) sc_law_asked.nd rfl (.inl rfl) (pe_cd d_law_dot (hr.mono (by decide)) (by rfl) (pa_cons (pv 5) (pa_cons (pe_ix (r := rIxT K) ix_tup (pe_ix (r := rIxL K) ix_list (pv 3) (pe_op op_mod (pe_callTy call_int1 (by rfl) G.int (by decide +kernel) (pa_cons (pe_ix (r := rIxL K) ix_list (pv 4) pe_int (fun _ _ => rfl)) pa_nil)) (pe_callB (r := rLenQ K) call_len_seq (by rfl) G.len PySem.boot_len (pa_cons (pv 3) pa_nil))) (fun _ _ => rfl)) pe_int (fun _ _ => rfl)) pa_nil))))
        (pss_one (ps_set (i := 6) sc_law_asked.nd rfl (.inl rfl) (pe_cd d_law_lowest (hr.mono (by decide)) (by rfl) (pa_cons (pe_ix (r := rIxT K) ix_tup (pv 7) pe_int (fun _ _ => rfl)) (pa_cons (pe_ix (r := rIxT K) ix_tup (pv 7) pe_int (fun _ _ => rfl)) pa_nil)))))) pss_nil)
        (pss_one (ps_ret (pe_tup (pa_cons (pv 5) (pa_cons (pv 6) pa_nil)))))))))), fun H0 N D rt => ?_⟩
  have L : LawD d := h
  have hc := L.c
  have hg := L.g
  refine go_seq (go_set (ev_call (⟨ns, 9, 14⟩ : RowV) (eva_cons (ev_var rfl) (eva_cons (ev_var rfl) (eva_cons ev_int eva_nil))) ⟨show 9 ≤ 100 by decide, show 14 ≤ 100 by decide⟩) (go_open (i := 4) rfl fun f hf => go_seq ?_))
  have hf : ∀ k, k < 14 → f k < 1000 := hf
  have e2 : ∀ {M : Mt} {Γ : List (Option Rp)} {k : Nat}, k < 4 → Γ[8]? = some (some (Nt k)) → EV ⟨H0, N, M, Γ⟩ (tOp (rI CMulW fun i j => .int (i * j)) (tC (.int 2)) (tVar 8)) (It (2 * (k : Int))) := fun {M Γ k} hk hh => ev_imul ev_int (ev_var hh) (cm40 (by decide) (by omega))
  let AR : Rp := Exr (AsS d.g) (Fl K d.g)
  refine go_set (R := AR) (ev_sub (evn_lcR (n := d.g) (R := fun _ => PF K 40 10) (eva_cons (ev_var rfl) eva_nil) (by omega) fun Dq k hk => ev_sub (ev_low (a := 4) (b := 3) (ev_1p (ev_dm (n := 14) (f := f) (k := 2 * k) (ev_var rfl) (e2 (by omega) rfl) (by omega) (by omega) (by decide))) (ev_1p (ev_dm (n := 14) (f := f) (k := 2 * k + 1) (ev_var rfl) (ev_iadd (e2 (by omega) rfl) ev_int) (by omega) (by omega) (by decide))) (mod1_lt (a := 3) (by decide) (by decide)).2 (mod1_lt (by decide) (by decide)).1 (mod1_lt (by decide) (by decide)).1 (by decide) (mod1_lt (a := 4) (by decide) (by decide)).2) (pf_up (by decide) (by decide))).ev li_pick) (go_seq ?_)
  let Γ1 : Rp → List (Option Rp) := fun R => [some (Sc K ns), some (Nt 9), some (Nt d.g), some (Buys K d), some (Il 14 f), some R, none, none, none]
  have ebuy : ∀ {S : Sta} {k : Nat}, 0 < d.c → k < 14 → S.Γ[3]? = some (some (Buys K d)) → S.Γ[4]? = some (some (Il 14 f)) → EV S (tOp (rIxL K) (tVar 3) (tOp (rI (fun _ j => 0 < j) fun i j => .int (i % j)) (tCB rInt1 (tCons (tOp (rIxL K) (tVar 4) (tC (.int (k : Int)))) tNil)) (tCB (rLenQ K) (tCons (tVar 3) tNil)))) (Buy K d.g (d.pr (f k % d.c)) (d.am (f k % d.c))) := fun {S k} hc0 hk h3 h4 =>
    ev_op (ot_ixL (R := fun i => Buy K d.g (d.pr i) (d.am i)) (k := f k % d.c) rfl (Nat.mod_lt _ hc0)) (ev_var h3) (ev_mod (ev_d (n := 14) (f := f) (k := k) (ev_var h4) ev_int rfl hk) (ev_cb ct_len (eva_cons (ev_var h3) eva_nil)) (by omega))
  refine go_ifj ⟨H0, N, [], Γ1 AR⟩ (et_and (et_truth (ev_var rfl)) fun _ => et_test (ev_op ot_eqI (ev_dm (n := 14) (f := f) (k := 12) (ev_var rfl) ev_int rfl (by decide) (by decide)) ev_int)) (fun e nx kk => ?_) (fun e nx kk => go_next fun σ H st => kk σ H (st.wk (by repeat first | exact Wk.nil | refine Wk.keep ?_ | refine Wk.drop ?_))) (go_seq ?_)
  · have hc0 : 0 < d.c := by
      rw [Bool.and_eq_true] at e
      exact of_decide_eq_true e.1
    refine go_set (R := AR) (ev_sub (evn_list (ev_op (ot_ixT (k := 0) rfl rfl) (ebuy (k := 13) hc0 (by decide) rfl rfl) ev_int)).ev fun H v r => ⟨_, fun k hk => L.pr _ (Nat.mod_lt _ hc0) k hk, r⟩) fun σ H st => kk σ H (st.wk (by repeat first | exact Wk.nil | refine Wk.keep ?_ | refine Wk.drop ?_))
  refine go_open (i := 5) rfl fun q hq => ?_
  have hq : AsS d.g q := hq
  refine go_set (R := Ay) (ev_sub (ev_low (a := 5) (b := 3) (ev_1p (ev_dm (n := 14) (f := f) (k := 8) (ev_var rfl) ev_int rfl (by decide) (by decide))) (ev_1p (ev_dm (n := 14) (f := f) (k := 9) (ev_var rfl) ev_int rfl (by decide) (by decide))) (mod1_lt (a := 3) (by decide) (by decide)).2 (mod1_lt (by decide) (by decide)).1 (mod1_lt (by decide) (by decide)).1 (by decide) (mod1_lt (a := 5) (by decide) (by decide)).2) fun _ _ _ => trivial) (go_seq ?_)
  have rest : Go ⟨H0, N, [], [some (Sc K ns), some (Nt 9), some (Nt d.g), some (Buys K d), some (Il 14 f), some (Fl K d.g q), some Ay, none, none]⟩ (tRet (tTup (tCons (tVar 5) (tCons (tVar 6) tNil))) D) := go_ex (f := fun q => Tp K [Fl K d.g q, Ay]) rt q hq (ev_tup (eva_cons (ev_var rfl) (eva_cons (ev_var rfl) eva_nil)))
  refine go_ifj ⟨H0, N, [], [some (Sc K ns), some (Nt 9), some (Nt d.g), some (Buys K d), some (Il 14 f), some (Fl K d.g q), some Ay, none, none]⟩ (et_and (et_truth (ev_var rfl)) fun _ => et_test (ev_op ot_eqI (ev_dm (n := 14) (f := f) (k := 10) (ev_var rfl) ev_int rfl (by decide) (by decide)) ev_int)) (fun e nx kk => ?_) (fun e nx kk => go_next fun σ H st => kk σ H (st.wk (by repeat first | exact Wk.nil | refine Wk.keep ?_ | refine Wk.drop ?_))) rest
  have hc0 : 0 < d.c := by
    rw [Bool.and_eq_true] at e
    exact of_decide_eq_true e.1
  refine go_seq (go_set (ev_call (⟨d.g, 40, q, d.am (f 11 % d.c)⟩ : LdV) (eva_cons (ev_var rfl) (eva_cons (ev_op (ot_ixT (k := 1) rfl rfl) (ebuy (k := 11) hc0 (by decide) rfl rfl) ev_int) eva_nil)) ⟨hg, show 1 ≤ 40 by decide, show 40 ≤ 1500 by decide, fun k hk => (hq k hk).1.mono (show 40 ≤ 40 by decide) (show 10 ≤ 40 by decide), fun k hk => (L.am _ (Nat.mod_lt _ hc0) k hk).1.mono (show 40 ≤ 40 by decide) (show 10 ≤ 40 by decide)⟩) (go_open (i := 7) rfl fun z hz => ?_))
  have zz := pq_zb hz
  exact go_set (R := Ay) (ev_sub (ev_call (z.1, z.2) (eva_cons (ev_p1 (ev_var rfl)) (eva_cons (ev_p2 (ev_var rfl)) eva_nil)) ⟨zz.pos, nabs_up zz.d (show 8 * 40 + 8 ≤ 9000 by decide)⟩) fun _ _ _ => trivial) fun σ H st => kk σ H (st.wk (by repeat first | exact Wk.nil | refine Wk.keep ?_ | refine Wk.drop ?_))
end
end BB
namespace BB
open PySem PySem.Spec PyProof.Rows L2
section
variable {K : PySem.W.Frag} {H0 G : Hp} {N : List Addr} {x : Addr} {Γ : List (Option Rp)} {i : Nat} {nx : L2.St → Hp → Prop} {rt : VK} {bk ct : L2.St → Hp → Prop}
/-- x.f = e, the instance at x being made -/
theorem go_fld {tv : TE} {R : Rp} {C dx : Addr} {fs : List (Str × V)} {f : Str} (hx : G x = some (.ins C dx fs)) (c : L2.Cls K C) (na : NoAttr K C f) (hl : fs.length < 1000) (hi : Γ[i]? = some (some (Pt x))) (hv : EV ⟨G, x :: N, [], Γ⟩ tv R)
    (kont : ∀ G' y, (∀ b o, b ≠ x → G b = some o → G' b = some o) → G' x = some (.ins C dx (putF f y fs)) → R.p (hid G' (x :: N)) y → Go ⟨G', x :: N, [], Γ⟩ nx) : Go ⟨G, x :: N, [], Γ⟩ (sFld K (tVar i) tv f ⟨nx, rt, bk, ct⟩) := fun σ H st => by
  refine hv σ H st _ fun y H1 s1 r1 => ?_
  have st1 := st.mono s1
  obtain ⟨v, e1, e2⟩ := st1.sl i _ hi
  have e2' : v = .ref x := e2
  subst e2'
  refine ⟨.ref x, e1, x, C, dx, fs, rfl, st1.same _ _ hx, c, na, hl, ?_⟩
  refine kont (upd (hid H1 (adr [])) x (.ins C dx (putF f y fs))) y (fun b o hb e => ?_) upd_same (R.mono (fun b o e => hid_cons_hid e) r1) σ _ st1.qwr
  rw [upd_ne hb]
  exact hid_out (fun z => nomatch z) (st1.same _ _ e)
end
section
variable {S : Sta} {K : PySem.W.Frag} {te tl : TE} {n i j : Nat} {R0 R : Nat → Rp}
theorem wipe2 (σ : L2.St) (i j : Nat) (x y : V) : wipe (((wipe σ [i, j]).set i (some x)).set j (some y)) [i, j] = wipe σ [i, j] := by
  show (((((σ.set j none).set i none).set i (some x)).set j (some y)).set j none).set i none = (σ.set j none).set i none
  refine List.ext_getElem? fun k => ?_
  simp only [List.getElem?_set, List.length_set]
  split <;> split <;> simp_all
theorem evn_lcLT {Ra Rb : Nat → Rp} (ij : i ≠ j) (hn : EV S tl (Li n fun k => Tp K [Ra k, Rb k])) (hl : n ≤ 1000) (he : ∀ D k, k < n → EV { S with M := (D, k, R) :: S.M, Γ := (((S.Γ.set j none).set i none).set i (some (Ra k))).set j (some (Rb k)) } te (R k)) : EVN S (tLc (iList K tl) (gTup K 2 (gCons (gName i) (gCons (gName j) gNil))) tYes te [i, j]) n R := fun σ H st Q q =>
  hn σ H st _ fun v H1 s1 ⟨a, vs, e, hs, hlv, f⟩ => by
    subst e
    refine ⟨a, rfl, ⟨vs, .inl (.inl (hid_sub _ _ hs))⟩, fun D hD => ?_⟩
    have st1 := st.mono s1
    have ha : H1 a = some (.lst vs) := hid_sub _ _ hs
    refine lc_list (xs := vs) (fun k H' => Same H1 H' ∧ ∃ acc, H' D = some (.lst acc) ∧ acc.length = k ∧ ∀ j x, acc[j]? = some x → (R j).p (hid H' (D :: S.hd)) x) ⟨same_new hD, [], upd_same, rfl, fun j x z => by simp at z⟩ (fun k H' _ ⟨s2, _⟩ => .inl (.inl (s2 _ _ ha))) (fun k x H' hk ⟨s2, acc, e1, e2, e3⟩ => ?_) fun H' ⟨s2, acc, e1, e2, e3⟩ => ?_
    · have hkn : k < n := by rw [← hlv]; exact (List.getElem?_eq_some_iff.mp hk).1
      obtain ⟨b, us, ex, hb, al⟩ := (Tp K [Ra k, Rb k]).mono (hid_fresh s2 hD) (f k x hk)
      obtain ⟨u1, u2, eu, r1, r2⟩ := al2 al
      subst ex eu
      refine ⟨b, [u1, u2], rfl, seqT hid_sub hb, rfl, u1, [u2], rfl, u2, [], rfl, rfl, wipe2 σ i j _ _, ?_⟩
      have base : Stt { S with M := (D, k, R) :: S.M } σ H' := st1.newM s2 hD e1 e2 e3
      have st4 := (((base.drop (i := j)).drop (i := i)).set (i := i) (R := Ra k) r1).set (i := j) (R := Rb k) r2
      show te _ H' _
      refine he D k hkn _ H' st4 _ fun y H4 s4 r4 => ?_
      have kp : Same (hid H' (D :: S.hd)) (hid H4 (D :: S.hd)) := hid_same s4
      refine ⟨acc, s4 _ _ e1, by rw [e2]; exact small1000 (by omega), fun b o z => ?_, _, upd_same, ?_⟩
      · rw [upd_ne (ne_of_none z hD)]
        exact s4 _ _ (s2 _ _ z)
      · exact st1.grow hD (s2.trans s4) (s4 _ _ e1) e2 (fun j x z => (R j).mono kp (e3 j x z)) r4
    · rw [hlv] at e2
      exact q D acc H' (s1.trans s2) (s1.free hD) e1 e2 e3
end
section
variable {P : Program} {w : World} {K : PySem.W.Frag} {mg : Str → Option Value} {base : Heap}
abbrev s_init' : Stmt := inClass (topS 17) 0
/-! ### a book made -/
abbrev s_init : Stmt := (inClass (topS 17) 0)
theorem sc_init : FnScope ["self", "goods", "buys", "links", "prices", "amounts"] ["self", "goods", "buys", "links"] (defScope s_init) := ⟨rfl, rfl, rfl, by decide +kernel, rfl, by decide +kernel, by decide +kernel⟩

structure IniV where
  d : DataV
  x : Addr
  C : Addr
  dx : Addr
structure IniOk (K : PySem.W.Frag) (z : IniV) (N : List Addr) (H : Hp) : Prop where
  at' : H z.x = some (.ins z.C z.dx [])
  cl : L2.Cls K z.C
  n1 : NoAttr K z.C "goods"
  n2 : NoAttr K z.C "buys"
  n3 : NoAttr K z.C "links"
  xn : z.x ∉ N
  nu : ∀ a ∈ N, H a ≠ none
  c : z.d.c ≤ 100
def sp_init (K : PySem.W.Frag) : Sp := fun vs H Q _ => ∃ z N, IniOk K z N H ∧ AL [Pt z.x, Nt z.d.g, Buys K z.d, Lnks K z.d] (hid H (z.x :: N)) vs ∧ ∀ H', (∀ b o, b ≠ z.x → H b = some o → H' b = some o) → (Dat K z.d).p (hid H' N) (.ref z.x) → Q .non H'
theorem ok_init (G : Gb K mg) {f : Addr} {fd : FuncData} (F : FunD K "__init__" "Data.__init__" (defArgs s_init) (defBody s_init) (defScope s_init) [] [] f fd) : FnOk P w K mg base CX0 1 f fd ["self", "goods", "buys", "links"] (sp_init K) := by
  refine F.ok sc_init (fun vs H Q E ⟨z, N, _, h, _⟩ => by rw [h.length]; rfl) fun cdv A outer s H vs Q E hr ⟨z, N, O, ha, hq⟩ => ?_
  refine ⟨_, PSs.nox ((pss_cons (ps_fld (pv 0) (pv 1) rfl)
        (pss_cons (ps_fld (pv 0) (pe_lc (own := [("prices", 4), ("amounts", 5)]) (g := (gTup K 2 (gCons (gName 4) (gCons (gName 5) gNil)))) (tt := tYes) rfl sc_init.nd (pi_listK (K := K) rfl (pv 2)) (blkOk_by (N := ["self", "goods", "buys", "links", "prices", "amounts"]) (own := [("prices", 4), ("amounts", 5)]) (sc := (defScope s_init)) (by decide +kernel)) (fun _ _ _ _ _ => (pg_tupK (K := K) rfl (by rfl) (pgs_cons (pg_name (i := 4) sc_init.nd rfl (.inl rfl)) (pgs_cons (pg_name (i := 5) sc_init.nd rfl (.inl rfl)) pgs_nil)))) (fun _ _ _ _ _ => pts_nil) (fun _ _ _ _ _ => (pe_tup (pa_cons (pe_callTy (r := rListQ K) call_list_of (by rfl) G.list (by decide +kernel) (pa_cons (pv 4) pa_nil)) (pa_cons (pe_callTy (r := rListQ K) call_list_of (by rfl) G.list (by decide +kernel) (pa_cons (pv 5) pa_nil)) pa_nil))))) rfl)
        (pss_one (ps_fld (pv 0) (pe_callTy (r := rListQ K) call_list_of (by rfl) G.list (by decide +kernel) (pa_cons (pv 3) pa_nil)) rfl))))), ?_⟩
  obtain ⟨d, x, C, dx⟩ := z
  have hx : H x = some (.ins C dx []) := O.at'
  have xn : x ∉ N := O.xn
  have c : L2.Cls K C := O.cl
  have hc : d.c ≤ 100 := O.c
  have hN : ∀ a ∈ x :: N, H a ≠ none := fun a ha => by
    rcases List.mem_cons.mp ha with e | e
    · rw [e, hx]; exact fun z => nomatch z
    · exact O.nu a e
  have st0 := start_stt (names := ["self", "goods", "buys", "links", "prices", "amounts"]) hN ha (show 4 ≤ 6 by decide)
  refine (?_ : Go ⟨H, x :: N, [], [some (Pt x), some (Nt d.g), some (Buys K d), some (Lnks K d), none, none]⟩ _) _ _ st0
  · skip
    refine go_seq (go_fld hx c O.n1 (by decide) rfl (ev_var rfl) fun G1 y1 up1 hx1 r1 => go_seq ?_)
    refine go_fld (R := Buys K d) hx1 c O.n2 (by show 1 < 1000; decide) rfl (evn_lcLT (n := d.c) (Ra := fun i => Fl K d.g (d.pr i)) (Rb := fun i => Fl K d.g (d.am i)) (R := fun i => Buy K d.g (d.pr i) (d.am i)) (by decide) (ev_var rfl) (by omega) fun D k hk => ev_tup (eva_cons (evn_list (ev_var rfl)).ev (eva_cons (evn_list (ev_var rfl)).ev eva_nil))).ev fun G2 y2 up2 hx2 r2 => ?_
    refine go_fld (R := Lnks K d) hx2 c O.n3 (by show 2 < 1000; decide) rfl (evn_list (ev_var rfl)).ev fun G3 y3 up3 hx3 r3 => fun σ H' st => ?_
    refine hq H' (fun b o hb e => st.same _ _ (up3 b o hb (up2 b o hb (up1 b o hb e)))) ?_
    have upN : ∀ {X : Hp}, (∀ b o, b ≠ x → X b = some o → H' b = some o) → Same (hid X (x :: N)) (hid H' N) := fun {X} hX b o e => by
      have nb : b ∉ x :: N := fun z => by
        unfold hid at e
        rw [if_pos z] at e; cases e
      have eb := hid_sub _ _ e
      exact hid_out (fun z => nb (List.mem_cons_of_mem _ z)) (hX b o (fun z => nb (by rw [z]; exact List.mem_cons_self ..)) eb)
    refine ⟨x, C, dx, _, y2, y3, rfl, hid_out xn (st.same _ _ hx3), c, O.n2, O.n3, ?_, ?_, (Buys K d).mono (upN fun b o hb e => st.same _ _ (up3 b o hb e)) r2, (Lnks K d).mono (upN fun b o hb e => st.same _ _ e) r3⟩
    · rw [lookup_putF, if_neg (by decide), lookup_putF, if_pos rfl]
    · rw [lookup_putF, if_pos rfl]
end
end BB
namespace BB
open PySem PySem.Spec PyProof.Rows L2
section
variable {P : Program} {w : World} {K : PySem.W.Frag} {mg : Str → Option Value} {base : Heap}
theorem ev_make {S : Sta} {t : TA} {d : DataV} {C : Addr} {E : XK} (c : L2.Cls K C) (n1 : NoAttr K C "goods") (n2 : NoAttr K C "buys") (n3 : NoAttr K C "links") (hc : d.c ≤ 100) (h : EVA S t [Nt d.g, Buys K d, Lnks K d]) : EV S (tMake C (sp_init K) [] E t) (Dat K d) := fun σ H st Q q =>
  h σ H st _ fun vs H1 s1 r1 x dx hx hdx ne => by
    have st1 := st.mono s1
    have s2 : Same H1 (upd (upd H1 dx (.own x)) x (.ins C dx [])) := (same_new hdx).trans (same_new (by rw [upd_ne (fun z => ne z.symm)]; exact hx))
    refine ⟨⟨d, x, C, dx⟩, S.hd, ⟨upd_same, c, n1, n2, n3, fun z => st1.used x z hx, fun a ha z => ?_, hc⟩, ?_, fun H' up dat => ⟨rfl, q (.ref x) H' (fun b o e => ?_) dat⟩⟩
    · cases e : H1 a with
      | none => exact st1.used a ha e
      | some o => rw [s2 _ _ e] at z; cases z
    · rw [List.append_nil]
      exact ⟨.ref x, vs, rfl, rfl, r1.mono (hid_fresh s2 hx)⟩
    · have e1 := s1 _ _ e
      exact up b o (fun z => by rw [z, hx] at e1; cases e1) (s2 _ _ e1)
abbrev s_law_made : Stmt := (topS 76)
theorem sc_law_made : FnScope ["_law_goods", "_law_buys", "_law_links", "_law_one"] ["_law_goods", "_law_buys", "_law_links"] (defScope s_law_made) := ⟨rfl, rfl, rfl, by decide +kernel, rfl, by decide +kernel, by decide +kernel⟩

def sp_law_made (K : PySem.W.Frag) : Sp := spR (fun d : DataV => [Nt d.g, Buys K d, Lnks K d]) (fun d => d.c ≤ 100 ∧ d.l ≤ 100) (fun d => Dat K d)
theorem ok_law_made (G : Gb K mg) (F : Def0 K mg "_law_made" s_law_made ["_law_goods", "_law_buys", "_law_links"]) {C f : Addr} {fd : FuncData} (MK : Mk K C f) (hData : mg "Data" = some (.ref C)) (MKB : Binds K fd ["self", "goods", "buys", "links"] []) (c : L2.Cls K C) (n1 : NoAttr K C "goods") (n2 : NoAttr K C "buys") (n3 : NoAttr K C "links")
    (d_Data : FnOk P w K mg base CX0 1 f fd ["self", "goods", "buys", "links"] (sp_init K)) : DefOk P w K mg base "_law_made" 3 ["_law_goods", "_law_buys", "_law_links"] (sp_law_made K) := by
  refine okD F sc_law_made (fun _ => rfl) (by decide) fun f cdv A outer s H E hr d h => ⟨_, (pss_one (ps_ret (pe_make MK d_Data (hr.mono (by decide)) (by rfl) hData MKB .nil pass0 (pa_cons (pv 0) (pa_cons (pe_lc (own := [("_law_one", 3)]) (g := (gName 3)) (tt := tYes) rfl sc_law_made.nd (pi_listK (K := K) rfl (pv 1)) (blkOk_by (N := ["_law_goods", "_law_buys", "_law_links", "_law_one"]) (own := [("_law_one", 3)]) (sc := (defScope s_law_made)) (by decide +kernel)) (fun _ _ _ _ _ => (pg_name (i := 3) sc_law_made.nd rfl (.inl rfl))) (fun _ _ _ _ _ => pts_nil) (fun _ _ _ _ _ => (pe_tup (pa_cons (pe_callTy (r := rListQ K) call_list_of (by rfl) G.list (by decide +kernel) (pa_cons (pe_ix (r := rIxT K) ix_tup (pv 3) pe_int (fun _ _ => rfl)) pa_nil)) (pa_cons (pe_callTy (r := rListQ K) call_list_of (by rfl) G.list (by decide +kernel) (pa_cons (pe_ix (r := rIxT K) ix_tup (pv 3) pe_int (fun _ _ => rfl)) pa_nil)) pa_nil))))) (pa_cons (pe_callTy (r := rListQ K) call_list_of (by rfl) G.list (by decide +kernel) (pa_cons (pv 2) pa_nil)) pa_nil)))))), fun H0 N D rt => ?_⟩
  have hc : d.c ≤ 100 := h.1
  exact go_back rt (ev_make c n1 n2 n3 hc (eva_cons (ev_var rfl) (eva_cons (evn_lcL (n := d.c) (R0 := fun i => Buy K d.g (d.pr i) (d.am i)) (R := fun i => Buy K d.g (d.pr i) (d.am i)) (ev_var rfl) (by omega) fun Dq i hi => ev_tup (eva_cons (evn_list (ev_op (ot_ixT (k := 0) rfl rfl) (ev_var rfl) ev_int)).ev (eva_cons (evn_list (ev_op (ot_ixT (k := 1) rfl rfl) (ev_var rfl) ev_int)).ev eva_nil))).ev (eva_cons (evn_list (ev_var rfl)).ev eva_nil))))
end
/-! ### data of values -/
def DD (K : PySem.W.Frag) (m : Nat) (R : Rp) : Prop := ∀ H N v, R.p (hid H N) v → ∃ dd, Dp K H v dd ∧ dd.canLay0 = true ∧ dd.depth ≤ m
theorem dd_Fr {K : PySem.W.Frag} {x : Rat} : DD K 1 (Fr K x) := fun H N v r => ⟨_, fr_dp r, by simp [PyData.canLay0, PyData.canLayAll0], by simp [PyData.depth, PyData.depthAll]⟩
theorem dd_Ex {K : PySem.W.Frag} {α : Type} {A : α → Prop} {f : α → Rp} {m : Nat} (h : ∀ z, DD K m (f z)) : DD K m (Exr A f) := fun H N v ⟨z, _, r⟩ => h z H N v r
theorem dd_all {K : PySem.W.Frag} {m : Nat} {H : Hp} : ∀ {vs : List V}, (∀ v ∈ vs, ∃ dd, Dp K H v dd ∧ dd.canLay0 = true ∧ dd.depth ≤ m) → ∃ ds, DpAll K H vs ds ∧ PyData.canLayAll0 ds = true ∧ PyData.depthAll ds ≤ m ∧ ds.length = vs.length
  | [], _ => ⟨[], .nil, rfl, Nat.zero_le _, rfl⟩
  | v :: vs, h => by
    obtain ⟨d, a, b, c⟩ := h v (List.mem_cons_self ..)
    obtain ⟨ds, a2, b2, c2, e2⟩ := dd_all fun u hu => h u (List.mem_cons_of_mem _ hu)
    refine ⟨d :: ds, .cons a a2, by simp [PyData.canLayAll0, b, b2], ?_, by simp [e2]⟩
    simp only [PyData.depthAll]
    omega
theorem dd_list {K : PySem.W.Frag} {n m : Nat} {f : Nat → Rp} (h : ∀ k, k < n → DD K m (f k)) {H : Hp} {N : List Addr} {v : V} (r : (Li n f).p (hid H N) v) : ∃ ds, Dp K H v (.list ds) ∧ PyData.canLayAll0 ds = true ∧ PyData.depthAll ds ≤ m ∧ ds.length = n := by
  obtain ⟨a, vs, e, h1, h2, h3⟩ := r
  subst e
  obtain ⟨ds, a1, a2, a3, a4⟩ := dd_all (K := K) (m := m) (H := H) (vs := vs) fun v hv => by
    obtain ⟨k, hk, ek⟩ := List.getElem_of_mem hv
    exact h k (by omega) H N v (h3 k v (by rw [List.getElem?_eq_getElem hk, ek]))
  exact ⟨ds, .lst (.inl (.inl (hid_sub _ _ h1))) a1, a2, a3, by rw [a4, h2]⟩
theorem dd_Li {K : PySem.W.Frag} {n m : Nat} {f : Nat → Rp} (h : ∀ k, k < n → DD K m (f k)) : DD K (m + 1) (Li n f) := fun H N v r => by
  obtain ⟨ds, a, b, c, _⟩ := dd_list h r
  exact ⟨_, a, by simp [PyData.canLay0, b], by simp only [PyData.depth]; omega⟩
theorem dd_AL {K : PySem.W.Frag} {m : Nat} {H : Hp} {N : List Addr} : ∀ {Rs : List Rp} {vs : List V}, (∀ R ∈ Rs, DD K m R) → AL Rs (hid H N) vs → ∀ v ∈ vs, ∃ dd, Dp K H v dd ∧ dd.canLay0 = true ∧ dd.depth ≤ m
  | [], _, _, h, v, hv => by rw [show _ = [] from h] at hv; cases hv
  | R :: Rs, _, o, ⟨u, r, e, h, t⟩, v, hv => by
    subst e
    rcases List.mem_cons.mp hv with z | z
    · rw [z]; exact o R (List.mem_cons_self ..) H N u h
    · exact dd_AL (fun R m => o R (List.mem_cons_of_mem _ m)) t v z
theorem dd_Tp {K : PySem.W.Frag} {m : Nat} {Rs : List Rp} (h : ∀ R ∈ Rs, DD K m R) : DD K (m + 1) (Tp K Rs) := fun H N v ⟨a, vs, e, hs, al⟩ => by
  subst e
  obtain ⟨ds, a1, a2, a3, _⟩ := dd_all (dd_AL h al)
  exact ⟨.tuple ds, .tup (seqT hid_sub hs) a1, by simp [PyData.canLay0, a2], by simp only [PyData.depth]; omega⟩
theorem ot_eqE {K : PySem.W.Frag} {n m : Nat} {f g : Nat → Rp} (h : ∀ k, k < n + 1 → DD K m (f k)) (hm : m < 60) : OT (rEqD K) (Li (n + 1) f) (Li 0 g) (Bo false) := fun H N x y Q _ rx ry q => by
  obtain ⟨ds, a, b, c, e⟩ := dd_list h rx
  obtain ⟨es, a2, b2, c2, e2⟩ := dd_list (K := K) (m := 0) (fun k hk => absurd hk (Nat.not_lt_zero k)) ry
  refine ⟨_, _, a, a2, ?_, ?_, ?_⟩
  · unfold SeqAt.shaped
    simp only [PyData.canLay0, PyData.depth, b, Bool.true_and]
    exact decide_eq_true (by omega)
  · unfold SeqAt.shaped
    simp only [PyData.canLay0, PyData.depth, b2, Bool.true_and]
    exact decide_eq_true (by omega)
  · have : PyData.eqv (.list ds) (.list es) = false := by
      cases ds with
      | nil => cases e
      | cons d ds =>
        cases es with
        | nil => simp only [PyData.eqv, PyData.eqvAll]
        | cons e' es => cases e2
    rw [this]
    exact q _ H (Same.refl H) rfl
end BB
namespace BB
open PySem PySem.Spec PyProof.Rows L2
section
variable {P : Program} {w : World} {K : PySem.W.Frag} {mg : Str → Option Value} {base : Heap}
/-! ### ray_of: never called -/
abbrev s_ray_of : Stmt := (topS 34)
theorem sc_ray_of : FnScope ["rows", "basis", "count", "c", "k", "ray"] ["rows", "basis", "count", "c"] (defScope s_ray_of) := ⟨rfl, rfl, rfl, by decide +kernel, rfl, by decide +kernel, by decide +kernel⟩

def sp_ray_of : Sp := spR (fun z : Unit => [Ay, Ay, Ay, Ay]) (fun _ => False) (fun _ => Ay)
theorem ok_ray_of (F : Def0 K mg "ray_of" s_ray_of ["rows", "basis", "count", "c"]) : DefOk P w K mg base "ray_of" 5 ["rows", "basis", "count", "c"] sp_ray_of :=
  okD F sc_ray_of (fun _ => rfl) (by decide) fun _ _ _ _ _ _ _ _ _ h => False.elim h
/-! ### the law -/
theorem LawD.sp {d : DataV} (L : LawD d) {i : Nat} (hi : i < d.c) : 0 < d.sp i := by
  obtain ⟨k, hk, hp⟩ := L.pos i hi
  have h := sm_ge1 (f := fun k => d.pr i k * d.am i k) hk fun j hj => Rat.mul_nonneg (Rat.le_of_lt (L.pr i hi j hj).2) (L.am i hi j hj).2
  exact Std.lt_of_lt_of_le (Rat.mul_pos (L.pr i hi k hk).2 hp) h
theorem LawD.nok {d : DataV} (L : LawD d) {i : Nat} (hi : i < d.c) {q : Nat → Rat} (hq : AsS d.g q) : (⟨d, d.led i, q⟩ : NdV).nd.Ok := ⟨L.g, L.g1, L.c, L.pr, L.am, fun _ hj => L.sp hj, hq, ⟨i, hi, by
  show (d.led i i).isSome = true
  cases e : d.led i i with
  | none => exact absurd e led_self
  | some b => rfl⟩⟩
theorem pb_small {z : Nd} (O : z.Ok) {Q : Nat → Rat} (hQ : ∀ j, j < z.c → Bd 120 120 (Q j)) : Nd.PB z Q := by
  have s1 : ∀ (f : Nat → Rat), (∀ j, j < z.c → Bd 166 81 (f j)) → ∀ t, t ≤ z.c → Bd 1500 1500 (sm t fun j => Q j * f j) := fun f hf t ht => by
    have := sm_bd (p := 286) (q := 201) (f := fun j => Q j * f j) (by decide) t fun k hk => (hQ k (by omega)).mul (hf k (by omega))
    have m1 := mul4 (a := 201 + 1) (show t ≤ 4 by have := O.c; omega)
    have m2 := mul4 (a := 201) (show t ≤ 4 by have := O.c; omega)
    exact this.mono (by omega) (by omega)
  exact ⟨fun j hj => (hQ j hj).mono (by decide) (by decide), s1 z.sp fun j hj => (dot_ok O.g (fun k hk => (O.pr j hj k hk).1) (fun k hk => (O.am j hj k hk).1) (by decide) (by decide) (by decide)).2, fun t ht k hk => s1 (fun j => z.pr j k) (fun j hj => (O.pr j hj k hk).1.mono (by decide) (by decide)) t ht⟩
theorem go_ifJ {S : Sta} {α : Type} {c : TT} {t u : TS} {b : Bool} {nx : L2.St → Hp → Prop} {rt : VK} {bk ct : L2.St → Hp → Prop} (J : α → Sta) (A : α → Prop) (h : ET S c b) (h1 : b = true → ∀ nx, (∀ z, A z → Go (J z) nx) → Go S (t ⟨nx, rt, bk, ct⟩)) (h2 : b = false → ∀ nx, (∀ z, A z → Go (J z) nx) → Go S (u ⟨nx, rt, bk, ct⟩)) (k : ∀ z, A z → Go (J z) nx) : Go S (tIfS c t u ⟨nx, rt, bk, ct⟩) := go_if h (fun e => h1 e nx k) fun e => h2 e nx k
theorem dd_up {K : PySem.W.Frag} {m m' : Nat} {R : Rp} (h : DD K m R) (e : m ≤ m') : DD K m' R := fun H N v r => by
  obtain ⟨dd, a, b, c⟩ := h H N v r
  exact ⟨dd, a, b, Nat.le_trans c e⟩
theorem dd_PpR {x : JnV} : DD K 3 (PpR K x) := dd_Ex fun z => dd_Tp (m := 2) fun R hR => by
  rcases List.mem_cons.mp hR with e | hR
  · rw [e]; exact dd_up dd_Fr (by decide)
  · rcases List.mem_cons.mp hR with e | hR
    · rw [e]; exact dd_Li (m := 1) fun k _ => dd_Fr
    · cases hR
theorem ev_eqM {S : Sta} {i n m : Nat} {p : Addr} {f : Nat → Rp} (hi : S.Γ[i]? = some (some (Pt p))) (hM : (p, n + 1, f) ∈ S.M) (h : ∀ k, k < n + 1 → DD K m (f k)) (hm : m < 60) : EV S (tOp (rEqD K) (tVar i) (tLst tNil)) (Bo false) := fun σ H st Q q => by
  obtain ⟨v, e1, e2⟩ := st.sl i _ hi
  have e2' : v = .ref p := e2
  subst e2'
  refine ⟨.ref p, e1, ?_⟩
  refine (evn_lst eva_nil).ev σ H st _ fun y H2 s2 ry => ?_
  obtain ⟨vs, a1, a2, a3⟩ := (st.mono s2).mem (p, n + 1, f) hM
  have a2' : vs.length = n + 1 := a2
  obtain ⟨ds, b1, b2, b3, b4⟩ := dd_all (K := K) (m := m) (H := H2) (vs := vs) fun v hv => by
    obtain ⟨k, hk, ek⟩ := List.getElem_of_mem hv
    exact h k (by omega) H2 _ v (a3 k v (by rw [List.getElem?_eq_getElem hk, ek]))
  obtain ⟨es, c1, c2, c3, c4⟩ := dd_list (K := K) (m := 0) (n := 0) (fun k hk => absurd hk (Nat.not_lt_zero k)) ry
  refine ⟨_, _, .lst (.inl (.inl a1)) b1, c1, ?_, ?_, ?_⟩
  · unfold SeqAt.shaped
    simp only [PyData.canLay0, PyData.depth, b2, Bool.true_and]
    exact decide_eq_true (by omega)
  · unfold SeqAt.shaped
    simp only [PyData.canLay0, PyData.depth, c2, Bool.true_and]
    exact decide_eq_true (by omega)
  · have : PyData.eqv (.list ds) (.list es) = false := by
      cases ds with
      | nil => rw [a2'] at b4; cases b4
      | cons d ds =>
        cases es with
        | nil => simp only [PyData.eqv, PyData.eqvAll]
        | cons e' es => cases c4
    rw [this]
    exact q _ H2 s2 rfl
theorem selR_c {p : Nat → Bool} {n k : Nat} {A : Rp} (hk : k < (sel p n).length) : selR (sel p n) (fun _ => A) k = A := by
  unfold selR
  rw [List.getElem?_eq_getElem hk]
theorem gt_sub {S S' : Sta} {g : TG} {R R' : Rp} (h : GT S g R S') (w : ∀ H v, R'.p H v → R.p H v) : GT S g R' S' := fun x σ H Q st r q => h x σ H Q st (w _ _ r) q
theorem no_ring {d : DataV} (e : decide ((((sel (fun k => decide (d.led k k = some true)) d.c).length : Nat) : Int) = 0) = true) : ∀ k, k < d.c → d.led k k ≠ some true := fun k hk z => by
  have h0 : (sel (fun k => decide (d.led k k = some true)) d.c).length = 0 := by
    have := of_decide_eq_true e
    omega
  have hm : k ∈ sel (fun k => decide (d.led k k = some true)) d.c := sel_mem.mpr ⟨hk, decide_eq_true z⟩
  rw [List.length_eq_zero_iff.mp h0] at hm
  cases hm
theorem PpR_open {x : JnV} (H : Hp) (v : V) (r : (PpR K x).p H v) : (Tp K [BF K 2000, Exr (Nd.PB x.z.nd) (Fl K x.d.c)]).p H v := by
  obtain ⟨z, ⟨h1, h2⟩, a, vs, e, hs, v1, r1, e1, p1, v2, r2, e2, p2, e3⟩ := r
  exact ⟨a, vs, e, hs, v1, r1, e1, ⟨z.1, h1, p1⟩, v2, r2, e2, ⟨z.2, h2, p2⟩, e3⟩
abbrev s_law : Stmt := (topS 96)
theorem sc_law : FnScope ["_law_script", "_law_goods", "_law_buys", "_law_links", "_law_prices", "_law_money", "_law_data_here", "_law_table", "_law_row_here", "_law_i", "_law_rows", "_law_papers", "_law_drawn", "_law_given_here", "_law_baskets_here", "_law_strict", "_law_told", "_law_paper", "_law_one", "_law_k"] ["_law_script"] (defScope s_law) := ⟨rfl, rfl, rfl, by decide +kernel, rfl, by decide +kernel, by decide +kernel⟩

def sp_law (K : PySem.W.Frag) : Sp := spR (fun ns : List Int => [Sc K ns]) (fun _ => True) (fun _ => Bo true)
theorem lawD_one : LawD ⟨1, 1, 0, fun _ _ => 2, fun _ _ => 3, fun _ => (0, 0, false)⟩ := by
  have b2 : Bd 40 10 (2 : Rat) := ⟨by decide, by decide⟩
  have b3 : Bd 40 10 (3 : Rat) := ⟨by decide, by decide⟩
  exact ⟨by decide, by decide, by decide, by decide, fun _ _ _ _ => ⟨b2, show (0 : Rat) < 2 by decide⟩, fun _ _ _ _ => ⟨b3, show (0 : Rat) ≤ 3 by decide⟩, fun _ _ => ⟨0, by decide, show (0 : Rat) < 3 by decide⟩, fun t ht => absurd ht (Nat.not_lt_zero t)⟩
theorem lawD_l0 {d : DataV} (L : LawD d) (h : d.c = 0) : d.l = 0 := by
  refine Classical.byContradiction fun c => ?_
  have := (L.lk 0 (by omega)).1
  omega
theorem okF {x qual : Str} {params : Arguments} {body : List Stmt} {scope : Scope} {f : Addr} {fd : FuncData} {names ps : List Str} {k : Nat} {α : Type} {pre : α → List Rp} {side : α → Prop} {post : α → Rp}
    (F : FunD K x qual params body scope [] [] f fd) (sc : FnScope names ps scope) (hl : ∀ z, (pre z).length = ps.length) (hnl : ps.length ≤ names.length)
    (hbody : ∀ (cdv : Value) (A : Around) (outer : List Env) (s : Shared) (H : Hp) (E : XK), Room k (A.deeper (envOfC qual scope s.heap.objs.size f cdv)) → ∀ z, side z →
      ∃ t, PSs (cxOf CX0 P w K mg base names qual scope f cdv A outer s H E).nox body t ∧ ∀ (H0 : Hp) (N : List Addr) (D : Ends), RT D.rt H0 N (post z) → Go ⟨H0, N, [], (pre z).map some ++ List.replicate (names.length - ps.length) none⟩ (t D)) :
    FnOk P w K mg base CX0 (k + 1) f fd ps (spR pre side post) := by
  refine F.ok sc (fun vs H Q E ⟨z, N, _, _, h, _⟩ => by rw [h.length, hl]) fun cdv A outer s H vs Q E hr ⟨z, N, hN, hs, ha, hq⟩ => ?_
  obtain ⟨t, ht, hgo⟩ := hbody cdv A outer s H E hr z hs
  refine ⟨t, ht.nox, ?_⟩
  have st := start_stt (names := names) hN ha (by rw [hl]; exact hnl)
  rw [hl] at st
  exact hgo H N { nx := fun _ H' => Q .non H', rt := Q } (fun v H' s r => hq v H' s r) _ H st
theorem ok_law (G : Gb K mg) {f : Addr} {fd : FuncData} (F : FunD K "law" "law" (defArgs s_law) (defBody s_law) (defScope s_law) [] [] f fd) (d_law_data : DefOk P w K mg base "_law_data" 4 ["_law_script", "_law_place", "_law_most", "_law_linked"] (sp_law_data K)) (d_law_asked : DefOk P w K mg base "_law_asked" 3 ["_law_script", "_law_place", "_law_goods", "_law_buys"] (sp_law_asked K))
    (d_law_made : DefOk P w K mg base "_law_made" 3 ["_law_goods", "_law_buys", "_law_links"] (sp_law_made K)) (d_law_closure : DefOk P w K mg base "_law_closure" 1 ["_law_steps_here"] sp_law_closure) (d_law_steps : DefOk P w K mg base "_law_steps" 4 ["_law_buys", "_law_links"] (sp_law_steps K))
    (d_law_row : DefOk P w K mg base "_law_row" 1 ["_law_script", "_law_place", "_law_many"] (sp_law_row K)) (d_law_told_papers : DefOk P w K mg base "_law_told_papers" 10 ["_law_data_here", "_law_i", "_law_goods", "_law_buys", "_law_prices"] (sp_told_papers K))
    (d_law_drawn_paper : DefOk P w K mg base "_law_drawn_paper" 4 ["_law_row_here", "_law_buys", "_law_rows", "_law_prices"] (sp_drawn_paper K)) (d_law_given : DefOk P w K mg base "_law_given" 3 ["_law_buys", "_law_paper"] (sp_law_given K))
    (d_law_baskets : DefOk P w K mg base "_law_baskets" 5 ["_law_script", "_law_goods", "_law_buys", "_law_rows"] (sp_law_baskets K)) (d_law_keeps : DefOk P w K mg base "_law_keeps" 3 ["_law_buys", "_law_rows", "_law_basket", "_law_weakly"] (sp_law_keeps K))
    (d_law_holds : DefOk P w K mg base "_law_holds" 10 ["_law_data_here", "_law_i", "_law_prices", "_law_money", "_law_paper", "_law_weak", "_law_strict"] (sp_law_holds K)) : FnOk P w K mg base CX0 12 f fd ["_law_script"] (sp_law K) := by
  refine okF F sc_law (fun _ => rfl) (by decide) fun cdv A outer s H E hr ns _ => ⟨_, (pss_cons (ps_asg (pe_cd d_law_data (hr.mono (by decide)) (by rfl) (pa_cons (pv 0) (pa_cons pe_int (pa_cons pe_int (pa_cons pe_int pa_nil))))) (pg_tupK (K := K) rfl (by rfl) (pgs_cons (pg_name (i := 1) sc_law.nd rfl (.inl rfl)) (pgs_cons (pg_name (i := 2) sc_law.nd rfl (.inr rfl)) (pgs_cons (pg_name (i := 3) sc_law.nd rfl (.inl rfl)) pgs_nil)))))
        (pss_cons (ps_if (pt_not (pt_truthK (K := K) rfl (pv 2) (by intro _; rfl))) (pss_cons (ps_set (i := 1) sc_law.nd rfl (.inl rfl) pe_int)
        (pss_one (ps_set (i := 2) sc_law.nd rfl (.inr rfl) (pe_lst (pa_cons (pe_tup (pa_cons (pe_lst (pa_cons (pe_tup (pa_cons pe_int (pa_cons pe_int pa_nil))) pa_nil)) (pa_cons (pe_lst (pa_cons (pe_tup (pa_cons pe_int (pa_cons pe_int pa_nil))) pa_nil)) pa_nil))) pa_nil))))) pss_nil)
        (pss_cons (ps_asg (pe_cd d_law_asked (hr.mono (by decide)) (by rfl) (pa_cons (pv 0) (pa_cons pe_int (pa_cons (pv 1) (pa_cons (pv 2) pa_nil))))) (pg_tupK (K := K) rfl (by rfl) (pgs_cons (pg_name (i := 4) sc_law.nd rfl (.inl rfl)) (pgs_cons (pg_name (i := 5) sc_law.nd rfl (.inl rfl)) pgs_nil))))
        (pss_cons (ps_set (i := 6) sc_law.nd rfl (.inl rfl) (pe_cd d_law_made (hr.mono (by decide)) (by rfl) (pa_cons (pv 1) (pa_cons (pv 2) (pa_cons (pv 3) pa_nil)))))
        (pss_cons (ps_set (i := 7) sc_law.nd rfl (.inr rfl) (pe_cd d_law_closure (hr.mono (by decide)) (by rfl) (pa_cons (pe_cd d_law_steps (hr.mono (by decide)) (by rfl) (pa_cons (pv 2) (pa_cons (pv 3) pa_nil))) pa_nil)))
        (pss_cons (ps_set (i := 8) sc_law.nd rfl (.inl rfl) (pe_cd d_law_row (hr.mono (by decide)) (by rfl) (pa_cons (pv 0) (pa_cons pe_int (pa_cons pe_int pa_nil)))))
        (pss_cons (ps_set (i := 9) sc_law.nd rfl (.inl rfl) (pe_op op_mod (pe_callTy call_int1 (by rfl) G.int (by decide +kernel) (pa_cons (pe_ix (r := rIxL K) ix_list (pv 8) pe_int (fun _ _ => rfl)) pa_nil)) (pe_callB (r := rLenQ K) call_len_seq (by rfl) G.len PySem.boot_len (pa_cons (pv 2) pa_nil))))
        (pss_cons (ps_set (i := 10) sc_law.nd rfl (.inr rfl) (pe_ix (r := rIxL K) ix_list (pv 7) (pv 9) (fun _ _ => rfl)))
        (pss_cons (ps_set (i := 11) sc_law.nd rfl (.inl rfl) (pe_lst pa_nil))
        (pss_cons (ps_if (pt_cmpR op_eq (pe_callB (r := rLenQ K) call_len_seq (by rfl) G.len PySem.boot_len (pa_cons (pe_lc (own := [("_law_k", 19)]) (g := (gName 19)) (tt := _) rfl sc_law.nd (pi_range1 (by rfl) G.range (pa_cons (pe_callB (r := rLenQ K) call_len_seq (by rfl) G.len PySem.boot_len (pa_cons (pv 2) pa_nil)) pa_nil)) (blkOk_by (N := ["_law_script", "_law_goods", "_law_buys", "_law_links", "_law_prices", "_law_money", "_law_data_here", "_law_table", "_law_row_here", "_law_i", "_law_rows", "_law_papers", "_law_drawn", "_law_given_here", "_law_baskets_here", "_law_strict", "_law_told", "_law_paper", "_law_one", "_law_k"]) (own := [("_law_k", 19)]) (sc := (defScope s_law)) (by decide +kernel)) (fun _ _ _ _ _ => (pg_name (i := 19) sc_law.nd rfl (.inl rfl))) (fun _ _ _ _ _ => pts_one (pt_cmpR (op_isO) (pe_ix (r := rIxL K) ix_list (pe_ix (r := rIxL K) ix_list (pv 7) (pv 19) (fun _ _ => rfl)) (pv 19) (fun _ _ => rfl)) pe_bl (nomark _))) (fun _ _ _ _ _ => (pv 19))) pa_nil)) pe_int (nomark _)) (pss_cons (ps_set (i := 11) sc_law.nd rfl (.inl rfl) (pe_cd d_law_told_papers (hr.mono (by decide)) (by rfl) (pa_cons (pv 6) (pa_cons (pv 9) (pa_cons (pv 1) (pa_cons (pv 2) (pa_cons (pv 4) pa_nil)))))))
        (pss_one (ps_if (pt_cmpR (r := rEqD K) (op_eqD hr.units) (pv 11) (pe_lst pa_nil) (nomark _)) (pss_one (ps_ret pe_bl)) pss_nil))) pss_nil)
        (pss_cons (ps_set (i := 12) sc_law.nd rfl (.inl rfl) (pe_cd d_law_drawn_paper (hr.mono (by decide)) (by rfl) (pa_cons (pv 8) (pa_cons (pv 2) (pa_cons (pv 10) (pa_cons (pv 4) pa_nil))))))
        (pss_cons (ps_set (i := 13) sc_law.nd rfl (.inl rfl) (pe_cd d_law_given (hr.mono (by decide)) (by rfl) (pa_cons (pv 2) (pa_cons (pv 12) pa_nil))))
        (pss_cons (ps_if (pt_cmpR op_gt (pe_ix (r := rIxT K) ix_tup (pv 13) pe_int (fun _ _ => rfl)) pe_int (nomark _)) (pss_one (ps_expr (pe_appK (K := K) rfl (pv 11) (pa_cons (pe_tup (pa_cons (pv 13) (pa_cons (pv 12) pa_nil))) pa_nil)))) pss_nil)
        (pss_cons (ps_set (i := 14) sc_law.nd rfl (.inl rfl) (pe_cd d_law_baskets (hr.mono (by decide)) (by rfl) (pa_cons (pv 0) (pa_cons (pv 1) (pa_cons (pv 2) (pa_cons (pv 10) pa_nil))))))
        (pss_cons (ps_setLc (i := 15) (own := [("_law_one", 18)]) (g := (gName 18)) (tt := _) rfl sc_law.nd rfl rfl (sw_true rfl rfl rfl (by decide +kernel)) (pi_listK (K := K) rfl (pv 14)) (blkOk_by (N := ["_law_script", "_law_goods", "_law_buys", "_law_links", "_law_prices", "_law_money", "_law_data_here", "_law_table", "_law_row_here", "_law_i", "_law_rows", "_law_papers", "_law_drawn", "_law_given_here", "_law_baskets_here", "_law_strict", "_law_told", "_law_paper", "_law_one", "_law_k"]) (own := [("_law_one", 18)]) (sc := (defScope s_law)) (by decide +kernel)) (fun _ _ _ _ _ => (pg_name (i := 18) sc_law.nd rfl (.inl rfl))) (fun _ _ _ _ _ => pts_one (pt_val (pe_cd d_law_keeps (hr.mono (by decide)) (by rfl) (pa_cons (pv 2) (pa_cons (pv 10) (pa_cons (pv 18) (pa_cons pe_bl pa_nil))))))) (fun _ _ _ _ _ => (pv 18)))
        (pss_cons (ps_for PassesOwn.never rfl (pi_listK (K := K) rfl (pv 11)) (pg_tupK (K := K) rfl (by rfl) (pgs_cons (pg_name (i := 16) sc_law.nd rfl (.inl rfl)) (pgs_cons (pg_name (i := 17) sc_law.nd rfl (.inl rfl)) pgs_nil))) (pss_one (ps_if (pt_not (pt_val (pe_cd d_law_holds (hr.mono (by decide)) (by rfl) (pa_cons (pv 6) (pa_cons (pv 9) (pa_cons (pv 4) (pa_cons (pv 16) (pa_cons (pv 17) (pa_cons (pv 14) (pa_cons (pv 15) pa_nil)))))))))) (pss_one (ps_ret pe_bl)) pss_nil)))
        (pss_one (ps_ret pe_bl)))))))))))))))))), fun H0 N D rt => ?_⟩
  refine go_seq (go_asgX (S' := fun d => _) (ev_call ns (eva_cons (ev_var rfl) (eva_cons ev_int (eva_cons ev_int (eva_cons ev_int eva_nil)))) trivial) (fun d L => gt_tup rfl (gl_cons (gl_cons (gl_cons gl_nil)))) fun d L => go_seq ?_)
  refine go_ifJ (fun d => ⟨H0, N, [], [some (Sc K ns), some (Nt d.g), some (Buys K d), some (Lnks K d), none, none, none, none, none, none, none, none, none, none, none, none, none, none, none, none]⟩) (fun d => LawD d ∧ 0 < d.c) (et_not (et_truth (ev_var rfl))) (fun e nx kk => ?_) (fun e nx kk => go_next fun σ H st => kk d ⟨L, by simpa using e⟩ σ H (st.wk (by repeat first | exact Wk.nil | refine Wk.keep ?_ | refine Wk.drop ?_))) fun d ⟨L, c0⟩ => go_seq ?_
  · have hc0 : d.c = 0 := by
      have : ¬ 0 < d.c := by simpa using e
      omega
    have hl0 := lawD_l0 L hc0
    refine go_seq (go_set (R := Nt 1) ev_int ?_)
    refine go_set (R := Buys K ⟨1, 1, 0, fun _ _ => 2, fun _ _ => 3, fun _ => (0, 0, false)⟩) (ev_sub (evn_lst (eva_cons (R := Buy K 1 (fun _ => 2) (fun _ => 3)) (ev_tup (K := K) (eva_cons (R := Fl K 1 fun _ => 2) (ev_sub (evn_lst (eva_cons (R := Fr K 2) (ev_eq (ev_tup (K := K) (eva_cons ev_int (eva_cons ev_int eva_nil))) rfl) eva_nil)).ev (li_eq (n := 1) fun k hk => by
      have : k = 0 := by omega
      subst this; rfl)) (eva_cons (R := Fl K 1 fun _ => 3) (ev_sub (evn_lst (eva_cons (R := Fr K 3) (ev_eq (ev_tup (K := K) (eva_cons ev_int (eva_cons ev_int eva_nil))) rfl) eva_nil)).ev (li_eq (n := 1) fun k hk => by
      have : k = 0 := by omega
      subst this; rfl)) eva_nil))) eva_nil)).ev (li_eq (n := 1) fun k hk => by
      have : k = 0 := by omega
      subst this; rfl)) fun σ H st => kk ⟨1, 1, 0, fun _ _ => 2, fun _ _ => 3, fun _ => (0, 0, false)⟩ ⟨lawD_one, by decide⟩ σ H (st.wk ?_)
    refine Wk.keep (Wk.keep (Wk.keep (Wk.sub (fun H v r => ?_) (by repeat first | exact Wk.nil | refine Wk.keep ?_))))
    have r' : (Li 0 fun i => Lnk K (d.lk i)).p H v := by rw [← hl0]; exact r
    exact li_sub (n := 0) (fun k hk => absurd hk (Nat.not_lt_zero k)) H v r'
  have D' := L.dok
  have hc4 := L.c
  refine go_asgX (S' := fun q => _) (ev_call (⟨ns, d⟩ : AsV) (eva_cons (ev_var rfl) (eva_cons ev_int (eva_cons (ev_var rfl) (eva_cons (ev_var rfl) eva_nil)))) L) (fun q hq => gt_tup rfl (gl_cons (gl_cons gl_nil))) fun q hq => go_seq ?_
  have hq : AsS d.g q := hq
  refine go_set (R := Dat K d) (ev_call d (eva_cons (ev_var rfl) (eva_cons (ev_var rfl) (eva_cons (ev_var rfl) eva_nil))) ⟨by omega, by have := L.l; omega⟩) (go_seq ?_)
  refine go_set (R := TabR d.c d.led) (ev_call (d.c, stp d) (eva_cons (ev_call d (eva_cons (ev_var rfl) (eva_cons (ev_var rfl) eva_nil)) D') eva_nil) hc4) (go_seq ?_)
  refine go_set (ev_call (⟨ns, 10, 9⟩ : RowV) (eva_cons (ev_var rfl) (eva_cons ev_int (eva_cons ev_int eva_nil))) ⟨show 10 ≤ 100 by decide, show 9 ≤ 100 by decide⟩) (go_open (i := 8) rfl fun f hf => go_seq ?_)
  have hf : ∀ k, k < 9 → f k < 1000 := hf
  have hi : f 8 % d.c < d.c := Nat.mod_lt _ c0
  refine go_set (R := Nt (f 8 % d.c)) (ev_eq (ev_mod (ev_d (n := 9) (f := f) (k := 8) (ev_var rfl) ev_int rfl (by decide)) (ev_cb ct_len (eva_cons (ev_var rfl) eva_nil)) (by omega)) rfl) (go_seq ?_)
  generalize f 8 % d.c = i at hi
  refine go_set (R := Row d.c (d.led i)) (ev_op (ot_ixL (R := fun i => Li d.c fun j => Ob (d.led i j)) rfl hi) (ev_var rfl) (ev_var rfl)) (go_seq ?_)
  let x : JnV := ⟨d, i, q, 0, fun _ => 0⟩
  have O : x.z.nd.Ok := L.nok hi hq
  refine go_new (n := 0) (f := fun _ => PpR K x) (evn_sub (evn_lst eva_nil) fun k hk => absurd hk (Nat.not_lt_zero k)) fun p0 => go_seq ?_
  refine go_ifJ (α := Addr × Nat × Mt) (fun z => ⟨H0, N, (z.1, z.2.1, fun _ => PpR K x) :: z.2.2, [some (Sc K ns), some (Nt d.g), some (Buys K d), some (Lnks K d), some (Fl K d.g q), some Ay, some (Dat K d), some (TabR d.c d.led), some (Il 9 f), some (Nt i), some (Row d.c (d.led i)), some (Pt z.1), none, none, none, none, none, none, none, none]⟩) (fun z => z.2.1 ≤ 10)
    (et_test (ev_op ot_eqI (ev_cb ct_len (eva_cons (evn_lcRF (n := d.c) (R := Nt) (p := fun k => decide (d.led k k = some true)) (eva_cons (ev_cb ct_len (eva_cons (ev_var rfl) eva_nil)) eva_nil) (by omega) (fun Dq m g k hk => et_test (ev_op ot_isO (ev_op (ot_ixL (R := fun j => Ob (d.led k j)) rfl hk) (ev_op (ot_ixL (R := fun i => Li d.c fun j => Ob (d.led i j)) rfl hk) (ev_var rfl) (ev_var rfl)) (ev_var rfl)) ev_bl)) fun Dq m g k hk _ => ev_var rfl).ev eva_nil)) ev_int)) (fun e nx kk => ?_) (fun e nx kk => go_next fun σ H st => kk (p0, 0, []) (show 0 ≤ 10 by decide) σ H (st.wk (by repeat first | exact Wk.nil | refine Wk.keep ?_ | refine Wk.drop ?_))) fun z hz => go_seq ?_
  · refine go_seq (go_new (i := 11) (evn_call x (eva_cons (ev_var rfl) (eva_cons (ev_var rfl) (eva_cons (ev_var rfl) (eva_cons (ev_var rfl) (eva_cons (ev_var rfl) eva_nil))))) ⟨⟨D', hi, no_ring e, O⟩, fun k hk => (hq k hk).1⟩) fun p1 => ?_)
    refine go_if (b := false) (et_test (ev_eqM (n := 2) (m := 3) (p := p1) (f := fun _ => PpR K x) rfl (List.mem_cons_self ..) (fun _ _ => dd_PpR) (by decide))) (fun e => by cases e) fun _ => go_next fun σ H st => kk (p1, 3, [(p0, 0, fun _ => PpR K x)]) (show 3 ≤ 10 by decide) σ H (st.wk (by repeat first | exact Wk.nil | refine Wk.keep ?_ | refine Wk.drop ?_))
  obtain ⟨pp, pn, M2⟩ := z
  have hz : pn ≤ 10 := hz
  refine go_set (ev_call (⟨f, d, d.led i, q⟩ : DpV) (eva_cons (ev_var rfl) (eva_cons (ev_var rfl) (eva_cons (ev_var rfl) (eva_cons (ev_var rfl) eva_nil)))) ⟨hf, D', hq⟩) (go_open (i := 12) rfl fun Q hQ => go_seq ?_)
  have hQ : ∀ j, j < d.c → Bd 120 120 (Q j) := hQ
  refine go_set (ev_call (⟨d, Q⟩ : GiV) (eva_cons (ev_var rfl) (eva_cons (ev_var rfl) eva_nil)) ⟨D', hQ⟩) (go_open (i := 13) rfl fun m hm => go_seq ?_)
  have hm : Bd 2000 2000 m := hm
  have pbQ : Nd.PB x.z.nd Q := pb_small O hQ
  refine go_ifJ (α := Nat) (fun n => ⟨H0, N, (pp, n, fun _ => PpR K x) :: M2, [some (Sc K ns), some (Nt d.g), some (Buys K d), some (Lnks K d), some (Fl K d.g q), some Ay, some (Dat K d), some (TabR d.c d.led), some (Il 9 f), some (Nt i), some (Row d.c (d.led i)), some (Pt pp), some (Fl K d.c Q), some (Fr K m), none, none, none, none, none, none]⟩) (fun n => n ≤ 11)
    (et_test (ev_igt (ev_num (a := m) (ev_var rfl)) ev_int)) (fun e nx kk => ?_) (fun e nx kk => go_next fun σ H st => kk pn (show pn ≤ 11 by omega) σ H (st.wk (by repeat first | exact Wk.nil | refine Wk.keep ?_ | refine Wk.drop ?_))) fun n hn => go_seq ?_
  · refine go_app (i := 11) (M1 := []) rfl rfl (by omega) (ev_sub (R' := PpR K x) (ev_tup (K := K) (eva_cons (R := Fr K m) (ev_var rfl) (eva_cons (R := Fl K d.c Q) (ev_var rfl) eva_nil))) fun H v r => ⟨(m, Q), ⟨hm, pbQ⟩, r⟩) fun σ H st => kk (pn + 1) (show pn + 1 ≤ 11 by omega) σ H ((st.mset rfl (snoc_to (f' := fun _ => PpR K x) (fun _ _ => rfl) fun _ _ r => r)).wk (by repeat first | exact Wk.nil | refine Wk.keep ?_ | refine Wk.drop ?_))
  have hn : n ≤ 11 := hn
  refine go_freeze (i := 11) rfl rfl ?_
  refine go_set (ev_sub (ev_call (⟨ns, d, d.led i⟩ : BaV) (eva_cons (ev_var rfl) (eva_cons (ev_var rfl) (eva_cons (ev_var rfl) (eva_cons (ev_var rfl) eva_nil)))) L) li_pick) (go_open (i := 14) rfl fun Y hY => go_seq ?_)
  have hY : ∀ k, k < 2 * (d.c + 3) → WkS d (d.led i) (Y k) := hY
  refine go_set (R := Li _ fun _ => StR K d (d.led i)) (ev_sub (evn_lcLF (n := 2 * (d.c + 3)) (R0 := fun k => Fl K d.g (Y k)) (R := fun _ => StR K d (d.led i)) (p := fun k => tr (KpS d (d.led i) (Y k) false)) (ev_var rfl) (by omega) (fun Dq m g k hk => et_B (ev_call (⟨d, d.led i, Y k, false, 1000⟩ : KpV) (eva_cons (ev_var rfl) (eva_cons (ev_var rfl) (eva_cons (ev_var rfl) (eva_cons ev_bl eva_nil)))) ⟨D', show 40 ≤ 1000 by decide, Nat.le_refl 1000, fun j hj => ((hY k hk).b j hj).1⟩)) fun Dq m g k hk hp => ev_sub (R := Fl K d.g (Y k)) (ev_var rfl) fun H v r => ⟨Y k, ⟨hY k hk, tr_iff.mp hp⟩, r⟩).ev (li_sub fun k hk H v r => by rw [selR_c hk] at r; exact r)) (go_seq ?_)
  let Γ0 : Nat → Option Rp → Option Rp → List (Option Rp) := fun ms o1 o2 => [some (Sc K ns), some (Nt d.g), some (Buys K d), some (Lnks K d), some (Fl K d.g q), some Ay, some (Dat K d), some (TabR d.c d.led), some (Il 9 f), some (Nt i), some (Row d.c (d.led i)), some (Li n fun _ => PpR K x), some (Fl K d.c Q), some (Fr K m), some (Li (2 * (d.c + 3)) fun k => Fl K d.g (Y k)), some (Li ms fun _ => StR K d (d.led i)), o1, o2, none, none]
  refine go_forL (α := Unit) (fun G2 k _ => ⟨G2, N, M2, Γ0 _ none none⟩) (fun G2 k _ => ⟨G2, N, M2, Γ0 _ (some (BF K 2000)) (some (Exr (Nd.PB x.z.nd) (Fl K x.d.c)))⟩) (fun _ _ => True) (ev_var (R := Li n fun _ => PpR K x) rfl) (fun _ _ _ => ⟨rfl, rfl, rfl⟩) (fun G2 => ⟨(), trivial, fun σ H st => st.wk (by repeat first | exact Wk.nil | refine Wk.keep ?_ | refine Wk.drop ?_)⟩) (fun _ _ _ _ => gt_sub (gt_tup rfl (gl_cons (gl_cons gl_nil))) PpR_open) (fun G2 k _ s2 hk _ => ?_) fun G2 _ s2 _ => go_back (rt.base s2) ev_bl
  refine go_open (i := 16) rfl fun m' hm' => go_open (i := 17) rfl fun Q' hQ' => ?_
  have hm' : Bd 2000 2000 m' := hm'
  refine go_if (b := false) (et_not (a := true) (et_B (ev_call (⟨⟨d, i, q, m', Q'⟩, 2 * (d.c + 3), _⟩ : HoV) (eva_cons (ev_var rfl) (eva_cons (ev_var rfl) (eva_cons (ev_var rfl) (eva_cons (ev_var rfl) (eva_cons (ev_var rfl) (eva_cons (ev_sub (ev_var rfl) (li_sub fun k hk H v r => ⟨Y k, hY k hk, r⟩)) (eva_cons (ev_var rfl) eva_nil))))))) ⟨⟨D', hi, hm'.mid (by decide) (by decide), fun k hk => bd_q (hq k hk).1, hQ'⟩, fun k hk => (hq k hk).1, hm'⟩))) (fun e => by cases e) fun _ => go_next fun σ H st => ⟨(), trivial, st.wk (by repeat first | exact Wk.nil | refine Wk.keep ?_ | refine Wk.drop ?_)⟩
end
end BB
namespace BB
open PySem PySem.Spec PyProof.Rows L2
/-! ### the head: what the top leaves -/
def D_ratio : He.DefD := ⟨("ratio", none), "ratio", "ratio", defArgs s_ratio, defBody s_ratio, defScope s_ratio, [], []⟩
def D_add : He.DefD := ⟨("add", none), "add", "add", defArgs s_add, defBody s_add, defScope s_add, [], []⟩
def D_sub : He.DefD := ⟨("sub", none), "sub", "sub", defArgs s_sub, defBody s_sub, defScope s_sub, [], []⟩
def D_mul : He.DefD := ⟨("mul", none), "mul", "mul", defArgs s_mul, defBody s_mul, defScope s_mul, [], []⟩
def D_div : He.DefD := ⟨("div", none), "div", "div", defArgs s_div, defBody s_div, defScope s_div, [], []⟩
def D_neg : He.DefD := ⟨("neg", none), "neg", "neg", defArgs s_neg, defBody s_neg, defScope s_neg, [], []⟩
def D_less : He.DefD := ⟨("less", none), "less", "less", defArgs s_less, defBody s_less, defScope s_less, [], []⟩
def D_at_most : He.DefD := ⟨("at_most", none), "at_most", "at_most", defArgs s_at_most, defBody s_at_most, defScope s_at_most, [], []⟩
def D_dot : He.DefD := ⟨("dot", none), "dot", "dot", defArgs s_dot, defBody s_dot, defScope s_dot, [], []⟩
def D_scale : He.DefD := ⟨("scale", none), "scale", "scale", defArgs s_scale, defBody s_scale, defScope s_scale, [], []⟩
def D_add_scaled : He.DefD := ⟨("add_scaled", none), "add_scaled", "add_scaled", defArgs s_add_scaled, defBody s_add_scaled, defScope s_add_scaled, [], []⟩
def D_cost : He.DefD := ⟨("cost", none), "cost", "cost", defArgs s_cost, defBody s_cost, defScope s_cost, [], []⟩
def D_spent : He.DefD := ⟨("spent", none), "spent", "spent", defArgs s_spent, defBody s_spent, defScope s_spent, [], []⟩
def D_turned : He.DefD := ⟨("turned", none), "turned", "turned", defArgs s_turned, defBody s_turned, defScope s_turned, [], []⟩
def D_slack_columns : He.DefD := ⟨("slack_columns", none), "slack_columns", "slack_columns", defArgs s_slack_columns, defBody s_slack_columns, defScope s_slack_columns, [], []⟩
def D_helper_columns : He.DefD := ⟨("helper_columns", none), "helper_columns", "helper_columns", defArgs s_helper_columns, defBody s_helper_columns, defScope s_helper_columns, [], []⟩
def D_less_times : He.DefD := ⟨("less_times", none), "less_times", "less_times", defArgs s_less_times, defBody s_less_times, defScope s_less_times, [], []⟩
def D_first_rows : He.DefD := ⟨("first_rows", none), "first_rows", "first_rows", defArgs s_first_rows, defBody s_first_rows, defScope s_first_rows, [], []⟩
def D_reduced : He.DefD := ⟨("reduced", none), "reduced", "reduced", defArgs s_reduced, defBody s_reduced, defScope s_reduced, [], []⟩
def D_pivot : He.DefD := ⟨("pivot", none), "pivot", "pivot", defArgs s_pivot, defBody s_pivot, defScope s_pivot, [], []⟩
def D_entering : He.DefD := ⟨("entering", none), "entering", "entering", defArgs s_entering, defBody s_entering, defScope s_entering, [], []⟩
def D_leaving : He.DefD := ⟨("leaving", none), "leaving", "leaving", defArgs s_leaving, defBody s_leaving, defScope s_leaving, [], []⟩
def D_descend : He.DefD := ⟨("descend", none), "descend", "descend", defArgs s_descend, defBody s_descend, defScope s_descend, [], []⟩
def D_without_helpers : He.DefD := ⟨("without_helpers", none), "without_helpers", "without_helpers", defArgs s_without_helpers, defBody s_without_helpers, defScope s_without_helpers, [], []⟩
def D_values_of : He.DefD := ⟨("values_of", none), "values_of", "values_of", defArgs s_values_of, defBody s_values_of, defScope s_values_of, [], []⟩
def D_prices_of : He.DefD := ⟨("prices_of", none), "prices_of", "prices_of", defArgs s_prices_of, defBody s_prices_of, defScope s_prices_of, [], []⟩
def D_first_basis : He.DefD := ⟨("first_basis", none), "first_basis", "first_basis", defArgs s_first_basis, defBody s_first_basis, defScope s_first_basis, [], []⟩
def D_solve : He.DefD := ⟨("solve", none), "solve", "solve", defArgs s_solve, defBody s_solve, defScope s_solve, [], []⟩
def D_step : He.DefD := ⟨("step", none), "step", "step", defArgs s_step, defBody s_step, defScope s_step, [], []⟩
def D_step_table : He.DefD := ⟨("step_table", none), "step_table", "step_table", defArgs s_step_table, defBody s_step_table, defScope s_step_table, [], []⟩
def D_find_in : He.DefD := ⟨("find_in", none), "find_in", "find_in", defArgs s_find_in, defBody s_find_in, defScope s_find_in, [], []⟩
def D_leads : He.DefD := ⟨("leads", none), "leads", "leads", defArgs s_leads, defBody s_leads, defScope s_leads, [], []⟩
def D_keeps_row : He.DefD := ⟨("keeps_row", none), "keeps_row", "keeps_row", defArgs s_keeps_row, defBody s_keeps_row, defScope s_keeps_row, [], []⟩
def D_first_broken : He.DefD := ⟨("first_broken", none), "first_broken", "first_broken", defArgs s_first_broken, defBody s_first_broken, defScope s_first_broken, [], []⟩
def D_next_class : He.DefD := ⟨("next_class", none), "next_class", "next_class", defArgs s_next_class, defBody s_next_class, defScope s_next_class, [], []⟩
def D_plane : He.DefD := ⟨("plane", none), "plane", "plane", defArgs s_plane, defBody s_plane, defScope s_plane, [], []⟩
def D_class_number : He.DefD := ⟨("class_number", none), "class_number", "class_number", defArgs s_class_number, defBody s_class_number, defScope s_class_number, [], []⟩
def D_member_weight : He.DefD := ⟨("member_weight", none), "member_weight", "member_weight", defArgs s_member_weight, defBody s_member_weight, defScope s_member_weight, [], []⟩
def D_make_taste : He.DefD := ⟨("make_taste", none), "make_taste", "make_taste", defArgs s_make_taste, defBody s_make_taste, defScope s_make_taste, [], []⟩
def D_find_chain : He.DefD := ⟨("find_chain", none), "find_chain", "find_chain", defArgs s_find_chain, defBody s_find_chain, defScope s_find_chain, [], []⟩
def D_check : He.DefD := ⟨("check", none), "check", "check", defArgs s_check, defBody s_check, defScope s_check, [], []⟩
def D_row_lines : He.DefD := ⟨("row_lines", none), "row_lines", "row_lines", defArgs s_row_lines, defBody s_row_lines, defScope s_row_lines, [], []⟩
def D_row_prices : He.DefD := ⟨("row_prices", none), "row_prices", "row_prices", defArgs s_row_prices, defBody s_row_prices, defScope s_row_prices, [], []⟩
def D_prices_allowed : He.DefD := ⟨("prices_allowed", none), "prices_allowed", "prices_allowed", defArgs s_prices_allowed, defBody s_prices_allowed, defScope s_prices_allowed, [], []⟩
def D_some_strict : He.DefD := ⟨("some_strict", none), "some_strict", "some_strict", defArgs s_some_strict, defBody s_some_strict, defScope s_some_strict, [], []⟩
def D_shared_lines : He.DefD := ⟨("shared_lines", none), "shared_lines", "shared_lines", defArgs s_shared_lines, defBody s_shared_lines, defScope s_shared_lines, [], []⟩
def D_need_holds : He.DefD := ⟨("need_holds", none), "need_holds", "need_holds", defArgs s_need_holds, defBody s_need_holds, defScope s_need_holds, [], []⟩
def D_judge_need : He.DefD := ⟨("judge_need", none), "judge_need", "judge_need", defArgs s_judge_need, defBody s_judge_need, defScope s_judge_need, [], []⟩
def D_judge_strict_need : He.DefD := ⟨("judge_strict_need", none), "judge_strict_need", "judge_strict_need", defArgs s_judge_strict_need, defBody s_judge_strict_need, defScope s_judge_strict_need, [], []⟩
def D_least_need : He.DefD := ⟨("least_need", none), "least_need", "least_need", defArgs s_least_need, defBody s_least_need, defScope s_least_need, [], []⟩
def D__law_is_integer : He.DefD := ⟨("_law_is_integer", none), "_law_is_integer", "_law_is_integer", defArgs s_law_is_integer, defBody s_law_is_integer, defScope s_law_is_integer, [], []⟩
def D__law_row : He.DefD := ⟨("_law_row", none), "_law_row", "_law_row", defArgs s_law_row, defBody s_law_row, defScope s_law_row, [], []⟩
def D__law_long : He.DefD := ⟨("_law_long", none), "_law_long", "_law_long", defArgs s_law_long, defBody s_law_long, defScope s_law_long, [], []⟩
def D__law_gcd : He.DefD := ⟨("_law_gcd", none), "_law_gcd", "_law_gcd", defArgs s_law_gcd, defBody s_law_gcd, defScope s_law_gcd, [], []⟩
def D__law_lowest : He.DefD := ⟨("_law_lowest", none), "_law_lowest", "_law_lowest", defArgs s_law_lowest, defBody s_law_lowest, defScope s_law_lowest, [], []⟩
def D__law_dot : He.DefD := ⟨("_law_dot", none), "_law_dot", "_law_dot", defArgs s_law_dot, defBody s_law_dot, defScope s_law_dot, [], []⟩
def D__law_gap : He.DefD := ⟨("_law_gap", none), "_law_gap", "_law_gap", defArgs s_law_gap, defBody s_law_gap, defScope s_law_gap, [], []⟩
def D__law_step : He.DefD := ⟨("_law_step", none), "_law_step", "_law_step", defArgs s_law_step, defBody s_law_step, defScope s_law_step, [], []⟩
def D__law_steps : He.DefD := ⟨("_law_steps", none), "_law_steps", "_law_steps", defArgs s_law_steps, defBody s_law_steps, defScope s_law_steps, [], []⟩
def D__law_add : He.DefD := ⟨("_law_add", none), "_law_add", "_law_add", defArgs s_law_add, defBody s_law_add, defScope s_law_add, [], []⟩
def D__law_mul : He.DefD := ⟨("_law_mul", none), "_law_mul", "_law_mul", defArgs s_law_mul, defBody s_law_mul, defScope s_law_mul, [], []⟩
def D__law_over : He.DefD := ⟨("_law_over", none), "_law_over", "_law_over", defArgs s_law_over, defBody s_law_over, defScope s_law_over, [], []⟩
def D__law_scaled : He.DefD := ⟨("_law_scaled", none), "_law_scaled", "_law_scaled", defArgs s_law_scaled, defBody s_law_scaled, defScope s_law_scaled, [], []⟩
def D__law_keeps : He.DefD := ⟨("_law_keeps", none), "_law_keeps", "_law_keeps", defArgs s_law_keeps, defBody s_law_keeps, defScope s_law_keeps, [], []⟩
def D__law_closure : He.DefD := ⟨("_law_closure", none), "_law_closure", "_law_closure", defArgs s_law_closure, defBody s_law_closure, defScope s_law_closure, [], []⟩
def D__law_purchase : He.DefD := ⟨("_law_purchase", none), "_law_purchase", "_law_purchase", defArgs s_law_purchase, defBody s_law_purchase, defScope s_law_purchase, [], []⟩
def D__law_data : He.DefD := ⟨("_law_data", none), "_law_data", "_law_data", defArgs s_law_data, defBody s_law_data, defScope s_law_data, [], []⟩
def D__law_is_fraction : He.DefD := ⟨("_law_is_fraction", none), "_law_is_fraction", "_law_is_fraction", defArgs s_law_is_fraction, defBody s_law_is_fraction, defScope s_law_is_fraction, [], []⟩
def D__law_are_fractions : He.DefD := ⟨("_law_are_fractions", none), "_law_are_fractions", "_law_are_fractions", defArgs s_law_are_fractions, defBody s_law_are_fractions, defScope s_law_are_fractions, [], []⟩
def D__law_drawn_basket : He.DefD := ⟨("_law_drawn_basket", none), "_law_drawn_basket", "_law_drawn_basket", defArgs s_law_drawn_basket, defBody s_law_drawn_basket, defScope s_law_drawn_basket, [], []⟩
def D__law_lifted : He.DefD := ⟨("_law_lifted", none), "_law_lifted", "_law_lifted", defArgs s_law_lifted, defBody s_law_lifted, defScope s_law_lifted, [], []⟩
def D__law_baskets : He.DefD := ⟨("_law_baskets", none), "_law_baskets", "_law_baskets", defArgs s_law_baskets, defBody s_law_baskets, defScope s_law_baskets, [], []⟩
def D__law_drawn_paper : He.DefD := ⟨("_law_drawn_paper", none), "_law_drawn_paper", "_law_drawn_paper", defArgs s_law_drawn_paper, defBody s_law_drawn_paper, defScope s_law_drawn_paper, [], []⟩
def D__law_given : He.DefD := ⟨("_law_given", none), "_law_given", "_law_given", defArgs s_law_given, defBody s_law_given, defScope s_law_given, [], []⟩
def D__law_holds : He.DefD := ⟨("_law_holds", none), "_law_holds", "_law_holds", defArgs s_law_holds, defBody s_law_holds, defScope s_law_holds, [], []⟩
def D__law_is_told : He.DefD := ⟨("_law_is_told", none), "_law_is_told", "_law_is_told", defArgs s_law_is_told, defBody s_law_is_told, defScope s_law_is_told, [], []⟩
def D__law_told_papers : He.DefD := ⟨("_law_told_papers", none), "_law_told_papers", "_law_told_papers", defArgs s_law_told_papers, defBody s_law_told_papers, defScope s_law_told_papers, [], []⟩
def D__law_asked : He.DefD := ⟨("_law_asked", none), "_law_asked", "_law_asked", defArgs s_law_asked, defBody s_law_asked, defScope s_law_asked, [], []⟩
def D__law_made : He.DefD := ⟨("_law_made", none), "_law_made", "_law_made", defArgs s_law_made, defBody s_law_made, defScope s_law_made, [], []⟩
def D_ray_of : He.DefD := ⟨("ray_of", none), "ray_of", "ray_of", defArgs s_ray_of, defBody s_ray_of, defScope s_ray_of, [], []⟩
def D_init : He.DefD := ⟨("Data", some "__init__"), "__init__", "Data.__init__", defArgs s_init, defBody s_init, defScope s_init, [], []⟩
def D_law : He.DefD := ⟨("law", none), "law", "law", defArgs s_law, defBody s_law, defScope s_law, [], []⟩
def fnL : List He.DefD := [D_ratio, D_add, D_sub, D_mul, D_div, D_neg, D_less, D_at_most, D_dot, D_scale, D_add_scaled, D_cost, D_spent, D_turned, D_slack_columns, D_helper_columns, D_less_times, D_first_rows, D_reduced, D_pivot, D_entering, D_leaving, D_descend, D_without_helpers, D_values_of, D_prices_of, D_first_basis, D_solve, D_step, D_step_table, D_find_in, D_leads, D_keeps_row, D_first_broken, D_next_class, D_plane, D_class_number, D_member_weight, D_make_taste, D_find_chain, D_check, D_row_lines, D_row_prices, D_prices_allowed, D_some_strict, D_shared_lines, D_need_holds, D_judge_need, D_judge_strict_need, D_least_need, D__law_is_integer, D__law_row, D__law_long, D__law_gcd, D__law_lowest, D__law_dot, D__law_gap, D__law_step, D__law_steps, D__law_add, D__law_mul, D__law_over, D__law_scaled, D__law_keeps, D__law_closure, D__law_purchase, D__law_data, D__law_is_fraction, D__law_are_fractions, D__law_drawn_basket, D__law_lifted, D__law_baskets, D__law_drawn_paper, D__law_given, D__law_holds, D__law_is_told, D__law_told_papers, D__law_asked, D__law_made, D_ray_of, D_init, D_law]
def faL : List He.Fa := [.glo "ratio", .glo "add", .glo "sub", .glo "mul", .glo "div", .glo "neg", .glo "less", .glo "at_most", .glo "dot", .glo "scale", .glo "add_scaled", .glo "cost", .glo "spent", .glo "turned", .glo "slack_columns", .glo "helper_columns", .glo "less_times", .glo "first_rows", .glo "reduced", .glo "pivot", .glo "entering", .glo "leaving", .glo "descend", .glo "without_helpers", .glo "values_of", .glo "prices_of", .glo "first_basis", .glo "solve", .glo "step", .glo "step_table", .glo "find_in", .glo "leads", .glo "keeps_row", .glo "first_broken", .glo "next_class", .glo "plane", .glo "class_number", .glo "member_weight", .glo "make_taste", .glo "find_chain", .glo "check", .glo "row_lines", .glo "row_prices", .glo "prices_allowed", .glo "some_strict", .glo "shared_lines", .glo "need_holds", .glo "judge_need", .glo "judge_strict_need", .glo "least_need", .glo "_law_is_integer", .glo "_law_row", .glo "_law_long", .glo "_law_gcd", .glo "_law_lowest", .glo "_law_dot", .glo "_law_gap", .glo "_law_step", .glo "_law_steps", .glo "_law_add", .glo "_law_mul", .glo "_law_over", .glo "_law_scaled", .glo "_law_keeps", .glo "_law_closure", .glo "_law_purchase", .glo "_law_data", .glo "_law_is_fraction", .glo "_law_are_fractions", .glo "_law_drawn_basket", .glo "_law_lifted", .glo "_law_baskets", .glo "_law_drawn_paper", .glo "_law_given", .glo "_law_holds", .glo "_law_is_told", .glo "_law_told_papers", .glo "_law_asked", .glo "_law_made", .glo "ray_of", .glo "law", .glo "Data", .glo "ZERO", .glo "ONE", .free "len", .free "range", .free "list", .free "int", .free "max", .free "abs", .free "isinstance", .free "bool", .free "tuple", .cls "Data", .mkr "Data", .noat "Data" "goods", .noat "Data" "buys", .noat "Data" "links"]
def exB (K : PySem.W.Frag) : Bool := He.tupB K "ZERO" [.int 0, .int 1] && (He.tupB K "ONE" [.int 1, .int 1] && He.eqO (PySem.W.nsIn K mainGlobals "gcd") (some (some (.builtin "math.gcd"))))
theorem useL {K : PySem.W.Frag} {h : Heap} (_ : K.In h) (c : (He.obsD faL fnL K, exB K) = (He.valD fnL, true)) : He.SaysD faL fnL K ∧ exB K = true := ⟨congrArg Prod.fst c, congrArg Prod.snd c⟩
section
variable {P : Program} {w : World} {K : PySem.W.Frag} {mg : Str → Option Value} {h : Heap}
theorem gbL (X : K.In h) (Y : h.Ns mainGlobals mg) (c : He.SaysD faL fnL K) (c2 : exB K = true) : Gb K mg := by
  obtain ⟨z1, z2⟩ := He.ba c2
  obtain ⟨z3, z4⟩ := He.ba z2
  exact ⟨⟨_, He.glo_ok X Y (c.fact 82 (f := .glo "ZERO") rfl), He.tupB_ok z1⟩, ⟨_, He.glo_ok X Y (c.fact 83 (f := .glo "ONE") rfl), He.tupB_ok z3⟩, PySem.W.mg_of X Y (He.eqO_ok z4), He.free_ok X Y (c.fact 84 (f := .free "len") rfl), He.free_ok X Y (c.fact 85 (f := .free "range") rfl), He.free_ok X Y (c.fact 86 (f := .free "list") rfl), He.free_ok X Y (c.fact 87 (f := .free "int") rfl), He.free_ok X Y (c.fact 88 (f := .free "max") rfl), He.free_ok X Y (c.fact 89 (f := .free "abs") rfl), He.free_ok X Y (c.fact 90 (f := .free "isinstance") rfl), He.free_ok X Y (c.fact 91 (f := .free "bool") rfl), He.free_ok X Y (c.fact 92 (f := .free "tuple") rfl)⟩
theorem F0_ratio (X : K.In h) (Y : h.Ns mainGlobals mg) (c : He.SaysD faL fnL K) : Def0 K mg "ratio" s_ratio ["p", "q"] := by
  obtain ⟨fd, F⟩ := c.def_ 0 (d := D_ratio) rfl
  exact ⟨_, fd, F, He.glo_ok X Y (c.fact 0 (f := .glo "ratio") rfl), F.bindsN fun _ _ _ _ _ _ us hl => match us, hl with | [_, _], _ => rfl⟩
theorem F0_add (X : K.In h) (Y : h.Ns mainGlobals mg) (c : He.SaysD faL fnL K) : Def0 K mg "add" s_add ["a", "b"] := by
  obtain ⟨fd, F⟩ := c.def_ 1 (d := D_add) rfl
  exact ⟨_, fd, F, He.glo_ok X Y (c.fact 1 (f := .glo "add") rfl), F.bindsN fun _ _ _ _ _ _ us hl => match us, hl with | [_, _], _ => rfl⟩
theorem F0_sub (X : K.In h) (Y : h.Ns mainGlobals mg) (c : He.SaysD faL fnL K) : Def0 K mg "sub" s_sub ["a", "b"] := by
  obtain ⟨fd, F⟩ := c.def_ 2 (d := D_sub) rfl
  exact ⟨_, fd, F, He.glo_ok X Y (c.fact 2 (f := .glo "sub") rfl), F.bindsN fun _ _ _ _ _ _ us hl => match us, hl with | [_, _], _ => rfl⟩
theorem F0_mul (X : K.In h) (Y : h.Ns mainGlobals mg) (c : He.SaysD faL fnL K) : Def0 K mg "mul" s_mul ["a", "b"] := by
  obtain ⟨fd, F⟩ := c.def_ 3 (d := D_mul) rfl
  exact ⟨_, fd, F, He.glo_ok X Y (c.fact 3 (f := .glo "mul") rfl), F.bindsN fun _ _ _ _ _ _ us hl => match us, hl with | [_, _], _ => rfl⟩
theorem F0_div (X : K.In h) (Y : h.Ns mainGlobals mg) (c : He.SaysD faL fnL K) : Def0 K mg "div" s_div ["a", "b"] := by
  obtain ⟨fd, F⟩ := c.def_ 4 (d := D_div) rfl
  exact ⟨_, fd, F, He.glo_ok X Y (c.fact 4 (f := .glo "div") rfl), F.bindsN fun _ _ _ _ _ _ us hl => match us, hl with | [_, _], _ => rfl⟩
theorem F0_neg (X : K.In h) (Y : h.Ns mainGlobals mg) (c : He.SaysD faL fnL K) : Def0 K mg "neg" s_neg ["a"] := by
  obtain ⟨fd, F⟩ := c.def_ 5 (d := D_neg) rfl
  exact ⟨_, fd, F, He.glo_ok X Y (c.fact 5 (f := .glo "neg") rfl), F.bindsN fun _ _ _ _ _ _ us hl => match us, hl with | [_], _ => rfl⟩
theorem F0_less (X : K.In h) (Y : h.Ns mainGlobals mg) (c : He.SaysD faL fnL K) : Def0 K mg "less" s_less ["a", "b"] := by
  obtain ⟨fd, F⟩ := c.def_ 6 (d := D_less) rfl
  exact ⟨_, fd, F, He.glo_ok X Y (c.fact 6 (f := .glo "less") rfl), F.bindsN fun _ _ _ _ _ _ us hl => match us, hl with | [_, _], _ => rfl⟩
theorem F0_at_most (X : K.In h) (Y : h.Ns mainGlobals mg) (c : He.SaysD faL fnL K) : Def0 K mg "at_most" s_at_most ["a", "b"] := by
  obtain ⟨fd, F⟩ := c.def_ 7 (d := D_at_most) rfl
  exact ⟨_, fd, F, He.glo_ok X Y (c.fact 7 (f := .glo "at_most") rfl), F.bindsN fun _ _ _ _ _ _ us hl => match us, hl with | [_, _], _ => rfl⟩
theorem F0_dot (X : K.In h) (Y : h.Ns mainGlobals mg) (c : He.SaysD faL fnL K) : Def0 K mg "dot" s_dot ["a", "b"] := by
  obtain ⟨fd, F⟩ := c.def_ 8 (d := D_dot) rfl
  exact ⟨_, fd, F, He.glo_ok X Y (c.fact 8 (f := .glo "dot") rfl), F.bindsN fun _ _ _ _ _ _ us hl => match us, hl with | [_, _], _ => rfl⟩
theorem F0_scale (X : K.In h) (Y : h.Ns mainGlobals mg) (c : He.SaysD faL fnL K) : Def0 K mg "scale" s_scale ["k", "a"] := by
  obtain ⟨fd, F⟩ := c.def_ 9 (d := D_scale) rfl
  exact ⟨_, fd, F, He.glo_ok X Y (c.fact 9 (f := .glo "scale") rfl), F.bindsN fun _ _ _ _ _ _ us hl => match us, hl with | [_, _], _ => rfl⟩
theorem F0_add_scaled (X : K.In h) (Y : h.Ns mainGlobals mg) (c : He.SaysD faL fnL K) : Def0 K mg "add_scaled" s_add_scaled ["a", "k", "b"] := by
  obtain ⟨fd, F⟩ := c.def_ 10 (d := D_add_scaled) rfl
  exact ⟨_, fd, F, He.glo_ok X Y (c.fact 10 (f := .glo "add_scaled") rfl), F.bindsN fun _ _ _ _ _ _ us hl => match us, hl with | [_, _, _], _ => rfl⟩
theorem F0_cost (X : K.In h) (Y : h.Ns mainGlobals mg) (c : He.SaysD faL fnL K) : Def0 K mg "cost" s_cost ["prices", "amounts"] := by
  obtain ⟨fd, F⟩ := c.def_ 11 (d := D_cost) rfl
  exact ⟨_, fd, F, He.glo_ok X Y (c.fact 11 (f := .glo "cost") rfl), F.bindsN fun _ _ _ _ _ _ us hl => match us, hl with | [_, _], _ => rfl⟩
theorem F0_spent (X : K.In h) (Y : h.Ns mainGlobals mg) (c : He.SaysD faL fnL K) : Def0 K mg "spent" s_spent ["data", "i"] := by
  obtain ⟨fd, F⟩ := c.def_ 12 (d := D_spent) rfl
  exact ⟨_, fd, F, He.glo_ok X Y (c.fact 12 (f := .glo "spent") rfl), F.bindsN fun _ _ _ _ _ _ us hl => match us, hl with | [_, _], _ => rfl⟩
theorem F0_turned (X : K.In h) (Y : h.Ns mainGlobals mg) (c : He.SaysD faL fnL K) : Def0 K mg "turned" s_turned ["line"] := by
  obtain ⟨fd, F⟩ := c.def_ 13 (d := D_turned) rfl
  exact ⟨_, fd, F, He.glo_ok X Y (c.fact 13 (f := .glo "turned") rfl), F.bindsN fun _ _ _ _ _ _ us hl => match us, hl with | [_], _ => rfl⟩
theorem F0_slack_columns (X : K.In h) (Y : h.Ns mainGlobals mg) (c : He.SaysD faL fnL K) : Def0 K mg "slack_columns" s_slack_columns ["count", "lines"] := by
  obtain ⟨fd, F⟩ := c.def_ 14 (d := D_slack_columns) rfl
  exact ⟨_, fd, F, He.glo_ok X Y (c.fact 14 (f := .glo "slack_columns") rfl), F.bindsN fun _ _ _ _ _ _ us hl => match us, hl with | [_, _], _ => rfl⟩
theorem F0_helper_columns (X : K.In h) (Y : h.Ns mainGlobals mg) (c : He.SaysD faL fnL K) : Def0 K mg "helper_columns" s_helper_columns ["column", "lines"] := by
  obtain ⟨fd, F⟩ := c.def_ 15 (d := D_helper_columns) rfl
  exact ⟨_, fd, F, He.glo_ok X Y (c.fact 15 (f := .glo "helper_columns") rfl), F.bindsN fun _ _ _ _ _ _ us hl => match us, hl with | [_, _], _ => rfl⟩
theorem F0_less_times (X : K.In h) (Y : h.Ns mainGlobals mg) (c : He.SaysD faL fnL K) : Def0 K mg "less_times" s_less_times ["a", "times", "b"] := by
  obtain ⟨fd, F⟩ := c.def_ 16 (d := D_less_times) rfl
  exact ⟨_, fd, F, He.glo_ok X Y (c.fact 16 (f := .glo "less_times") rfl), F.bindsN fun _ _ _ _ _ _ us hl => match us, hl with | [_, _, _], _ => rfl⟩
theorem F0_first_rows (X : K.In h) (Y : h.Ns mainGlobals mg) (c : He.SaysD faL fnL K) : Def0 K mg "first_rows" s_first_rows ["lines", "slacks", "helpers", "total"] := by
  obtain ⟨fd, F⟩ := c.def_ 17 (d := D_first_rows) rfl
  exact ⟨_, fd, F, He.glo_ok X Y (c.fact 17 (f := .glo "first_rows") rfl), F.bindsN fun _ _ _ _ _ _ us hl => match us, hl with | [_, _, _, _], _ => rfl⟩
theorem F0_reduced (X : K.In h) (Y : h.Ns mainGlobals mg) (c : He.SaysD faL fnL K) : Def0 K mg "reduced" s_reduced ["costs", "rows", "basis"] := by
  obtain ⟨fd, F⟩ := c.def_ 18 (d := D_reduced) rfl
  exact ⟨_, fd, F, He.glo_ok X Y (c.fact 18 (f := .glo "reduced") rfl), F.bindsN fun _ _ _ _ _ _ us hl => match us, hl with | [_, _, _], _ => rfl⟩
theorem F0_pivot (X : K.In h) (Y : h.Ns mainGlobals mg) (c : He.SaysD faL fnL K) : Def0 K mg "pivot" s_pivot ["rows", "r", "c"] := by
  obtain ⟨fd, F⟩ := c.def_ 19 (d := D_pivot) rfl
  exact ⟨_, fd, F, He.glo_ok X Y (c.fact 19 (f := .glo "pivot") rfl), F.bindsN fun _ _ _ _ _ _ us hl => match us, hl with | [_, _, _], _ => rfl⟩
theorem F0_entering (X : K.In h) (Y : h.Ns mainGlobals mg) (c : He.SaysD faL fnL K) : Def0 K mg "entering" s_entering ["costs", "width"] := by
  obtain ⟨fd, F⟩ := c.def_ 20 (d := D_entering) rfl
  exact ⟨_, fd, F, He.glo_ok X Y (c.fact 20 (f := .glo "entering") rfl), F.bindsN fun _ _ _ _ _ _ us hl => match us, hl with | [_, _], _ => rfl⟩
theorem F0_leaving (X : K.In h) (Y : h.Ns mainGlobals mg) (c : He.SaysD faL fnL K) : Def0 K mg "leaving" s_leaving ["rows", "basis", "c"] := by
  obtain ⟨fd, F⟩ := c.def_ 21 (d := D_leaving) rfl
  exact ⟨_, fd, F, He.glo_ok X Y (c.fact 21 (f := .glo "leaving") rfl), F.bindsN fun _ _ _ _ _ _ us hl => match us, hl with | [_, _, _], _ => rfl⟩
theorem F0_descend (X : K.In h) (Y : h.Ns mainGlobals mg) (c : He.SaysD faL fnL K) : Def0 K mg "descend" s_descend ["rows", "basis", "width"] := by
  obtain ⟨fd, F⟩ := c.def_ 22 (d := D_descend) rfl
  exact ⟨_, fd, F, He.glo_ok X Y (c.fact 22 (f := .glo "descend") rfl), F.bindsN fun _ _ _ _ _ _ us hl => match us, hl with | [_, _, _], _ => rfl⟩
theorem F0_without_helpers (X : K.In h) (Y : h.Ns mainGlobals mg) (c : He.SaysD faL fnL K) : Def0 K mg "without_helpers" s_without_helpers ["rows", "basis", "width"] := by
  obtain ⟨fd, F⟩ := c.def_ 23 (d := D_without_helpers) rfl
  exact ⟨_, fd, F, He.glo_ok X Y (c.fact 23 (f := .glo "without_helpers") rfl), F.bindsN fun _ _ _ _ _ _ us hl => match us, hl with | [_, _, _], _ => rfl⟩
theorem F0_values_of (X : K.In h) (Y : h.Ns mainGlobals mg) (c : He.SaysD faL fnL K) : Def0 K mg "values_of" s_values_of ["rows", "basis", "count"] := by
  obtain ⟨fd, F⟩ := c.def_ 24 (d := D_values_of) rfl
  exact ⟨_, fd, F, He.glo_ok X Y (c.fact 24 (f := .glo "values_of") rfl), F.bindsN fun _ _ _ _ _ _ us hl => match us, hl with | [_, _, _], _ => rfl⟩
theorem F0_prices_of (X : K.In h) (Y : h.Ns mainGlobals mg) (c : He.SaysD faL fnL K) : Def0 K mg "prices_of" s_prices_of ["costs", "lines", "slacks", "helpers", "own"] := by
  obtain ⟨fd, F⟩ := c.def_ 25 (d := D_prices_of) rfl
  exact ⟨_, fd, F, He.glo_ok X Y (c.fact 25 (f := .glo "prices_of") rfl), F.bindsN fun _ _ _ _ _ _ us hl => match us, hl with | [_, _, _, _, _], _ => rfl⟩
theorem F0_first_basis (X : K.In h) (Y : h.Ns mainGlobals mg) (c : He.SaysD faL fnL K) : Def0 K mg "first_basis" s_first_basis ["slacks", "helpers"] := by
  obtain ⟨fd, F⟩ := c.def_ 26 (d := D_first_basis) rfl
  exact ⟨_, fd, F, He.glo_ok X Y (c.fact 26 (f := .glo "first_basis") rfl), F.bindsN fun _ _ _ _ _ _ us hl => match us, hl with | [_, _], _ => rfl⟩
theorem F0_solve (X : K.In h) (Y : h.Ns mainGlobals mg) (c : He.SaysD faL fnL K) : Def0 K mg "solve" s_solve ["costs", "lines"] := by
  obtain ⟨fd, F⟩ := c.def_ 27 (d := D_solve) rfl
  exact ⟨_, fd, F, He.glo_ok X Y (c.fact 27 (f := .glo "solve") rfl), F.bindsN fun _ _ _ _ _ _ us hl => match us, hl with | [_, _], _ => rfl⟩
theorem F0_step (X : K.In h) (Y : h.Ns mainGlobals mg) (c : He.SaysD faL fnL K) : Def0 K mg "step" s_step ["data", "i", "j"] := by
  obtain ⟨fd, F⟩ := c.def_ 28 (d := D_step) rfl
  exact ⟨_, fd, F, He.glo_ok X Y (c.fact 28 (f := .glo "step") rfl), F.bindsN fun _ _ _ _ _ _ us hl => match us, hl with | [_, _, _], _ => rfl⟩
theorem F0_step_table (X : K.In h) (Y : h.Ns mainGlobals mg) (c : He.SaysD faL fnL K) : Def0 K mg "step_table" s_step_table ["data"] := by
  obtain ⟨fd, F⟩ := c.def_ 29 (d := D_step_table) rfl
  exact ⟨_, fd, F, He.glo_ok X Y (c.fact 29 (f := .glo "step_table") rfl), F.bindsN fun _ _ _ _ _ _ us hl => match us, hl with | [_], _ => rfl⟩
theorem F0_find_in (X : K.In h) (Y : h.Ns mainGlobals mg) (c : He.SaysD faL fnL K) : Def0 K mg "find_in" s_find_in ["table", "i"] := by
  obtain ⟨fd, F⟩ := c.def_ 30 (d := D_find_in) rfl
  exact ⟨_, fd, F, He.glo_ok X Y (c.fact 30 (f := .glo "find_in") rfl), F.bindsN fun _ _ _ _ _ _ us hl => match us, hl with | [_, _], _ => rfl⟩
theorem F0_leads (X : K.In h) (Y : h.Ns mainGlobals mg) (c : He.SaysD faL fnL K) : Def0 K mg "leads" s_leads ["data"] := by
  obtain ⟨fd, F⟩ := c.def_ 31 (d := D_leads) rfl
  exact ⟨_, fd, F, He.glo_ok X Y (c.fact 31 (f := .glo "leads") rfl), F.bindsN fun _ _ _ _ _ _ us hl => match us, hl with | [_], _ => rfl⟩
theorem F0_keeps_row (X : K.In h) (Y : h.Ns mainGlobals mg) (c : He.SaysD faL fnL K) : Def0 K mg "keeps_row" s_keeps_row ["data", "j", "strict", "basket"] := by
  obtain ⟨fd, F⟩ := c.def_ 32 (d := D_keeps_row) rfl
  exact ⟨_, fd, F, He.glo_ok X Y (c.fact 32 (f := .glo "keeps_row") rfl), F.bindsN fun _ _ _ _ _ _ us hl => match us, hl with | [_, _, _, _], _ => rfl⟩
theorem F0_first_broken (X : K.In h) (Y : h.Ns mainGlobals mg) (c : He.SaysD faL fnL K) : Def0 K mg "first_broken" s_first_broken ["data", "rows", "basket"] := by
  obtain ⟨fd, F⟩ := c.def_ 33 (d := D_first_broken) rfl
  exact ⟨_, fd, F, He.glo_ok X Y (c.fact 33 (f := .glo "first_broken") rfl), F.bindsN fun _ _ _ _ _ _ us hl => match us, hl with | [_, _, _], _ => rfl⟩
theorem F0_next_class (X : K.In h) (Y : h.Ns mainGlobals mg) (c : He.SaysD faL fnL K) : Def0 K mg "next_class" s_next_class ["table", "done"] := by
  obtain ⟨fd, F⟩ := c.def_ 34 (d := D_next_class) rfl
  exact ⟨_, fd, F, He.glo_ok X Y (c.fact 34 (f := .glo "next_class") rfl), F.bindsN fun _ _ _ _ _ _ us hl => match us, hl with | [_, _], _ => rfl⟩
theorem F0_plane (X : K.In h) (Y : h.Ns mainGlobals mg) (c : He.SaysD faL fnL K) : Def0 K mg "plane" s_plane ["data", "taste", "i", "basket"] := by
  obtain ⟨fd, F⟩ := c.def_ 35 (d := D_plane) rfl
  exact ⟨_, fd, F, He.glo_ok X Y (c.fact 35 (f := .glo "plane") rfl), F.bindsN fun _ _ _ _ _ _ us hl => match us, hl with | [_, _, _, _], _ => rfl⟩
theorem F0_class_number (X : K.In h) (Y : h.Ns mainGlobals mg) (c : He.SaysD faL fnL K) : Def0 K mg "class_number" s_class_number ["data", "taste", "done", "members"] := by
  obtain ⟨fd, F⟩ := c.def_ 36 (d := D_class_number) rfl
  exact ⟨_, fd, F, He.glo_ok X Y (c.fact 36 (f := .glo "class_number") rfl), F.bindsN fun _ _ _ _ _ _ us hl => match us, hl with | [_, _, _, _], _ => rfl⟩
theorem F0_member_weight (X : K.In h) (Y : h.Ns mainGlobals mg) (c : He.SaysD faL fnL K) : Def0 K mg "member_weight" s_member_weight ["data", "numbers", "done", "number", "j"] := by
  obtain ⟨fd, F⟩ := c.def_ 37 (d := D_member_weight) rfl
  exact ⟨_, fd, F, He.glo_ok X Y (c.fact 37 (f := .glo "member_weight") rfl), F.bindsN fun _ _ _ _ _ _ us hl => match us, hl with | [_, _, _, _, _], _ => rfl⟩
theorem F0_make_taste (X : K.In h) (Y : h.Ns mainGlobals mg) (c : He.SaysD faL fnL K) : Def0 K mg "make_taste" s_make_taste ["data", "table"] := by
  obtain ⟨fd, F⟩ := c.def_ 38 (d := D_make_taste) rfl
  exact ⟨_, fd, F, He.glo_ok X Y (c.fact 38 (f := .glo "make_taste") rfl), F.bindsN fun _ _ _ _ _ _ us hl => match us, hl with | [_, _], _ => rfl⟩
theorem F0_find_chain (X : K.In h) (Y : h.Ns mainGlobals mg) (c : He.SaysD faL fnL K) : Def0 K mg "find_chain" s_find_chain ["data", "i", "j"] := by
  obtain ⟨fd, F⟩ := c.def_ 39 (d := D_find_chain) rfl
  exact ⟨_, fd, F, He.glo_ok X Y (c.fact 39 (f := .glo "find_chain") rfl), F.bindsN fun _ _ _ _ _ _ us hl => match us, hl with | [_, _, _], _ => rfl⟩
theorem F0_check (X : K.In h) (Y : h.Ns mainGlobals mg) (c : He.SaysD faL fnL K) : Def0 K mg "check" s_check ["data"] := by
  obtain ⟨fd, F⟩ := c.def_ 40 (d := D_check) rfl
  exact ⟨_, fd, F, He.glo_ok X Y (c.fact 40 (f := .glo "check") rfl), F.bindsN fun _ _ _ _ _ _ us hl => match us, hl with | [_], _ => rfl⟩
theorem F0_row_lines (X : K.In h) (Y : h.Ns mainGlobals mg) (c : He.SaysD faL fnL K) : Def0 K mg "row_lines" s_row_lines ["data", "rows", "shared"] := by
  obtain ⟨fd, F⟩ := c.def_ 41 (d := D_row_lines) rfl
  exact ⟨_, fd, F, He.glo_ok X Y (c.fact 41 (f := .glo "row_lines") rfl), F.bindsN fun _ _ _ _ _ _ us hl => match us, hl with | [_, _, _], _ => rfl⟩
theorem F0_row_prices (X : K.In h) (Y : h.Ns mainGlobals mg) (c : He.SaysD faL fnL K) : Def0 K mg "row_prices" s_row_prices ["rows", "prices"] := by
  obtain ⟨fd, F⟩ := c.def_ 42 (d := D_row_prices) rfl
  exact ⟨_, fd, F, He.glo_ok X Y (c.fact 42 (f := .glo "row_prices") rfl), F.bindsN fun _ _ _ _ _ _ us hl => match us, hl with | [_, _], _ => rfl⟩
theorem F0_prices_allowed (X : K.In h) (Y : h.Ns mainGlobals mg) (c : He.SaysD faL fnL K) : Def0 K mg "prices_allowed" s_prices_allowed ["rows", "given_prices"] := by
  obtain ⟨fd, F⟩ := c.def_ 43 (d := D_prices_allowed) rfl
  exact ⟨_, fd, F, He.glo_ok X Y (c.fact 43 (f := .glo "prices_allowed") rfl), F.bindsN fun _ _ _ _ _ _ us hl => match us, hl with | [_, _], _ => rfl⟩
theorem F0_some_strict (X : K.In h) (Y : h.Ns mainGlobals mg) (c : He.SaysD faL fnL K) : Def0 K mg "some_strict" s_some_strict ["rows", "given_prices"] := by
  obtain ⟨fd, F⟩ := c.def_ 44 (d := D_some_strict) rfl
  exact ⟨_, fd, F, He.glo_ok X Y (c.fact 44 (f := .glo "some_strict") rfl), F.bindsN fun _ _ _ _ _ _ us hl => match us, hl with | [_, _], _ => rfl⟩
theorem F0_shared_lines (X : K.In h) (Y : h.Ns mainGlobals mg) (c : He.SaysD faL fnL K) : Def0 K mg "shared_lines" s_shared_lines ["data", "prices", "money", "rows"] := by
  obtain ⟨fd, F⟩ := c.def_ 45 (d := D_shared_lines) rfl
  exact ⟨_, fd, F, He.glo_ok X Y (c.fact 45 (f := .glo "shared_lines") rfl), F.bindsN fun _ _ _ _ _ _ us hl => match us, hl with | [_, _, _, _], _ => rfl⟩
theorem F0_need_holds (X : K.In h) (Y : h.Ns mainGlobals mg) (c : He.SaysD faL fnL K) : Def0 K mg "need_holds" s_need_holds ["data", "prices", "money", "paper"] := by
  obtain ⟨fd, F⟩ := c.def_ 46 (d := D_need_holds) rfl
  exact ⟨_, fd, F, He.glo_ok X Y (c.fact 46 (f := .glo "need_holds") rfl), F.bindsN fun _ _ _ _ _ _ us hl => match us, hl with | [_, _, _, _], _ => rfl⟩
theorem F0_judge_need (X : K.In h) (Y : h.Ns mainGlobals mg) (c : He.SaysD faL fnL K) : Def0 K mg "judge_need" s_judge_need ["data", "i", "prices", "money", "paper"] := by
  obtain ⟨fd, F⟩ := c.def_ 47 (d := D_judge_need) rfl
  exact ⟨_, fd, F, He.glo_ok X Y (c.fact 47 (f := .glo "judge_need") rfl), F.bindsN fun _ _ _ _ _ _ us hl => match us, hl with | [_, _, _, _, _], _ => rfl⟩
theorem F0_judge_strict_need (X : K.In h) (Y : h.Ns mainGlobals mg) (c : He.SaysD faL fnL K) : Def0 K mg "judge_strict_need" s_judge_strict_need ["data", "i", "prices", "money", "paper"] := by
  obtain ⟨fd, F⟩ := c.def_ 48 (d := D_judge_strict_need) rfl
  exact ⟨_, fd, F, He.glo_ok X Y (c.fact 48 (f := .glo "judge_strict_need") rfl), F.bindsN fun _ _ _ _ _ _ us hl => match us, hl with | [_, _, _, _, _], _ => rfl⟩
theorem F0_least_need (X : K.In h) (Y : h.Ns mainGlobals mg) (c : He.SaysD faL fnL K) : Def0 K mg "least_need" s_least_need ["data", "i", "prices"] := by
  obtain ⟨fd, F⟩ := c.def_ 49 (d := D_least_need) rfl
  exact ⟨_, fd, F, He.glo_ok X Y (c.fact 49 (f := .glo "least_need") rfl), F.bindsN fun _ _ _ _ _ _ us hl => match us, hl with | [_, _, _], _ => rfl⟩
theorem F0__law_is_integer (X : K.In h) (Y : h.Ns mainGlobals mg) (c : He.SaysD faL fnL K) : Def0 K mg "_law_is_integer" s_law_is_integer ["_law_x"] := by
  obtain ⟨fd, F⟩ := c.def_ 50 (d := D__law_is_integer) rfl
  exact ⟨_, fd, F, He.glo_ok X Y (c.fact 50 (f := .glo "_law_is_integer") rfl), F.bindsN fun _ _ _ _ _ _ us hl => match us, hl with | [_], _ => rfl⟩
theorem F0__law_row (X : K.In h) (Y : h.Ns mainGlobals mg) (c : He.SaysD faL fnL K) : Def0 K mg "_law_row" s_law_row ["_law_script", "_law_place", "_law_many"] := by
  obtain ⟨fd, F⟩ := c.def_ 51 (d := D__law_row) rfl
  exact ⟨_, fd, F, He.glo_ok X Y (c.fact 51 (f := .glo "_law_row") rfl), F.bindsN fun _ _ _ _ _ _ us hl => match us, hl with | [_, _, _], _ => rfl⟩
theorem F0__law_long (X : K.In h) (Y : h.Ns mainGlobals mg) (c : He.SaysD faL fnL K) : Def0 K mg "_law_long" s_law_long ["_law_row_here", "_law_start", "_law_many"] := by
  obtain ⟨fd, F⟩ := c.def_ 52 (d := D__law_long) rfl
  exact ⟨_, fd, F, He.glo_ok X Y (c.fact 52 (f := .glo "_law_long") rfl), F.bindsN fun _ _ _ _ _ _ us hl => match us, hl with | [_, _, _], _ => rfl⟩
theorem F0__law_gcd (X : K.In h) (Y : h.Ns mainGlobals mg) (c : He.SaysD faL fnL K) : Def0 K mg "_law_gcd" s_law_gcd ["_law_a", "_law_b"] := by
  obtain ⟨fd, F⟩ := c.def_ 53 (d := D__law_gcd) rfl
  exact ⟨_, fd, F, He.glo_ok X Y (c.fact 53 (f := .glo "_law_gcd") rfl), F.bindsN fun _ _ _ _ _ _ us hl => match us, hl with | [_, _], _ => rfl⟩
theorem F0__law_lowest (X : K.In h) (Y : h.Ns mainGlobals mg) (c : He.SaysD faL fnL K) : Def0 K mg "_law_lowest" s_law_lowest ["_law_p", "_law_q"] := by
  obtain ⟨fd, F⟩ := c.def_ 54 (d := D__law_lowest) rfl
  exact ⟨_, fd, F, He.glo_ok X Y (c.fact 54 (f := .glo "_law_lowest") rfl), F.bindsN fun _ _ _ _ _ _ us hl => match us, hl with | [_, _], _ => rfl⟩
theorem F0__law_dot (X : K.In h) (Y : h.Ns mainGlobals mg) (c : He.SaysD faL fnL K) : Def0 K mg "_law_dot" s_law_dot ["_law_a", "_law_b"] := by
  obtain ⟨fd, F⟩ := c.def_ 55 (d := D__law_dot) rfl
  exact ⟨_, fd, F, He.glo_ok X Y (c.fact 55 (f := .glo "_law_dot") rfl), F.bindsN fun _ _ _ _ _ _ us hl => match us, hl with | [_, _], _ => rfl⟩
theorem F0__law_gap (X : K.In h) (Y : h.Ns mainGlobals mg) (c : He.SaysD faL fnL K) : Def0 K mg "_law_gap" s_law_gap ["_law_buys", "_law_i", "_law_basket"] := by
  obtain ⟨fd, F⟩ := c.def_ 56 (d := D__law_gap) rfl
  exact ⟨_, fd, F, He.glo_ok X Y (c.fact 56 (f := .glo "_law_gap") rfl), F.bindsN fun _ _ _ _ _ _ us hl => match us, hl with | [_, _, _], _ => rfl⟩
theorem F0__law_step (X : K.In h) (Y : h.Ns mainGlobals mg) (c : He.SaysD faL fnL K) : Def0 K mg "_law_step" s_law_step ["_law_buys", "_law_links", "_law_i", "_law_j"] := by
  obtain ⟨fd, F⟩ := c.def_ 57 (d := D__law_step) rfl
  exact ⟨_, fd, F, He.glo_ok X Y (c.fact 57 (f := .glo "_law_step") rfl), F.bindsN fun _ _ _ _ _ _ us hl => match us, hl with | [_, _, _, _], _ => rfl⟩
theorem F0__law_steps (X : K.In h) (Y : h.Ns mainGlobals mg) (c : He.SaysD faL fnL K) : Def0 K mg "_law_steps" s_law_steps ["_law_buys", "_law_links"] := by
  obtain ⟨fd, F⟩ := c.def_ 58 (d := D__law_steps) rfl
  exact ⟨_, fd, F, He.glo_ok X Y (c.fact 58 (f := .glo "_law_steps") rfl), F.bindsN fun _ _ _ _ _ _ us hl => match us, hl with | [_, _], _ => rfl⟩
theorem F0__law_add (X : K.In h) (Y : h.Ns mainGlobals mg) (c : He.SaysD faL fnL K) : Def0 K mg "_law_add" s_law_add ["_law_a", "_law_b"] := by
  obtain ⟨fd, F⟩ := c.def_ 59 (d := D__law_add) rfl
  exact ⟨_, fd, F, He.glo_ok X Y (c.fact 59 (f := .glo "_law_add") rfl), F.bindsN fun _ _ _ _ _ _ us hl => match us, hl with | [_, _], _ => rfl⟩
theorem F0__law_mul (X : K.In h) (Y : h.Ns mainGlobals mg) (c : He.SaysD faL fnL K) : Def0 K mg "_law_mul" s_law_mul ["_law_a", "_law_b"] := by
  obtain ⟨fd, F⟩ := c.def_ 60 (d := D__law_mul) rfl
  exact ⟨_, fd, F, He.glo_ok X Y (c.fact 60 (f := .glo "_law_mul") rfl), F.bindsN fun _ _ _ _ _ _ us hl => match us, hl with | [_, _], _ => rfl⟩
theorem F0__law_over (X : K.In h) (Y : h.Ns mainGlobals mg) (c : He.SaysD faL fnL K) : Def0 K mg "_law_over" s_law_over ["_law_a", "_law_b"] := by
  obtain ⟨fd, F⟩ := c.def_ 61 (d := D__law_over) rfl
  exact ⟨_, fd, F, He.glo_ok X Y (c.fact 61 (f := .glo "_law_over") rfl), F.bindsN fun _ _ _ _ _ _ us hl => match us, hl with | [_, _], _ => rfl⟩
theorem F0__law_scaled (X : K.In h) (Y : h.Ns mainGlobals mg) (c : He.SaysD faL fnL K) : Def0 K mg "_law_scaled" s_law_scaled ["_law_basket", "_law_p", "_law_q"] := by
  obtain ⟨fd, F⟩ := c.def_ 62 (d := D__law_scaled) rfl
  exact ⟨_, fd, F, He.glo_ok X Y (c.fact 62 (f := .glo "_law_scaled") rfl), F.bindsN fun _ _ _ _ _ _ us hl => match us, hl with | [_, _, _], _ => rfl⟩
theorem F0__law_keeps (X : K.In h) (Y : h.Ns mainGlobals mg) (c : He.SaysD faL fnL K) : Def0 K mg "_law_keeps" s_law_keeps ["_law_buys", "_law_rows", "_law_basket", "_law_weakly"] := by
  obtain ⟨fd, F⟩ := c.def_ 63 (d := D__law_keeps) rfl
  exact ⟨_, fd, F, He.glo_ok X Y (c.fact 63 (f := .glo "_law_keeps") rfl), F.bindsN fun _ _ _ _ _ _ us hl => match us, hl with | [_, _, _, _], _ => rfl⟩
theorem F0__law_closure (X : K.In h) (Y : h.Ns mainGlobals mg) (c : He.SaysD faL fnL K) : Def0 K mg "_law_closure" s_law_closure ["_law_steps_here"] := by
  obtain ⟨fd, F⟩ := c.def_ 64 (d := D__law_closure) rfl
  exact ⟨_, fd, F, He.glo_ok X Y (c.fact 64 (f := .glo "_law_closure") rfl), F.bindsN fun _ _ _ _ _ _ us hl => match us, hl with | [_], _ => rfl⟩
theorem F0__law_purchase (X : K.In h) (Y : h.Ns mainGlobals mg) (c : He.SaysD faL fnL K) : Def0 K mg "_law_purchase" s_law_purchase ["_law_row_here", "_law_shape", "_law_goods", "_law_kind"] := by
  obtain ⟨fd, F⟩ := c.def_ 65 (d := D__law_purchase) rfl
  exact ⟨_, fd, F, He.glo_ok X Y (c.fact 65 (f := .glo "_law_purchase") rfl), F.bindsN fun _ _ _ _ _ _ us hl => match us, hl with | [_, _, _, _], _ => rfl⟩
theorem F0__law_data (X : K.In h) (Y : h.Ns mainGlobals mg) (c : He.SaysD faL fnL K) : Def0 K mg "_law_data" s_law_data ["_law_script", "_law_place", "_law_most", "_law_linked"] := by
  obtain ⟨fd, F⟩ := c.def_ 66 (d := D__law_data) rfl
  exact ⟨_, fd, F, He.glo_ok X Y (c.fact 66 (f := .glo "_law_data") rfl), F.bindsN fun _ _ _ _ _ _ us hl => match us, hl with | [_, _, _, _], _ => rfl⟩
theorem F0__law_is_fraction (X : K.In h) (Y : h.Ns mainGlobals mg) (c : He.SaysD faL fnL K) : Def0 K mg "_law_is_fraction" s_law_is_fraction ["_law_x"] := by
  obtain ⟨fd, F⟩ := c.def_ 67 (d := D__law_is_fraction) rfl
  exact ⟨_, fd, F, He.glo_ok X Y (c.fact 67 (f := .glo "_law_is_fraction") rfl), F.bindsN fun _ _ _ _ _ _ us hl => match us, hl with | [_], _ => rfl⟩
theorem F0__law_are_fractions (X : K.In h) (Y : h.Ns mainGlobals mg) (c : He.SaysD faL fnL K) : Def0 K mg "_law_are_fractions" s_law_are_fractions ["_law_xs", "_law_many"] := by
  obtain ⟨fd, F⟩ := c.def_ 68 (d := D__law_are_fractions) rfl
  exact ⟨_, fd, F, He.glo_ok X Y (c.fact 68 (f := .glo "_law_are_fractions") rfl), F.bindsN fun _ _ _ _ _ _ us hl => match us, hl with | [_, _], _ => rfl⟩
theorem F0__law_drawn_basket (X : K.In h) (Y : h.Ns mainGlobals mg) (c : He.SaysD faL fnL K) : Def0 K mg "_law_drawn_basket" s_law_drawn_basket ["_law_row_here", "_law_goods"] := by
  obtain ⟨fd, F⟩ := c.def_ 69 (d := D__law_drawn_basket) rfl
  exact ⟨_, fd, F, He.glo_ok X Y (c.fact 69 (f := .glo "_law_drawn_basket") rfl), F.bindsN fun _ _ _ _ _ _ us hl => match us, hl with | [_, _], _ => rfl⟩
theorem F0__law_lifted (X : K.In h) (Y : h.Ns mainGlobals mg) (c : He.SaysD faL fnL K) : Def0 K mg "_law_lifted" s_law_lifted ["_law_buys", "_law_rows", "_law_basket"] := by
  obtain ⟨fd, F⟩ := c.def_ 70 (d := D__law_lifted) rfl
  exact ⟨_, fd, F, He.glo_ok X Y (c.fact 70 (f := .glo "_law_lifted") rfl), F.bindsN fun _ _ _ _ _ _ us hl => match us, hl with | [_, _, _], _ => rfl⟩
theorem F0__law_baskets (X : K.In h) (Y : h.Ns mainGlobals mg) (c : He.SaysD faL fnL K) : Def0 K mg "_law_baskets" s_law_baskets ["_law_script", "_law_goods", "_law_buys", "_law_rows"] := by
  obtain ⟨fd, F⟩ := c.def_ 71 (d := D__law_baskets) rfl
  exact ⟨_, fd, F, He.glo_ok X Y (c.fact 71 (f := .glo "_law_baskets") rfl), F.bindsN fun _ _ _ _ _ _ us hl => match us, hl with | [_, _, _, _], _ => rfl⟩
theorem F0__law_drawn_paper (X : K.In h) (Y : h.Ns mainGlobals mg) (c : He.SaysD faL fnL K) : Def0 K mg "_law_drawn_paper" s_law_drawn_paper ["_law_row_here", "_law_buys", "_law_rows", "_law_prices"] := by
  obtain ⟨fd, F⟩ := c.def_ 72 (d := D__law_drawn_paper) rfl
  exact ⟨_, fd, F, He.glo_ok X Y (c.fact 72 (f := .glo "_law_drawn_paper") rfl), F.bindsN fun _ _ _ _ _ _ us hl => match us, hl with | [_, _, _, _], _ => rfl⟩
theorem F0__law_given (X : K.In h) (Y : h.Ns mainGlobals mg) (c : He.SaysD faL fnL K) : Def0 K mg "_law_given" s_law_given ["_law_buys", "_law_paper"] := by
  obtain ⟨fd, F⟩ := c.def_ 73 (d := D__law_given) rfl
  exact ⟨_, fd, F, He.glo_ok X Y (c.fact 73 (f := .glo "_law_given") rfl), F.bindsN fun _ _ _ _ _ _ us hl => match us, hl with | [_, _], _ => rfl⟩
theorem F0__law_holds (X : K.In h) (Y : h.Ns mainGlobals mg) (c : He.SaysD faL fnL K) : Def0 K mg "_law_holds" s_law_holds ["_law_data_here", "_law_i", "_law_prices", "_law_money", "_law_paper", "_law_weak", "_law_strict"] := by
  obtain ⟨fd, F⟩ := c.def_ 74 (d := D__law_holds) rfl
  exact ⟨_, fd, F, He.glo_ok X Y (c.fact 74 (f := .glo "_law_holds") rfl), F.bindsN fun _ _ _ _ _ _ us hl => match us, hl with | [_, _, _, _, _, _, _], _ => rfl⟩
theorem F0__law_is_told (X : K.In h) (Y : h.Ns mainGlobals mg) (c : He.SaysD faL fnL K) : Def0 K mg "_law_is_told" s_law_is_told ["_law_found", "_law_goods", "_law_count"] := by
  obtain ⟨fd, F⟩ := c.def_ 75 (d := D__law_is_told) rfl
  exact ⟨_, fd, F, He.glo_ok X Y (c.fact 75 (f := .glo "_law_is_told") rfl), F.bindsN fun _ _ _ _ _ _ us hl => match us, hl with | [_, _, _], _ => rfl⟩
theorem F0__law_told_papers (X : K.In h) (Y : h.Ns mainGlobals mg) (c : He.SaysD faL fnL K) : Def0 K mg "_law_told_papers" s_law_told_papers ["_law_data_here", "_law_i", "_law_goods", "_law_buys", "_law_prices"] := by
  obtain ⟨fd, F⟩ := c.def_ 76 (d := D__law_told_papers) rfl
  exact ⟨_, fd, F, He.glo_ok X Y (c.fact 76 (f := .glo "_law_told_papers") rfl), F.bindsN fun _ _ _ _ _ _ us hl => match us, hl with | [_, _, _, _, _], _ => rfl⟩
theorem F0__law_asked (X : K.In h) (Y : h.Ns mainGlobals mg) (c : He.SaysD faL fnL K) : Def0 K mg "_law_asked" s_law_asked ["_law_script", "_law_place", "_law_goods", "_law_buys"] := by
  obtain ⟨fd, F⟩ := c.def_ 77 (d := D__law_asked) rfl
  exact ⟨_, fd, F, He.glo_ok X Y (c.fact 77 (f := .glo "_law_asked") rfl), F.bindsN fun _ _ _ _ _ _ us hl => match us, hl with | [_, _, _, _], _ => rfl⟩
theorem F0__law_made (X : K.In h) (Y : h.Ns mainGlobals mg) (c : He.SaysD faL fnL K) : Def0 K mg "_law_made" s_law_made ["_law_goods", "_law_buys", "_law_links"] := by
  obtain ⟨fd, F⟩ := c.def_ 78 (d := D__law_made) rfl
  exact ⟨_, fd, F, He.glo_ok X Y (c.fact 78 (f := .glo "_law_made") rfl), F.bindsN fun _ _ _ _ _ _ us hl => match us, hl with | [_, _, _], _ => rfl⟩
theorem F0_ray_of (X : K.In h) (Y : h.Ns mainGlobals mg) (c : He.SaysD faL fnL K) : Def0 K mg "ray_of" s_ray_of ["rows", "basis", "count", "c"] := by
  obtain ⟨fd, F⟩ := c.def_ 79 (d := D_ray_of) rfl
  exact ⟨_, fd, F, He.glo_ok X Y (c.fact 79 (f := .glo "ray_of") rfl), F.bindsN fun _ _ _ _ _ _ us hl => match us, hl with | [_, _, _, _], _ => rfl⟩
theorem factsL {f : Addr} (X : K.In h) (Y : h.Ns mainGlobals mg) (hfa : mg ("law" : Str) = some (.ref f)) (c : He.SaysD faL fnL K) (c2 : exB K = true) :
    ∃ fd : FuncData, (∀ (s : Shared) (v : Value), BindsTo s fd ⟨[v], []⟩ [("_law_script", v)]) ∧ ∀ base : Heap, FnOk P w K mg base CX0 12 f fd ["_law_script"] (sp_law K) := by
  obtain ⟨fd, F⟩ := c.def_ 81 (d := D_law) rfl
  have e := hfa.symm.trans (He.glo_ok X Y (c.fact 80 (f := .glo "law") rfl))
  cases e
  have b := FunD.bindsA (ps := ["_law_script"]) F fun _ _ _ _ _ _ us hl => match us, hl with | [_], _ => rfl
  refine ⟨fd, fun s v => b s [v] rfl, fun base => ?_⟩
  have G : Gb K mg := gbL X Y c c2
  obtain ⟨fdi, Fi⟩ := c.def_ 80 (d := D_init) rfl
  have oi := ok_init (P := P) (w := w) (base := base) G Fi
  have bi : Binds K fdi ["self", "goods", "buys", "links"] [] := Fi.bindsN fun _ _ _ _ _ _ us hl => match us, hl with | [_, _, _, _], _ => rfl
  have o_ratio : DefOk P w K mg base "ratio" 1 ["p", "q"] (sp_ratio K) := ok_ratio G (F0_ratio X Y c)
  have o_add : DefOk P w K mg base "add" 2 ["a", "b"] (sp_add K) := ok_add (F0_add X Y c) o_ratio
  have o_sub : DefOk P w K mg base "sub" 2 ["a", "b"] (sp_sub K) := ok_sub (F0_sub X Y c) o_ratio
  have o_mul : DefOk P w K mg base "mul" 2 ["a", "b"] (sp_mul K) := ok_mul (F0_mul X Y c) o_ratio
  have o_div : DefOk P w K mg base "div" 2 ["a", "b"] (sp_div K) := ok_div (F0_div X Y c) o_ratio
  have o_neg : DefOk P w K mg base "neg" 1 ["a"] (sp_neg K) := ok_neg (F0_neg X Y c)
  have o_less : DefOk P w K mg base "less" 1 ["a", "b"] (sp_less K) := ok_less (F0_less X Y c)
  have o_at_most : DefOk P w K mg base "at_most" 1 ["a", "b"] (sp_at_most K) := ok_at_most (F0_at_most X Y c)
  have o_dot : DefOk P w K mg base "dot" 3 ["a", "b"] (sp_dot K) := ok_dot G (F0_dot X Y c) o_add o_mul
  have o_scale : DefOk P w K mg base "scale" 3 ["k", "a"] (sp_scale K) := ok_scale (F0_scale X Y c) o_mul
  have o_add_scaled : DefOk P w K mg base "add_scaled" 3 ["a", "k", "b"] (sp_add_scaled K) := ok_add_scaled G (F0_add_scaled X Y c) o_add o_mul
  have o_cost : DefOk P w K mg base "cost" 4 ["prices", "amounts"] (sp_cost K) := ok_cost (F0_cost X Y c) o_dot
  have o_spent : DefOk P w K mg base "spent" 4 ["data", "i"] (sp_spent K) := ok_spent (F0_spent X Y c) o_dot
  have o_turned : DefOk P w K mg base "turned" 2 ["line"] (sp_turned K) := ok_turned G (F0_turned X Y c) o_less o_neg
  have o_slack_columns : DefOk P w K mg base "slack_columns" 1 ["count", "lines"] (sp_cols K .equal) := ok_slack G (F0_slack_columns X Y c)
  have o_helper_columns : DefOk P w K mg base "helper_columns" 1 ["column", "lines"] (sp_cols K .most) := ok_helper G (F0_helper_columns X Y c)
  have o_less_times : DefOk P w K mg base "less_times" 3 ["a", "times", "b"] (sp_less_times K) := ok_less_times G (F0_less_times X Y c) o_sub o_mul
  have o_first_rows : DefOk P w K mg base "first_rows" 2 ["lines", "slacks", "helpers", "total"] (sp_first_rows K) := ok_first_rows G (F0_first_rows X Y c) o_neg
  have o_reduced : DefOk P w K mg base "reduced" 4 ["costs", "rows", "basis"] (sp_reduced K) := ok_reduced G (F0_reduced X Y c) o_less_times
  have o_pivot : DefOk P w K mg base "pivot" 4 ["rows", "r", "c"] (sp_pivot K) := ok_pivot G (F0_pivot X Y c) o_div o_less_times
  have o_entering : DefOk P w K mg base "entering" 2 ["costs", "width"] (sp_entering K) := ok_entering G (F0_entering X Y c) o_less
  have o_leaving : DefOk P w K mg base "leaving" 3 ["rows", "basis", "c"] (sp_leaving K) := ok_leaving G (F0_leaving X Y c) o_less o_div
  have o_descend : DefOk P w K mg base "descend" 5 ["rows", "basis", "width"] (sp_descend K) := ok_descend G (F0_descend X Y c) o_entering o_leaving o_pivot
  have o_without_helpers : DefOk P w K mg base "without_helpers" 5 ["rows", "basis", "width"] (sp_without_helpers K) := ok_without_helpers G (F0_without_helpers X Y c) o_pivot
  have o_values_of : DefOk P w K mg base "values_of" 1 ["rows", "basis", "count"] (sp_values_of K) := ok_values_of G (F0_values_of X Y c)
  have o_prices_of : DefOk P w K mg base "prices_of" 3 ["costs", "lines", "slacks", "helpers", "own"] (sp_prices_of K) := ok_prices_of G (F0_prices_of X Y c) o_neg o_sub
  have o_first_basis : DefOk P w K mg base "first_basis" 1 ["slacks", "helpers"] (sp_first_basis K) := ok_first_basis G (F0_first_basis X Y c)
  have o_step : DefOk P w K mg base "step" 5 ["data", "i", "j"] (sp_step K) := ok_step (F0_step X Y c) o_cost o_spent o_at_most o_less
  have o_step_table : DefOk P w K mg base "step_table" 6 ["data"] (sp_step_table K) := ok_step_table G (F0_step_table X Y c) o_step
  have o_find_in : DefOk P w K mg base "find_in" 1 ["table", "i"] (sp_find_in P w) := ok_find_in G (F0_find_in X Y c)
  have o_leads : DefOk P w K mg base "leads" 7 ["data"] (sp_leads K) := ok_leads G (F0_leads X Y c) o_step_table o_find_in
  have o_keeps_row : DefOk P w K mg base "keeps_row" 5 ["data", "j", "strict", "basket"] (sp_keeps_row K) := ok_keeps_row (F0_keeps_row X Y c) o_cost o_spent o_at_most o_less
  have o_first_broken : DefOk P w K mg base "first_broken" 6 ["data", "rows", "basket"] (sp_first_broken K) := ok_first_broken G (F0_first_broken X Y c) o_keeps_row
  have o_next_class : DefOk P w K mg base "next_class" 1 ["table", "done"] sp_next_class := ok_next_class G (F0_next_class X Y c)
  have o_plane : DefOk P w K mg base "plane" 5 ["data", "taste", "i", "basket"] (sp_plane K) := ok_plane (F0_plane X Y c) o_cost o_spent o_add o_mul o_sub
  have o_class_number : DefOk P w K mg base "class_number" 6 ["data", "taste", "done", "members"] (sp_class_number K) := ok_class_number G (F0_class_number X Y c) o_plane o_less o_sub
  have o_member_weight : DefOk P w K mg base "member_weight" 5 ["data", "numbers", "done", "number", "j"] (sp_member_weight K) := ok_member_weight G (F0_member_weight X Y c) o_cost o_spent o_div o_sub o_less
  have o_make_taste : DefOk P w K mg base "make_taste" 7 ["data", "table"] (sp_make_taste K) := ok_make_taste G (F0_make_taste X Y c) o_next_class o_class_number o_member_weight
  have o_find_chain : DefOk P w K mg base "find_chain" 1 ["data", "i", "j"] sp_find_chain := ok_find_chain (F0_find_chain X Y c)
  have o_check : DefOk P w K mg base "check" 8 ["data"] (sp_check K) := ok_check G (F0_check X Y c) o_leads o_find_chain o_make_taste
  have o_row_lines : DefOk P w K mg base "row_lines" 5 ["data", "rows", "shared"] (sp_row_lines K) := ok_row_lines G (F0_row_lines X Y c) o_neg o_spent
  have o_row_prices : DefOk P w K mg base "row_prices" 1 ["rows", "prices"] (sp_row_prices K) := ok_row_prices G (F0_row_prices X Y c)
  have o_prices_allowed : DefOk P w K mg base "prices_allowed" 2 ["rows", "given_prices"] (sp_prices_allowed K) := ok_prices_allowed G (F0_prices_allowed X Y c) o_less
  have o_some_strict : DefOk P w K mg base "some_strict" 2 ["rows", "given_prices"] (sp_some_strict K) := ok_some_strict G (F0_some_strict X Y c) o_less
  have o_shared_lines : DefOk P w K mg base "shared_lines" 6 ["data", "prices", "money", "rows"] (sp_shared_lines K) := ok_shared_lines G (F0_shared_lines X Y c) o_row_lines
  have o_need_holds : DefOk P w K mg base "need_holds" 5 ["data", "prices", "money", "paper"] (sp_need_holds K) := ok_need_holds G (F0_need_holds X Y c) o_add o_mul o_spent o_add_scaled o_less o_at_most
  have o_judge_need : DefOk P w K mg base "judge_need" 8 ["data", "i", "prices", "money", "paper"] (sp_judge_need K) := ok_judge_need G (F0_judge_need X Y c) o_leads o_prices_allowed o_need_holds
  have o_judge_strict_need : DefOk P w K mg base "judge_strict_need" 9 ["data", "i", "prices", "money", "paper"] (sp_judge_strict_need K) := ok_judge_strict_need G (F0_judge_strict_need X Y c) o_leads o_some_strict o_judge_need
  have o__law_is_integer : DefOk P w K mg base "_law_is_integer" 1 ["_law_x"] sp_is_integer := ok_is_integer G (F0__law_is_integer X Y c)
  have o__law_row : DefOk P w K mg base "_law_row" 1 ["_law_script", "_law_place", "_law_many"] (sp_law_row K) := ok_law_row G (F0__law_row X Y c)
  have o__law_long : DefOk P w K mg base "_law_long" 1 ["_law_row_here", "_law_start", "_law_many"] sp_law_long := ok_law_long G (F0__law_long X Y c)
  have o__law_gcd : DefOk P w K mg base "_law_gcd" 1 ["_law_a", "_law_b"] sp_law_gcd := ok_law_gcd G (F0__law_gcd X Y c)
  have o__law_lowest : DefOk P w K mg base "_law_lowest" 2 ["_law_p", "_law_q"] (sp_law_lowest K) := ok_law_lowest G (F0__law_lowest X Y c) o__law_gcd
  have o__law_dot : DefOk P w K mg base "_law_dot" 1 ["_law_a", "_law_b"] (sp_law_dot K) := ok_law_dot G (F0__law_dot X Y c)
  have o__law_gap : DefOk P w K mg base "_law_gap" 2 ["_law_buys", "_law_i", "_law_basket"] (sp_law_gap K) := ok_law_gap G (F0__law_gap X Y c) o__law_dot
  have o__law_step : DefOk P w K mg base "_law_step" 3 ["_law_buys", "_law_links", "_law_i", "_law_j"] (sp_law_step K) := ok_law_step G (F0__law_step X Y c) o__law_gap
  have o__law_steps : DefOk P w K mg base "_law_steps" 4 ["_law_buys", "_law_links"] (sp_law_steps K) := ok_law_steps G (F0__law_steps X Y c) o__law_step
  have o__law_add : DefOk P w K mg base "_law_add" 1 ["_law_a", "_law_b"] (sp_law_add K) := ok_law_add (F0__law_add X Y c)
  have o__law_mul : DefOk P w K mg base "_law_mul" 1 ["_law_a", "_law_b"] (sp_law_mul K) := ok_law_mul (F0__law_mul X Y c)
  have o__law_over : DefOk P w K mg base "_law_over" 1 ["_law_a", "_law_b"] (sp_law_over K) := ok_law_over (F0__law_over X Y c)
  have o__law_scaled : DefOk P w K mg base "_law_scaled" 3 ["_law_basket", "_law_p", "_law_q"] (sp_law_scaled K) := ok_law_scaled (F0__law_scaled X Y c) o__law_lowest
  have o__law_keeps : DefOk P w K mg base "_law_keeps" 3 ["_law_buys", "_law_rows", "_law_basket", "_law_weakly"] (sp_law_keeps K) := ok_law_keeps G (F0__law_keeps X Y c) o__law_gap
  have o__law_closure : DefOk P w K mg base "_law_closure" 1 ["_law_steps_here"] sp_law_closure := ok_law_closure G (F0__law_closure X Y c)
  have o__law_purchase : DefOk P w K mg base "_law_purchase" 3 ["_law_row_here", "_law_shape", "_law_goods", "_law_kind"] (sp_law_purchase K) := ok_law_purchase G (F0__law_purchase X Y c) o__law_lowest o__law_long
  have o__law_data : DefOk P w K mg base "_law_data" 4 ["_law_script", "_law_place", "_law_most", "_law_linked"] (sp_law_data K) := ok_law_data G (F0__law_data X Y c) o__law_row o__law_purchase
  have o__law_is_fraction : DefOk P w K mg base "_law_is_fraction" 2 ["_law_x"] (sp_is_fraction K) := ok_is_fraction G (F0__law_is_fraction X Y c) o__law_is_integer o__law_gcd
  have o__law_are_fractions : DefOk P w K mg base "_law_are_fractions" 3 ["_law_xs", "_law_many"] (sp_are_fractions K) := ok_are_fractions G (F0__law_are_fractions X Y c) o__law_is_fraction
  have o__law_drawn_basket : DefOk P w K mg base "_law_drawn_basket" 3 ["_law_row_here", "_law_goods"] (sp_drawn_basket K) := ok_drawn_basket G (F0__law_drawn_basket X Y c) o__law_lowest
  have o__law_lifted : DefOk P w K mg base "_law_lifted" 4 ["_law_buys", "_law_rows", "_law_basket"] (sp_law_lifted K) := ok_law_lifted G (F0__law_lifted X Y c) o__law_dot o__law_over o__law_scaled
  have o__law_baskets : DefOk P w K mg base "_law_baskets" 5 ["_law_script", "_law_goods", "_law_buys", "_law_rows"] (sp_law_baskets K) := ok_law_baskets G (F0__law_baskets X Y c) o__law_row o__law_drawn_basket o__law_lifted o__law_scaled
  have o__law_drawn_paper : DefOk P w K mg base "_law_drawn_paper" 4 ["_law_row_here", "_law_buys", "_law_rows", "_law_prices"] (sp_drawn_paper K) := ok_drawn_paper G (F0__law_drawn_paper X Y c) o__law_lowest o__law_add o__law_mul o__law_over o__law_scaled
  have o__law_given : DefOk P w K mg base "_law_given" 3 ["_law_buys", "_law_paper"] (sp_law_given K) := ok_law_given G (F0__law_given X Y c) o__law_lowest o__law_add o__law_mul o__law_dot
  have o__law_holds : DefOk P w K mg base "_law_holds" 10 ["_law_data_here", "_law_i", "_law_prices", "_law_money", "_law_paper", "_law_weak", "_law_strict"] (sp_law_holds K) := ok_law_holds G (F0__law_holds X Y c) o_judge_need o_judge_strict_need o__law_over o__law_dot
  have o__law_is_told : DefOk P w K mg base "_law_is_told" 4 ["_law_found", "_law_goods", "_law_count"] (sp_is_told K) := ok_is_told G (F0__law_is_told X Y c) o__law_is_fraction o__law_are_fractions
  have o__law_asked : DefOk P w K mg base "_law_asked" 3 ["_law_script", "_law_place", "_law_goods", "_law_buys"] (sp_law_asked K) := ok_law_asked G (F0__law_asked X Y c) o__law_row o__law_lowest o__law_dot
  have o__law_made : DefOk P w K mg base "_law_made" 3 ["_law_goods", "_law_buys", "_law_links"] (sp_law_made K) := ok_law_made G (F0__law_made X Y c) (He.mkr_ok (c.fact 94 (f := .mkr "Data") rfl)) (He.glo_ok X Y (c.fact 81 (f := .glo "Data") rfl)) bi (He.cls_ok (c.fact 93 (f := .cls "Data") rfl)) (He.noat_ok (c.fact 95 (f := .noat "Data" "goods") rfl)) (He.noat_ok (c.fact 96 (f := .noat "Data" "buys") rfl)) (He.noat_ok (c.fact 97 (f := .noat "Data" "links") rfl)) oi
  have o_ray_of : DefOk P w K mg base "ray_of" 5 ["rows", "basis", "count", "c"] sp_ray_of := ok_ray_of (F0_ray_of X Y c)
  have o_solve : DefOk P w K mg base "solve" 6 ["costs", "lines"] (sp_solve K) := ok_solve G (F0_solve X Y c) o_turned o_slack_columns o_helper_columns o_first_rows o_first_basis o_reduced o_descend o_less o_without_helpers o_values_of o_dot o_prices_of o_ray_of
  have o_least_need : DefOk P w K mg base "least_need" 9 ["data", "i", "prices"] (sp_least_need K) := ok_least_need G (F0_least_need X Y c) o_check o_leads o_solve o_row_lines o_first_broken o_row_prices o_neg o_shared_lines o_less o_scale o_div
  have o__law_told_papers : DefOk P w K mg base "_law_told_papers" 10 ["_law_data_here", "_law_i", "_law_goods", "_law_buys", "_law_prices"] (sp_told_papers K) := ok_told_papers G (F0__law_told_papers X Y c) o_least_need o__law_is_told o_judge_need o_judge_strict_need o__law_add o__law_lowest
  exact ok_law G F o__law_data o__law_asked o__law_made o__law_closure o__law_steps o__law_row o__law_told_papers o__law_drawn_paper o__law_given o__law_baskets o__law_keeps o__law_holds
theorem spL {H : Hp} {a : Addr} {ns : List Int} (hS : SqL K H a (ns.map V.int)) : sp_law K [.ref a] H (fun v _ => v = .bl true) fun _ _ _ => False := by
  have e : hid H [] = H := by
    funext b
    unfold hid
    exact if_neg (List.not_mem_nil)
  exact ⟨ns, [], fun _ z => absurd z (List.not_mem_nil), trivial, by rw [e]; exact ⟨.ref a, [], rfl, ⟨a, rfl, hS⟩, rfl⟩, fun v H2 _ r => r⟩
end
end BB
open PySem PySem.W PyProof.Rows
set_option maxHeartbeats 0
theorem PySem.Challenge.cw_buybook_k59_whole_need_papers_bound_mone_holds : PySem.Challenge.rw_buybook_k59_whole_need_papers_bound_mone.Holds := by
  w_on; o_law; k_head; (case hw => w_witness2)
  k_fill
  refine L2.walk_ofK (l := PySem.Challenge.rw_buybook_k59_whole_need_papers_bound_mone) (n := 63) (k := 12) (x := "_law_script") (CX := L2.CX0) (sp := BB.sp_law) rfl (by decide) rfl ⟨rfl, by decide, by decide⟩ (fun w h Y => PySem.W.kIn_of Y) ?F ?G (fun _ _ _ _ h => h)
  case F =>
    intro w mg fa h KX Y hmg
    have c := BB.useL KX (by kernel_rfl)
    obtain ⟨fd, hb, hF⟩ := BB.factsL KX Y hmg c.1 c.2
    exact ⟨fd, hb, fun base _ _ => hF base⟩
  case G => exact fun K H a ns _ _ hS => BB.spL hS
