import PyProof.Rows.All
import Wide.All
import OpenK.AllK
import Wide.FinOn
import HandS.ForMost
import HandS.More
import HandS.Codes
import HandS.Wide
import HandS.WideBits
import HandS.IsInst
import HandS.RevRange
import HandS.TupAny
import HandS.TupMul
import HandS.TupLe
import HandS.Style
import HandS.Defaults
import HandS.SortRule
import HandS.Walk
import HandS.Evl
import PySem.Challenge.RW_hookmats_k48_whole_half_mats_and_their_p
import KE.GoesMore
import HandS.NamedTupSort
import KE.KEqDict
import KE.KEqSeq
set_option Elab.async false
set_option linter.all false
set_option maxRecDepth 100000
set_option maxHeartbeats 4000000
namespace Ma
/-! ### plain lists -/
theorem srt_ext : ∀ {l1 l2 : List Nat}, l1.Pairwise (· < ·) → l2.Pairwise (· < ·) → (∀ x, x ∈ l1 ↔ x ∈ l2) → l1 = l2
  | [], [], _, _, _ => rfl
  | [], y :: l2, _, _, h => absurd ((h y).mpr (List.mem_cons_self ..)) (by simp)
  | x :: l1, [], _, _, h => absurd ((h x).mp (List.mem_cons_self ..)) (by simp)
  | x :: l1, y :: l2, h1, h2, h => by
    obtain ⟨a1, b1⟩ := List.pairwise_cons.mp h1
    obtain ⟨a2, b2⟩ := List.pairwise_cons.mp h2
    have e : x = y := by
      have m1 := (h x).mp (List.mem_cons_self ..)
      have m2 := (h y).mpr (List.mem_cons_self ..)
      rcases List.mem_cons.mp m1 with e | e
      · exact e
      · rcases List.mem_cons.mp m2 with e' | e'
        · exact e'.symm
        · have := a2 x e
          have := a1 y e'
          omega
    subst e
    rw [srt_ext b1 b2 fun z => ?_]
    constructor
    · intro hz
      rcases List.mem_cons.mp ((h z).mp (List.mem_cons_of_mem _ hz)) with e | e
      · have := a1 z hz
        omega
      · exact e
    · intro hz
      rcases List.mem_cons.mp ((h z).mpr (List.mem_cons_of_mem _ hz)) with e | e
      · have := a2 z hz
        omega
      · exact e
theorem srt_range (p : Nat) : (List.range p).Pairwise (· < ·) := List.pairwise_lt_range
theorem php : ∀ (n m : Nat) (f : Nat → Nat), (∀ i, i < m → f i < n) → n < m → ∃ i j, i < j ∧ j < m ∧ f i = f j
  | 0, m, f, h, hm => absurd (h 0 (by omega)) (by omega)
  | n + 1, m, f, h, hm => by
    by_cases e : ∃ i, i < m - 1 ∧ f i = f (m - 1)
    · obtain ⟨i, h1, h2⟩ := e
      exact ⟨i, m - 1, h1, by omega, h2⟩
    · have ne : ∀ i, i < m - 1 → f i ≠ f (m - 1) := fun i hi q => e ⟨i, hi, q⟩
      have hv := h (m - 1) (by omega)
      obtain ⟨i, j, h1, h2, h3⟩ := php n (m - 1) (fun i => if f (m - 1) < f i then f i - 1 else f i) (fun i hi => by
        have := h i (by omega)
        have := ne i hi
        show (if f (m - 1) < f i then f i - 1 else f i) < n
        split <;> omega) (by omega)
      refine ⟨i, j, h1, by omega, ?_⟩
      have e1 := ne i (by omega)
      have e2 := ne j h2
      have h3' : (if f (m - 1) < f i then f i - 1 else f i) = (if f (m - 1) < f j then f j - 1 else f j) := h3
      split at h3' <;> split at h3' <;> omega
/-- an injective map of [0, k) to itself meets all -/
theorem onto (k : Nat) (f : Nat → Nat) (h : ∀ i, i < k → f i < k) (inj : ∀ i j, i < k → j < k → f i = f j → i = j) (y : Nat) (hy : y < k) : ∃ i, i < k ∧ f i = y := by
  apply Classical.byContradiction
  intro no
  have ne : ∀ i, i < k → f i ≠ y := fun i hi q => no ⟨i, hi, q⟩
  obtain ⟨i, j, h1, h2, h3⟩ := php k (k + 1) (fun i => if i < k then f i else y) (fun i hi => by
    show (if i < k then f i else y) < k
    split
    · exact h i (by assumption)
    · exact hy) (by omega)
  have h3' : (if i < k then f i else y) = (if j < k then f j else y) := h3
  rw [if_pos (by omega)] at h3'
  split at h3'
  · have := inj i j (by omega) (by assumption) h3'
    omega
  · exact ne i (by omega) h3'

/-! ### mats -/
abbrev g (l : List Nat) (i : Nat) : Nat := l.getD i 0
/-- the peg at a place round about; its own inverse -/
def rp (n m i : Nat) : Nat := if i < n then i else 2 * n + m - 1 - i
theorem rp_lt {n m i : Nat} (h : i < n + m) : rp n m i < n + m := by unfold rp; split <;> omega
theorem rp_rp {n m i : Nat} (h : i < n + m) : rp n m (rp n m i) = i := by
  by_cases q : i < n
  · have e : rp n m i = i := if_pos q
    rw [e, e]
  · have e : rp n m i = 2 * n + m - 1 - i := if_neg q
    rw [e]
    have e2 : rp n m (2 * n + m - 1 - i) = 2 * n + m - 1 - (2 * n + m - 1 - i) := if_neg (by omega)
    rw [e2]
    omega
theorem rp_inj {n m i j : Nat} (hi : i < n + m) (hj : j < n + m) (h : rp n m i = rp n m j) : i = j := by
  rw [← rp_rp hi, h, rp_rp hj]
structure Mat (n m : Nat) (a : List Nat) : Prop where
  len : a.length = n + m
  some_ : 0 < n + m
  lt : ∀ i, i < n + m → g a i < n + m
  ne : ∀ i, i < n + m → g a i ≠ i
  inv : ∀ i, i < n + m → g a (g a i) = i
  nc : ∀ i j, i < n + m → j < n + m → rp n m i < rp n m j → rp n m j < rp n m (g a i) → rp n m (g a i) < rp n m (g a j) → False
/-- the mate of a place, as a place -/
def mu (n m : Nat) (a : List Nat) (p : Nat) : Nat := rp n m (g a (rp n m p))
section
variable {n m : Nat} {a : List Nat}
theorem mu_lt (M : Mat n m a) {p : Nat} (h : p < n + m) : mu n m a p < n + m := rp_lt (M.lt _ (rp_lt h))
theorem mu_mu (M : Mat n m a) {p : Nat} (h : p < n + m) : mu n m a (mu n m a p) = p := by
  unfold mu
  rw [rp_rp (M.lt _ (rp_lt h)), M.inv _ (rp_lt h), rp_rp h]
theorem mu_ne (M : Mat n m a) {p : Nat} (h : p < n + m) : mu n m a p ≠ p := fun e => by
  unfold mu at e
  have e2 : rp n m (rp n m (g a (rp n m p))) = rp n m p := congrArg (rp n m) e
  rw [rp_rp (M.lt _ (rp_lt h))] at e2
  exact M.ne _ (rp_lt h) e2
theorem mu_nc (M : Mat n m a) {p q : Nat} (hp : p < n + m) (hq : q < n + m) (h1 : p < q) (h2 : q < mu n m a p) (h3 : mu n m a p < mu n m a q) : False := by
  unfold mu at h2 h3
  refine M.nc (rp n m p) (rp n m q) (rp_lt hp) (rp_lt hq) ?_ ?_ h3
  · rw [rp_rp hp, rp_rp hq]; exact h1
  · rw [rp_rp hq]; exact h2
/-- the open places ahead of p -/
def op (n m : Nat) (a : List Nat) (p : Nat) : List Nat := (List.range p).filter fun q => decide (p ≤ mu n m a q)
theorem mem_op {p q : Nat} : q ∈ op n m a p ↔ q < p ∧ p ≤ mu n m a q := by
  unfold op
  rw [List.mem_filter, List.mem_range, decide_eq_true_eq]
theorem srt_op (p : Nat) : (op n m a p).Pairwise (· < ·) := (srt_range p).filter _
theorem op_pop (M : Mat n m a) {p : Nat} (hp : p < n + m) (h : mu n m a p < p) : op n m a p = op n m a (p + 1) ++ [mu n m a p] := by
  refine srt_ext (srt_op p) ?_ fun q => ?_
  · refine List.pairwise_append.mpr ⟨srt_op _, List.pairwise_singleton _ _, fun q hq t ht => ?_⟩
    obtain ⟨h1, h2⟩ := mem_op.mp hq
    rw [List.mem_singleton.mp ht]
    apply Classical.byContradiction
    intro no
    have hqp : q ≠ p := fun e => by subst e; omega
    have h3 : q ≠ mu n m a p := fun e => by
      rw [e, mu_mu M hp] at h2
      omega
    exact mu_nc M (p := mu n m a p) (q := q) (mu_lt M hp) (by omega) (by omega) (by rw [mu_mu M hp]; omega) (by rw [mu_mu M hp]; omega)
  · rw [List.mem_append, mem_op, mem_op, List.mem_singleton]
    constructor
    · rintro ⟨h1, h2⟩
      by_cases e : q = mu n m a p
      · exact .inr e
      · refine .inl ⟨by omega, ?_⟩
        have : mu n m a q ≠ p := fun z => e (by rw [← z, mu_mu M (by omega)])
        omega
    · rintro (⟨h1, h2⟩ | e)
      · have hqp : q ≠ p := fun e => by subst e; omega
        exact ⟨by omega, by omega⟩
      · subst e
        exact ⟨h, by rw [mu_mu M hp]; exact Nat.le_refl _⟩
theorem op_push (M : Mat n m a) {p : Nat} (hp : p < n + m) (h : p ≤ mu n m a p) : op n m a (p + 1) = op n m a p ++ [p] := by
  have hne := mu_ne M hp
  refine srt_ext (srt_op _) ?_ fun q => ?_
  · refine List.pairwise_append.mpr ⟨srt_op _, List.pairwise_singleton _ _, fun q hq t ht => ?_⟩
    rw [List.mem_singleton.mp ht]
    exact (mem_op.mp hq).1
  · rw [List.mem_append, mem_op, mem_op, List.mem_singleton]
    constructor
    · rintro ⟨h1, h2⟩
      by_cases e : q = p
      · exact .inr e
      · exact .inl ⟨by omega, by omega⟩
    · rintro (⟨h1, h2⟩ | e)
      · refine ⟨by omega, ?_⟩
        have : mu n m a q ≠ p := fun z => by
          have := mu_mu M (p := q) (by omega)
          rw [z] at this
          omega
        omega
      · subst e
        exact ⟨by omega, by omega⟩
theorem op_zero : op n m a 0 = [] := rfl
theorem op_end (M : Mat n m a) : op n m a (n + m) = [] := by
  apply List.eq_nil_iff_forall_not_mem.mpr
  intro q hq
  obtain ⟨h1, h2⟩ := mem_op.mp hq
  have := mu_lt M h1
  omega
/-- what waits ahead of the place p: pegs -/
def wt (n m : Nat) (a : List Nat) (p : Nat) : List Nat := (op n m a p).map (rp n m)
theorem wt_pop (M : Mat n m a) {p : Nat} (hp : p < n + m) (h : mu n m a p < p) : wt n m a p = wt n m a (p + 1) ++ [g a (rp n m p)] := by
  unfold wt
  rw [op_pop M hp h, List.map_append, List.map_singleton]
  unfold mu
  rw [rp_rp (M.lt _ (rp_lt hp))]
theorem wt_push (M : Mat n m a) {p : Nat} (hp : p < n + m) (h : p ≤ mu n m a p) : wt n m a (p + 1) = wt n m a p ++ [rp n m p] := by
  unfold wt
  rw [op_push M hp h, List.map_append, List.map_singleton]
theorem wt_last (M : Mat n m a) {p : Nat} (hp : p < n + m) (h : p ≤ mu n m a p) {ys : List Nat} {y : Nat} (e : wt n m a p = ys ++ [y]) : y ≠ g a (rp n m p) := by
  have hy : y ∈ wt n m a p := by rw [e]; simp
  unfold wt at hy
  obtain ⟨q, hq, rfl⟩ := List.mem_map.mp hy
  obtain ⟨h1, h2⟩ := mem_op.mp hq
  intro z
  have : mu n m a p = q := by
    unfold mu
    rw [← z, rp_rp (by omega)]
  omega
theorem wt_zero : wt n m a 0 = [] := rfl
theorem wt_end (M : Mat n m a) : wt n m a (n + m) = [] := by unfold wt; rw [op_end M]; rfl
theorem op_len (M : Mat n m a) : ∀ p, p ≤ n + m → (op n m a p).length % 2 = p % 2
  | 0, _ => rfl
  | p + 1, h => by
    have ih := op_len M p (by omega)
    by_cases q : mu n m a p < p
    · have e := congrArg List.length (op_pop M (by omega) q)
      rw [List.length_append, List.length_singleton] at e
      omega
    · rw [op_push M (by omega) (by omega), List.length_append, List.length_singleton]
      omega
theorem even (M : Mat n m a) : (n + m) % 2 = 0 := by
  have := op_len M (n + m) (Nat.le_refl _)
  rw [op_end M] at this
  simpa using this.symm
end
end Ma
namespace Ma
/-- an involution of [0, L) without a fixed point -/
structure Inv (L : Nat) (c : Nat → Nat) : Prop where
  lt : ∀ i, i < L → c i < L
  ne : ∀ i, i < L → c i ≠ i
  inv : ∀ i, i < L → c (c i) = i
theorem Mat.inv_ {n m : Nat} {a : List Nat} (M : Mat n m a) : Inv (n + m) (g a) := ⟨M.lt, M.ne, M.inv⟩
theorem Inv.inj {L : Nat} {c : Nat → Nat} (I : Inv L c) {x y : Nat} (hx : x < L) (hy : y < L) (h : c x = c y) : x = y := by rw [← I.inv x hx, h, I.inv y hy]
/-- c, d, c, .. in turn, from s -/
def orb (c d : Nat → Nat) (s : Nat) : Nat → Nat
  | 0 => s
  | i + 1 => if i % 2 = 0 then c (orb c d s i) else d (orb c d s i)
def EndOf (c d : Nat → Nat) (n s f : Nat) : Prop := 1 ≤ f ∧ n ≤ orb c d s f ∧ ∀ i, 1 ≤ i → i < f → orb c d s i < n
theorem EndOf.uniq {c d : Nat → Nat} {n s f f' : Nat} (h : EndOf c d n s f) (h' : EndOf c d n s f') : f = f' := by
  obtain ⟨a1, a2, a3⟩ := h
  obtain ⟨b1, b2, b3⟩ := h'
  rcases Nat.lt_trichotomy f f' with q | q | q
  · have := b3 f a1 q; omega
  · exact q
  · have := a3 f' b1 q; omega
section
variable {c d : Nat → Nat} {n L1 L2 s : Nat}
theorem orb_back (C : Inv L1 c) (D : Inv L2 d) {i j : Nat} (hi : orb c d s i < L1 ∧ orb c d s i < L2 ∨ i = 0 ∧ s < L1) (hj : orb c d s j < L1 ∧ orb c d s j < L2 ∨ j = 0 ∧ s < L1) (hp : i % 2 = j % 2) (e : orb c d s (i + 1) = orb c d s (j + 1)) :
    orb c d s i = orb c d s j := by
  have e' : (if i % 2 = 0 then c (orb c d s i) else d (orb c d s i)) = (if j % 2 = 0 then c (orb c d s j) else d (orb c d s j)) := e
  rw [← hp] at e'
  by_cases q : i % 2 = 0
  · rw [if_pos q, if_pos q] at e'
    refine C.inj ?_ ?_ e'
    · rcases hi with h | ⟨h1, h2⟩
      · exact h.1
      · subst h1; exact h2
    · rcases hj with h | ⟨h1, h2⟩
      · exact h.1
      · subst h1; exact h2
  · rw [if_neg q, if_neg q] at e'
    refine D.inj ?_ ?_ e'
    · rcases hi with h | ⟨h1, h2⟩
      · exact h.2
      · subst h1; simp at q
    · rcases hj with h | ⟨h1, h2⟩
      · exact h.2
      · subst h1; omega
theorem orb_down (C : Inv L1 c) (D : Inv L2 d) (h1 : n ≤ L1) (h2 : n ≤ L2) (hs : s < L1) {N : Nat} (hm : ∀ i, 1 ≤ i → i ≤ N → orb c d s i < n) : ∀ i k, k % 2 = 0 → i + k ≤ N → orb c d s i = orb c d s (i + k) → orb c d s 0 = orb c d s k
  | 0, k, _, _, e => by rwa [Nat.zero_add] at e
  | i + 1, k, hk, hN, e => by
    have e2 : orb c d s (i + 1) = orb c d s (i + k + 1) := by rw [e]; congr 1; omega
    refine orb_down C D h1 h2 hs hm i k hk (by omega) (orb_back C D ?_ ?_ (by omega) e2)
    · by_cases z : i = 0
      · exact .inr ⟨z, hs⟩
      · have := hm i (by omega) (by omega)
        exact .inl ⟨by omega, by omega⟩
    · by_cases z : i + k = 0
      · exact .inr ⟨z, hs⟩
      · have := hm (i + k) (by omega) (by omega)
        exact .inl ⟨by omega, by omega⟩
theorem end_ex (C : Inv L1 c) (D : Inv L2 d) (h1 : n ≤ L1) (h2 : n ≤ L2) (hs : s < L1) (hn : n ≤ s) : ∃ f, f ≤ 2 * n + 1 ∧ EndOf c d n s f := by
  apply Classical.byContradiction
  intro no
  have hm : ∀ k, ∀ i, 1 ≤ i → i ≤ k → k ≤ 2 * n + 1 → orb c d s i < n := by
    intro k
    induction k with
    | zero => intro i a b _; omega
    | succ k ih =>
      intro i a b hk
      by_cases e : i ≤ k
      · exact ih i a e (by omega)
      · have : i = k + 1 := by omega
        subst this
        apply Classical.byContradiction
        intro q
        exact no ⟨k + 1, hk, by omega, by omega, fun j j1 j2 => ih j j1 (by omega) (by omega)⟩
  have hm' := fun i a b => hm (2 * n + 1) i a b (Nat.le_refl _)
  obtain ⟨i, j, a1, a2, a3⟩ := php (2 * n) (2 * n + 1) (fun i => 2 * orb c d s (i + 1) + (i + 1) % 2) (fun i hi => by
    have := hm' (i + 1) (by omega) (by omega)
    show 2 * orb c d s (i + 1) + (i + 1) % 2 < 2 * n
    omega) (by omega)
  have a4 : 2 * orb c d s (i + 1) + (i + 1) % 2 = 2 * orb c d s (j + 1) + (j + 1) % 2 := a3
  have e1 : orb c d s (i + 1) = orb c d s (i + 1 + (j - i)) := by
    have : i + 1 + (j - i) = j + 1 := by omega
    rw [this]
    omega
  have e2 := orb_down C D h1 h2 hs hm' (i + 1) (j - i) (by omega) (by omega) e1
  have := hm' (j - i) (by omega) (by omega)
  have e3 : orb c d s 0 = s := rfl
  omega
/-- the first turn behind 0 at which the walk is out -/
def fe (c d : Nat → Nat) (n s : Nat) : Nat := ((List.range (2 * n + 1)).find? fun i => decide (n ≤ orb c d s (i + 1))).getD 0 + 1
theorem fe_ok (C : Inv L1 c) (D : Inv L2 d) (h1 : n ≤ L1) (h2 : n ≤ L2) (hs : s < L1) (hn : n ≤ s) : fe c d n s ≤ 2 * n + 1 ∧ EndOf c d n s (fe c d n s) := by
  obtain ⟨f, hf, e1, e2, e3⟩ := end_ex C D h1 h2 hs hn
  have hfind : (List.range (2 * n + 1)).find? (fun i => decide (n ≤ orb c d s (i + 1))) = some (f - 1) := by
    rw [List.find?_range_eq_some]
    refine ⟨?_, ?_, ?_⟩
    · have : f - 1 + 1 = f := by omega
      rw [this]
      exact decide_eq_true e2
    · exact List.mem_range.mpr (by omega)
    · intro j hj
      have := e3 (j + 1) (by omega) (by omega)
      simp
      omega
  have : fe c d n s = f := by
    unfold fe
    rw [hfind]
    show f - 1 + 1 = f
    omega
  rw [this]
  exact ⟨hf, e1, e2, e3⟩
/-- the way back of a walk of an even number of turns -/
theorem orb_rev (C : Inv L1 c) (D : Inv L2 d) (h1 : n ≤ L1) (h2 : n ≤ L2) (hs : s < L1) {f : Nat} (E : EndOf c d n s f) (hf : f % 2 = 0) : ∀ i, i ≤ f → orb d c (orb c d s f) i = orb c d s (f - i)
  | 0, _ => rfl
  | i + 1, h => by
    have ih := orb_rev C D h1 h2 hs E hf i (by omega)
    show (if i % 2 = 0 then d (orb d c (orb c d s f) i) else c (orb d c (orb c d s f) i)) = _
    rw [ih]
    obtain ⟨k, hk⟩ : ∃ k, f - i = k + 1 := ⟨f - i - 1, by omega⟩
    have hk2 : f - (i + 1) = k := by omega
    rw [hk, hk2]
    have hk3 : orb c d s (k + 1) = if k % 2 = 0 then c (orb c d s k) else d (orb c d s k) := rfl
    rw [hk3]
    have hr : k = 0 ∨ orb c d s k < n := by
      by_cases z : k = 0
      · exact .inl z
      · exact .inr (E.2.2 k (by omega) (by omega))
    by_cases q : k % 2 = 0
    · rw [if_pos q, if_neg (by omega)]
      refine C.inv _ ?_
      rcases hr with z | z
      · subst z; exact hs
      · omega
    · rw [if_neg q, if_pos (by omega)]
      refine D.inv _ ?_
      rcases hr with z | z
      · subst z; simp at q
      · omega
theorem end_rev (C : Inv L1 c) (D : Inv L2 d) (h1 : n ≤ L1) (h2 : n ≤ L2) (hs : s < L1) (hn : n ≤ s) {f : Nat} (E : EndOf c d n s f) (hf : f % 2 = 0) : EndOf d c n (orb c d s f) f ∧ orb d c (orb c d s f) f = s := by
  have r := orb_rev C D h1 h2 hs E hf
  have e0 : orb d c (orb c d s f) f = s := by
    rw [r f (Nat.le_refl _), Nat.sub_self]
    rfl
  refine ⟨⟨E.1, by rw [e0]; exact hn, fun i a b => ?_⟩, e0⟩
  rw [r i (by omega)]
  exact E.2.2 (f - i) (by omega) (by omega)
end
/-! ### what hangs together -/
inductive Con (a b : Nat → Nat) (n x : Nat) : Nat → Prop
  | self : Con a b n x x
  | sa {y : Nat} : Con a b n x y → a y < n → Con a b n x (a y)
  | sb {y : Nat} : Con a b n x y → b y < n → Con a b n x (b y)
section
variable {a b : Nat → Nat} {n x y z : Nat}
theorem Con.swap (h : Con a b n x y) : Con b a n x y := by
  induction h with
  | self => exact .self
  | sa _ q ih => exact .sb ih q
  | sb _ q ih => exact .sa ih q
theorem Con.lt (h : Con a b n x y) (hx : x < n) : y < n := by
  cases h with
  | self => exact hx
  | sa _ q => exact q
  | sb _ q => exact q
theorem Con.trans (h : Con a b n x y) (h' : Con a b n y z) : Con a b n x z := by
  induction h' with
  | self => exact h
  | sa _ q ih => exact .sa ih q
  | sb _ q ih => exact .sb ih q
theorem Con.symm {L1 L2 : Nat} (A : Inv L1 a) (B : Inv L2 b) (h1 : n ≤ L1) (h2 : n ≤ L2) (hx : x < n) (h : Con a b n x y) : Con a b n y x := by
  induction h with
  | self => exact .self
  | @sa y h q ih =>
    have hy := h.lt hx
    have e := A.inv y (by omega)
    have : Con a b n (a y) y := by
      have := Con.sa (a := a) (b := b) (n := n) (.self (x := a y)) (by rw [e]; exact hy)
      rwa [e] at this
    exact this.trans ih
  | @sb y h q ih =>
    have hy := h.lt hx
    have e := B.inv y (by omega)
    have : Con a b n (b y) y := by
      have := Con.sb (a := a) (b := b) (n := n) (.self (x := b y)) (by rw [e]; exact hy)
      rwa [e] at this
    exact this.trans ih
/-- on a string that comes out -/
def S0 (a b : Nat → Nat) (n x : Nat) : Prop := ∃ y, Con a b n x y ∧ (n ≤ a y ∨ n ≤ b y)
theorem S0.swap (h : S0 a b n x) : S0 b a n x := let ⟨y, h1, h2⟩ := h; ⟨y, h1.swap, h2.symm⟩
theorem S0.iff_swap : S0 a b n x ↔ S0 b a n x := ⟨S0.swap, S0.swap⟩
/-- marked ahead of the start s -/
def Sat (a b : Nat → Nat) (n s x : Nat) : Prop := S0 a b n x ∨ ∃ t, t < s ∧ ¬ S0 a b n t ∧ Con a b n t x
theorem Sat.iff_swap {s : Nat} : Sat a b n s x ↔ Sat b a n s x := by
  unfold Sat
  constructor
  · rintro (h | ⟨t, h1, h2, h3⟩)
    · exact .inl h.swap
    · exact .inr ⟨t, h1, fun z => h2 z.swap, h3.swap⟩
  · rintro (h | ⟨t, h1, h2, h3⟩)
    · exact .inl h.swap
    · exact .inr ⟨t, h1, fun z => h2 z.swap, h3.swap⟩
/-- the rings that come up to the start s -/
noncomputable def rgs (a b : Nat → Nat) (n : Nat) : Nat → Nat
  | 0 => 0
  | s + 1 => rgs a b n s + @ite Nat (Sat a b n s s) (Classical.propDecidable _) 0 1
theorem rgs_yes {s : Nat} (h : Sat a b n s s) : rgs a b n (s + 1) = rgs a b n s := by
  show rgs a b n s + @ite Nat (Sat a b n s s) (Classical.propDecidable _) 0 1 = _
  rw [if_pos h]; rfl
theorem rgs_no {s : Nat} (h : ¬ Sat a b n s s) : rgs a b n (s + 1) = rgs a b n s + 1 := by
  show rgs a b n s + @ite Nat (Sat a b n s s) (Classical.propDecidable _) 0 1 = _
  rw [if_neg h]
theorem rgs_swap : ∀ s, rgs a b n s = rgs b a n s
  | 0 => rfl
  | s + 1 => by
    by_cases h : Sat a b n s s
    · rw [rgs_yes h, rgs_yes (Sat.iff_swap.mp h), rgs_swap s]
    · rw [rgs_no h, rgs_no (fun z => h (Sat.iff_swap.mp z)), rgs_swap s]
section
variable {L1 L2 : Nat} (A : Inv L1 a) (B : Inv L2 b) (h1 : n ≤ L1) (h2 : n ≤ L2)
include A B h1 h2
/-- what is not marked stays so along the strings -/
theorem sat_a {s : Nat} (hx : x < n) (h : ¬ Sat a b n s x) : a x < n ∧ ¬ Sat a b n s (a x) := by
  have h0 : a x < n := by
    apply Classical.byContradiction
    intro q
    exact h (.inl ⟨x, .self, .inl (by omega)⟩)
  refine ⟨h0, fun z => h ?_⟩
  have c1 : Con a b n x (a x) := .sa .self h0
  rcases z with ⟨y, q1, q2⟩ | ⟨t, q1, q2, q3⟩
  · exact .inl ⟨y, c1.trans q1, q2⟩
  · exact .inr ⟨t, q1, q2, q3.trans (Con.symm A B h1 h2 hx c1)⟩
theorem sat_b {s : Nat} (hx : x < n) (h : ¬ Sat a b n s x) : b x < n ∧ ¬ Sat a b n s (b x) := by
  have h0 : b x < n := by
    apply Classical.byContradiction
    intro q
    exact h (.inl ⟨x, .self, .inr (by omega)⟩)
  refine ⟨h0, fun z => h ?_⟩
  have c1 : Con a b n x (b x) := .sb .self h0
  rcases z with ⟨y, q1, q2⟩ | ⟨t, q1, q2, q3⟩
  · exact .inl ⟨y, c1.trans q1, q2⟩
  · exact .inr ⟨t, q1, q2, q3.trans (Con.symm A B h1 h2 hx c1)⟩
end
/-- the ring from s: every second peg of it -/
def zo (a b : Nat → Nat) (s : Nat) : Nat → Nat
  | 0 => s
  | i + 1 => b (a (zo a b s i))
def cyV (a b : Nat → Nat) (s i x : Nat) : Prop := ∃ j, j < i ∧ (x = zo a b s j ∨ x = a (zo a b s j))
/-- the ring's loop has gone i turns from s -/
def Cy (a b : Nat → Nat) (n s i : Nat) : Prop := ∀ j, j < i → ¬ (Sat a b n s (zo a b s j) ∨ cyV a b s j (zo a b s j))
section
variable {L1 L2 s : Nat} (A : Inv L1 a) (B : Inv L2 b) (h1 : n ≤ L1) (h2 : n ≤ L2) (hs : s < n)
include A B h1 h2 hs
theorem zo_free (h0 : ¬ Sat a b n s s) : ∀ i, zo a b s i < n ∧ ¬ Sat a b n s (zo a b s i)
  | 0 => ⟨hs, h0⟩
  | i + 1 => by
    obtain ⟨q1, q2⟩ := zo_free h0 i
    obtain ⟨q3, q4⟩ := sat_a A B h1 h2 q1 q2
    exact sat_b A B h1 h2 q3 q4
theorem zo_con (h0 : ¬ Sat a b n s s) : ∀ i, Con a b n s (zo a b s i)
  | 0 => .self
  | i + 1 => by
    obtain ⟨q1, q2⟩ := zo_free A B h1 h2 hs h0 i
    obtain ⟨q3, q4⟩ := sat_a A B h1 h2 q1 q2
    exact .sb (.sa (zo_con h0 i) q3) (sat_b A B h1 h2 q3 q4).1
theorem cy_bound {i : Nat} (h : Cy a b n s i) : i ≤ n := by
  apply Classical.byContradiction
  intro q
  have h0 : ¬ Sat a b n s s := fun z => h 0 (by omega) (.inl z)
  obtain ⟨j, k, q1, q2, q3⟩ := php n (n + 1) (zo a b s) (fun j _ => (zo_free A B h1 h2 hs h0 j).1) (by omega)
  exact h k (by omega) (.inr ⟨j, q1, .inl q3.symm⟩)
/-- where the loop ends it is at s again, and has gone all that hangs together with s -/
theorem cy_end {i : Nat} (h : Cy a b n s i) (hi : 1 ≤ i) (he : Sat a b n s (zo a b s i) ∨ cyV a b s i (zo a b s i)) (x : Nat) : (Sat a b n s x ∨ cyV a b s i x) ↔ Sat a b n (s + 1) x := by
  have h0 : ¬ Sat a b n s s := fun z => h 0 (by omega) (.inl z)
  have fr := zo_free A B h1 h2 hs h0
  obtain ⟨k, rfl⟩ : ∃ k, i = k + 1 := ⟨i - 1, by omega⟩
  have lk := (fr k).1
  obtain ⟨lak, _⟩ := sat_a A B h1 h2 (fr k).1 (fr k).2
  have ek : zo a b s (k + 1) = b (a (zo a b s k)) := rfl
  have zs : zo a b s (k + 1) = s := by
    rcases he with he | ⟨j, hj, he⟩
    · exact absurd he (fr _).2
    rcases he with he | he
    · cases j with
      | zero => exact he
      | succ j =>
        exfalso
        have e1 : b (a (zo a b s k)) = b (a (zo a b s j)) := he
        obtain ⟨laj, _⟩ := sat_a A B h1 h2 (fr j).1 (fr j).2
        have lj := (fr j).1
        have e2 := A.inj (by omega) (by omega) (B.inj (by omega) (by omega) e1)
        exact h k (by omega) (.inr ⟨j, by omega, .inl e2⟩)
    · exfalso
      obtain ⟨laj, _⟩ := sat_a A B h1 h2 (fr j).1 (fr j).2
      have lj := (fr j).1
      have lz := (fr (j + 1)).1
      -- b (a (z k)) = a (z j): a (z k) = b (a (z j)) = z (j + 1)
      have e1 : a (zo a b s k) = zo a b s (j + 1) := by
        have := B.inv (a (zo a b s k)) (by omega)
        rw [← this, ← ek, he]
        rfl
      by_cases q : j = k
      · subst q
        rw [ek] at he
        exact B.ne _ (by omega) he
      · by_cases q2 : j + 1 = k
        · rw [q2] at e1
          exact A.ne _ (by omega) e1
        · have e3 : zo a b s k = a (zo a b s (j + 1)) := by rw [← e1, A.inv _ (by omega)]
          exact h k (by omega) (.inr ⟨j + 1, by omega, .inr e3⟩)
  -- what was gone is closed
  have clA : ∀ y, cyV a b s (k + 1) y → cyV a b s (k + 1) (a y) := by
    rintro y ⟨j, hj, e | e⟩
    · exact ⟨j, hj, .inr (by rw [e])⟩
    · refine ⟨j, hj, .inl ?_⟩
      rw [e, A.inv _ (by have := (fr j).1; omega)]
  have clB : ∀ y, cyV a b s (k + 1) y → cyV a b s (k + 1) (b y) := by
    rintro y ⟨j, hj, e | e⟩
    · cases j with
      | zero =>
        have e4 : y = b (a (zo a b s k)) := by rw [e, ← ek, zs]; rfl
        exact ⟨k, by omega, .inr (by rw [e4, B.inv _ (by omega)])⟩
      | succ j =>
        obtain ⟨laj, _⟩ := sat_a A B h1 h2 (fr j).1 (fr j).2
        have e4 : y = b (a (zo a b s j)) := e
        exact ⟨j, by omega, .inr (by rw [e4, B.inv _ (by omega)])⟩
    · by_cases q : j = k
      · subst q
        exact ⟨0, by omega, .inl (by rw [e, ← ek, zs]; rfl)⟩
      · exact ⟨j + 1, by omega, .inl (by rw [e]; rfl)⟩
  have nS : ¬ S0 a b n s := fun z => h0 (.inl z)
  constructor
  · rintro (z | ⟨j, hj, e⟩)
    · rcases z with z | ⟨t, q1, q2, q3⟩
      · exact .inl z
      · exact .inr ⟨t, by omega, q2, q3⟩
    · have cj := zo_con A B h1 h2 hs h0 j
      refine .inr ⟨s, by omega, nS, ?_⟩
      rcases e with e | e
      · rw [e]; exact cj
      · rw [e]; exact .sa cj (sat_a A B h1 h2 (fr j).1 (fr j).2).1
  · rintro (z | ⟨t, q1, q2, q3⟩)
    · exact .inl (.inl z)
    · by_cases q : t = s
      · subst q
        refine .inr ?_
        have : ∀ y, Con a b n t y → cyV a b t (k + 1) y := by
          intro y hy
          induction hy with
          | self => exact ⟨0, by omega, .inl rfl⟩
          | sa _ _ ih => exact clA _ ih
          | sb _ _ ih => exact clB _ ih
        exact this x q3
      · exact .inl (.inr ⟨t, by omega, q2, q3⟩)
end
end
end Ma
namespace Ma
/-! ### putting behind: a of n and k1 pegs upside down, ahead of b of n and k2; the outer pegs are 0 .. k1 - 1 (a's), then b's -/
def sc (a b : Nat → Nat) (k1 q : Nat) : Nat → Nat := if q < k1 then a else b
def sd (a b : Nat → Nat) (k1 q : Nat) : Nat → Nat := if q < k1 then b else a
def ss (n k1 q : Nat) : Nat := if q < k1 then n + q else n + (q - k1)
/-- the walk from the outer peg q; how long it is; the outer peg at its end -/
def wk (a b : Nat → Nat) (n k1 q : Nat) : Nat → Nat := orb (sc a b k1 q) (sd a b k1 q) (ss n k1 q)
def wf (a b : Nat → Nat) (n k1 q : Nat) : Nat := fe (sc a b k1 q) (sd a b k1 q) n (ss n k1 q)
/-- the side on which the i-th turn was gone: a's -/
def onA (k1 q i : Nat) : Prop := (q < k1 ↔ i % 2 = 1)
instance (k1 q i : Nat) : Decidable (onA k1 q i) := by unfold onA; infer_instance
theorem onA_t {k1 q i : Nat} (h : q < k1) : onA k1 q i ↔ i % 2 = 1 := ⟨fun z => z.mp h, fun z => ⟨fun _ => z, fun _ => h⟩⟩
theorem onA_f {k1 q i : Nat} (h : ¬ q < k1) : onA k1 q i ↔ ¬ i % 2 = 1 := ⟨fun z w => h (z.mpr w), fun z => ⟨fun w => absurd w h, fun w => absurd w z⟩⟩
def we (a b : Nat → Nat) (n k1 q : Nat) : Nat := if onA k1 q (wf a b n k1 q) then wk a b n k1 q (wf a b n k1 q) - n else k1 + (wk a b n k1 q (wf a b n k1 q) - n)
def putM (a b : Nat → Nat) (n k1 k2 : Nat) : List Nat := (List.range (k1 + k2)).map (we a b n k1)
/-- marked behind the walks from the outer pegs ahead of p -/
def Vp (a b : Nat → Nat) (n k1 p x : Nat) : Prop := ∃ q, q < p ∧ ∃ i, 1 ≤ i ∧ i < wf a b n k1 q ∧ wk a b n k1 q i = x
section
variable {a b : Nat → Nat} {n k1 k2 : Nat} (A : Inv (n + k1) a) (B : Inv (n + k2) b)
include A B
theorem wk_ok {q : Nat} (hq : q < k1 + k2) : wf a b n k1 q ≤ 2 * n + 1 ∧ EndOf (sc a b k1 q) (sd a b k1 q) n (ss n k1 q) (wf a b n k1 q) := by
  unfold wf sc sd ss
  by_cases h : q < k1
  · rw [if_pos h, if_pos h, if_pos h]
    exact fe_ok A B (by omega) (by omega) (by omega) (by omega)
  · rw [if_neg h, if_neg h, if_neg h]
    exact fe_ok B A (by omega) (by omega) (by omega) (by omega)
theorem wk_in {q i : Nat} (hq : q < k1 + k2) (h1 : 1 ≤ i) (h2 : i < wf a b n k1 q) : wk a b n k1 q i < n := (wk_ok A B hq).2.2.2 i h1 h2
theorem wk_out {q : Nat} (hq : q < k1 + k2) : n ≤ wk a b n k1 q (wf a b n k1 q) := (wk_ok A B hq).2.2.1
theorem wk_pos {q : Nat} (hq : q < k1 + k2) : 1 ≤ wf a b n k1 q := (wk_ok A B hq).2.1
end
section
variable {a b : Nat → Nat} {n k1 k2 : Nat}
theorem wk_zero (q : Nat) : wk a b n k1 q 0 = ss n k1 q := rfl
theorem wk_succ (q i : Nat) : wk a b n k1 q (i + 1) = if onA k1 q (i + 1) then a (wk a b n k1 q i) else b (wk a b n k1 q i) := by
  show (if i % 2 = 0 then sc a b k1 q (wk a b n k1 q i) else sd a b k1 q (wk a b n k1 q i)) = _
  unfold sc sd
  by_cases h : q < k1 <;> by_cases h2 : i % 2 = 0
  · rw [if_pos h2, if_pos h, if_pos ((onA_t h).mpr (by omega))]
  · rw [if_neg h2, if_pos h, if_neg (fun z => by have := (onA_t h).mp z; omega)]
  · rw [if_pos h2, if_neg h, if_neg (fun z => by have := (onA_f h).mp z; omega)]
  · rw [if_neg h2, if_neg h, if_pos ((onA_f h).mpr (by omega))]
end
section
variable {a b : Nat → Nat} {n k1 k2 : Nat} (A : Inv (n + k1) a) (B : Inv (n + k2) b)
include A B
/-- a turn stays within its mat -/
theorem wk_lt {q i : Nat} (hq : q < k1 + k2) (h2 : i < wf a b n k1 q) : wk a b n k1 q i < n + (if onA k1 q (i + 1) then k1 else k2) := by
  by_cases h : i = 0
  · subst h
    rw [wk_zero]
    unfold ss
    by_cases h : q < k1
    · rw [if_pos h, if_pos ((onA_t h).mpr (by omega))]; omega
    · rw [if_neg h, if_neg (fun z => by have := (onA_f h).mp z; omega)]; omega
  · have := wk_in A B hq (by omega) h2
    omega
theorem wk_end_lt {q : Nat} (hq : q < k1 + k2) : wk a b n k1 q (wf a b n k1 q) < n + (if onA k1 q (wf a b n k1 q) then k1 else k2) := by
  obtain ⟨i, hi⟩ : ∃ i, wf a b n k1 q = i + 1 := ⟨wf a b n k1 q - 1, by have := wk_pos A B hq; omega⟩
  rw [hi, wk_succ]
  have := wk_lt A B (i := i) hq (by omega)
  by_cases h : onA k1 q (i + 1)
  · rw [if_pos h] at this ⊢
    rw [if_pos h]
    exact A.lt _ this
  · rw [if_neg h] at this ⊢
    rw [if_neg h]
    exact B.lt _ this
theorem we_lt {q : Nat} (hq : q < k1 + k2) : we a b n k1 q < k1 + k2 := by
  have h1 := wk_end_lt A B hq
  have h2 := wk_out A B hq
  unfold we
  split
  · rw [if_pos (by assumption)] at h1; omega
  · rw [if_neg (by assumption)] at h1; omega
/-- the neighbours of a marked peg are marked, or out -/
theorem vp_nb {x : Nat} (h : Vp a b n k1 (k1 + k2) x) : (n ≤ a x ∨ Vp a b n k1 (k1 + k2) (a x)) ∧ (n ≤ b x ∨ Vp a b n k1 (k1 + k2) (b x)) := by
  obtain ⟨q, hq, i, h1, h2, e⟩ := h
  obtain ⟨j, rfl⟩ : ∃ j, i = j + 1 := ⟨i - 1, by omega⟩
  -- the next one
  have nxt : (if onA k1 q (j + 2) then a x else b x) = wk a b n k1 q (j + 2) := by rw [wk_succ, e]
  have nx : n ≤ wk a b n k1 q (j + 2) ∨ Vp a b n k1 (k1 + k2) (wk a b n k1 q (j + 2)) := by
    by_cases z : j + 2 < wf a b n k1 q
    · exact .inr ⟨q, hq, j + 2, by omega, z, rfl⟩
    · have : j + 2 = wf a b n k1 q := by omega
      exact .inl (by rw [this]; exact wk_out A B hq)
  -- the one ahead
  have hl := wk_lt A B (i := j) hq (by omega)
  have prv : (if onA k1 q (j + 1) then a x else b x) = wk a b n k1 q j := by
    rw [← e, wk_succ]
    by_cases z : onA k1 q (j + 1)
    · rw [if_pos z] at hl
      rw [if_pos z, if_pos z, A.inv _ hl]
    · rw [if_neg z] at hl
      rw [if_neg z, if_neg z, B.inv _ hl]
  have pv : n ≤ wk a b n k1 q j ∨ Vp a b n k1 (k1 + k2) (wk a b n k1 q j) := by
    by_cases z : j = 0
    · subst z
      refine .inl ?_
      rw [wk_zero]
      unfold ss
      split <;> omega
    · exact .inr ⟨q, hq, j, by omega, by omega, rfl⟩
  have sw : onA k1 q (j + 2) ↔ ¬ onA k1 q (j + 1) := by
    by_cases h : q < k1
    · rw [onA_t h, onA_t h]; omega
    · rw [onA_f h, onA_f h]; omega
  by_cases z : onA k1 q (j + 1)
  · rw [if_pos z] at prv
    rw [if_neg (fun w => sw.mp w z)] at nxt
    rw [prv, nxt]
    exact ⟨pv, nx⟩
  · rw [if_neg z] at prv
    rw [if_pos (sw.mpr z)] at nxt
    rw [prv, nxt]
    exact ⟨nx, pv⟩
theorem vp_lt {x : Nat} (h : Vp a b n k1 (k1 + k2) x) : x < n := by
  obtain ⟨q, hq, i, h1, h2, e⟩ := h
  rw [← e]
  exact wk_in A B hq h1 h2
theorem vp_out {x : Nat} (hx : x < n) (h : n ≤ a x ∨ n ≤ b x) : Vp a b n k1 (k1 + k2) x := by
  rcases h with h | h
  · have hl := A.lt x (by omega)
    refine ⟨a x - n, by omega, 1, Nat.le_refl _, ?_, ?_⟩
    · have hq : a x - n < k1 + k2 := by omega
      have h1 := wk_pos A B hq
      apply Classical.byContradiction
      intro z
      have hf : wf a b n k1 (a x - n) = 0 + 1 := by omega
      have h2 := wk_out A B hq
      rw [hf, wk_succ, wk_zero] at h2
      unfold ss at h2
      have hk : a x - n < k1 := by omega
      rw [if_pos ((onA_t hk).mpr (by omega)), if_pos hk] at h2
      have e : n + (a x - n) = a x := by omega
      rw [e, A.inv x (by omega)] at h2
      omega
    · rw [wk_succ 
        , wk_zero]
      unfold ss
      have hk : a x - n < k1 := by omega
      rw [if_pos ((onA_t hk).mpr (by omega)), if_pos hk]
      have e : n + (a x - n) = a x := by omega
      rw [e, A.inv x (by omega)]
  · have hl := B.lt x (by omega)
    have hk : ¬ k1 + (b x - n) < k1 := by omega
    have e : n + (k1 + (b x - n) - k1) = b x := by omega
    refine ⟨k1 + (b x - n), by omega, 1, Nat.le_refl _, ?_, ?_⟩
    · have hq : k1 + (b x - n) < k1 + k2 := by omega
      have h1 := wk_pos A B hq
      apply Classical.byContradiction
      intro z
      have hf : wf a b n k1 (k1 + (b x - n)) = 0 + 1 := by omega
      have h2 := wk_out A B hq
      rw [hf, wk_succ, wk_zero] at h2
      unfold ss at h2
      rw [if_neg (fun z => by have := (onA_f hk).mp z; omega), if_neg hk, e, B.inv x (by omega)] at h2
      omega
    · rw [wk_succ, wk_zero]
      unfold ss
      rw [if_neg (fun z => by have := (onA_f hk).mp z; omega), if_neg hk, e, B.inv x (by omega)]
/-- what the walks mark: the strings that come out -/
theorem vp_iff {x : Nat} (hx : x < n) : Vp a b n k1 (k1 + k2) x ↔ S0 a b n x := by
  constructor
  · rintro ⟨q, hq, i, h1, h2, e⟩
    -- all of the walk hangs together with its first peg
    have all : ∀ i, 1 ≤ i → i < wf a b n k1 q → S0 a b n (wk a b n k1 q i) := by
      intro i h1 h2
      induction i with
      | zero => omega
      | succ i ih =>
        by_cases z : i = 0
        · subst z
          have h3 := wk_in A B hq (Nat.le_refl 1) (by omega)
          refine ⟨_, .self, ?_⟩
          have hl := wk_lt A B (i := 0) hq (by omega)
          have hs : n ≤ wk a b n k1 q 0 := by
            rw [wk_zero]; unfold ss; split <;> omega
          rw [wk_succ]
          by_cases y : onA k1 q (0 + 1)
          · rw [if_pos y] at hl ⊢
            exact .inl (by rw [A.inv _ hl]; exact hs)
          · rw [if_neg y] at hl ⊢
            exact .inr (by rw [B.inv _ hl]; exact hs)
        · obtain ⟨y, c, o⟩ := ih (by omega) (by omega)
          have h3 := wk_in A B hq h1 h2
          have h4 := wk_in A B (i := i) hq (by omega) (by omega)
          refine ⟨y, Con.trans ?_ c, o⟩
          refine Con.symm A B (by omega) (by omega) h4 ?_
          rw [wk_succ] at h3 ⊢
          by_cases y : onA k1 q (i + 1)
          · rw [if_pos y] at h3 ⊢
            exact .sa .self h3
          · rw [if_neg y] at h3 ⊢
            exact .sb .self h3
    rw [← e]
    exact all i h1 h2
  · rintro ⟨y, c, o⟩
    have hy := c.lt hx
    have c' := Con.symm A B (by omega) (by omega) hx c
    have v := vp_out A B hy o
    have : ∀ z, Con a b n y z → Vp a b n k1 (k1 + k2) z := by
      intro z hz
      induction hz with
      | self => exact v
      | sa _ q ih => exact (vp_nb A B ih).1.resolve_left (by omega)
      | sb _ q ih => exact (vp_nb A B ih).2.resolve_left (by omega)
    exact this x c'
end
theorem vp_zero {a b : Nat → Nat} {n k1 x : Nat} : ¬ Vp a b n k1 0 x := fun ⟨_, h, _⟩ => absurd h (by omega)
theorem vp_succ {a b : Nat → Nat} {n k1 p x : Nat} : Vp a b n k1 (p + 1) x ↔ Vp a b n k1 p x ∨ ∃ i, 1 ≤ i ∧ i < wf a b n k1 p ∧ wk a b n k1 p i = x := by
  constructor
  · rintro ⟨q, hq, r⟩
    by_cases e : q = p
    · subst e; exact .inr r
    · exact .inl ⟨q, by omega, r⟩
  · rintro (⟨q, hq, r⟩ | r)
    · exact ⟨q, by omega, r⟩
    · exact ⟨p, by omega, r⟩

/-! ### pairings -/
/-- all strings go through -/
def Thr (a b : Nat → Nat) (n k : Nat) : Prop := ∀ t, t < k → k ≤ we a b n k t
section
variable {a b : Nat → Nat} {n k : Nat} (A : Inv (n + k) a) (B : Inv (n + k) b)
include A B
theorem we_top {t : Nat} (ht : t < k) : k ≤ we a b n k t ↔ wf a b n k t % 2 = 0 := by
  have h1 := wk_end_lt A B (k1 := k) (k2 := k) (q := t) (by omega)
  have h2 := wk_out A B (k1 := k) (k2 := k) (q := t) (by omega)
  have h3 : wk a b n k t (wf a b n k t) < n + k := by
    split at h1 <;> exact h1
  unfold we
  by_cases z : onA k t (wf a b n k t)
  · rw [if_pos z]
    have := z.mp ht
    omega
  · rw [if_neg z]
    constructor
    · intro _
      apply Classical.byContradiction
      intro y
      exact z ⟨fun _ => by omega, fun _ => ht⟩
    · intro _; omega
theorem thr_sym (h : Thr a b n k) : Thr b a n k := by
  intro y hy
  -- the walk from a's t ends at b's j t
  have hf : ∀ t, t < k → wf a b n k t % 2 = 0 := fun t ht => (we_top A B ht).mp (h t ht)
  have ew : ∀ t, t < k → EndOf a b n (n + t) (wf a b n k t) := fun t ht => by
    have := (wk_ok A B (k1 := k) (k2 := k) (q := t) (by omega)).2
    unfold sc sd ss at this
    rwa [if_pos ht, if_pos ht, if_pos ht] at this
  have ewk : ∀ t, t < k → wk a b n k t (wf a b n k t) = orb a b (n + t) (wf a b n k t) := fun t ht => by
    unfold wk sc sd ss
    rw [if_pos ht, if_pos ht, if_pos ht]
  have hl : ∀ t, t < k → orb a b (n + t) (wf a b n k t) < n + k := fun t ht => by
    have h1 := wk_end_lt A B (k1 := k) (k2 := k) (q := t) (by omega)
    rw [ewk t ht] at h1
    split at h1 <;> exact h1
  obtain ⟨t, ht, e⟩ := onto k (fun t => orb a b (n + t) (wf a b n k t) - n) (fun t ht => by
    have := hl t ht
    have := (ew t ht).2.1
    show orb a b (n + t) (wf a b n k t) - n < k
    omega) (fun t u ht hu e => by
      have e' : orb a b (n + t) (wf a b n k t) - n = orb a b (n + u) (wf a b n k u) - n := e
      have g1 := (ew t ht).2.1
      have g2 := (ew u hu).2.1
      have e2 : orb a b (n + t) (wf a b n k t) = orb a b (n + u) (wf a b n k u) := by omega
      obtain ⟨r1, r2⟩ := end_rev A B (by omega) (by omega) (by omega) (by omega) (ew t ht) (hf t ht)
      obtain ⟨r3, r4⟩ := end_rev A B (by omega) (by omega) (by omega) (by omega) (ew u hu) (hf u hu)
      rw [e2] at r1 r2
      have ef := r1.uniq r3
      rw [ef] at r2
      omega) y hy
  have e' : orb a b (n + t) (wf a b n k t) - n = y := e
  have g1 := (ew t ht).2.1
  have e2 : orb a b (n + t) (wf a b n k t) = n + y := by omega
  obtain ⟨r1, r2⟩ := end_rev A B (by omega) (by omega) (by omega) (by omega) (ew t ht) (hf t ht)
  rw [e2] at r1
  refine (we_top B A hy).mpr ?_
  have ey : EndOf b a n (n + y) (wf b a n k y) := by
    have := (wk_ok B A (k1 := k) (k2 := k) (q := y) (by omega)).2
    unfold sc sd ss at this
    rwa [if_pos hy, if_pos hy, if_pos hy] at this
  rw [ey.uniq r1]
  exact hf t ht
end
theorem thr_swap {a b : Nat → Nat} {n k : Nat} (A : Inv (n + k) a) (B : Inv (n + k) b) : Thr a b n k ↔ Thr b a n k := ⟨thr_sym A B, thr_sym B A⟩

/-! ### a mat with itself -/
/-- how many of the first n go through -/
def cnt (P : Nat → Bool) (n : Nat) : Nat := ((List.range n).filter P).length
theorem cnt_succ (P : Nat → Bool) (n : Nat) : cnt P (n + 1) = cnt P n + if P n = true then 1 else 0 := by
  unfold cnt
  rw [List.range_succ, List.filter_append, List.length_append]
  by_cases h : P n = true
  · simp [h]
  · simp [h]
theorem nd_len : ∀ {l m : List Nat}, l.Nodup → (∀ x ∈ l, x ∈ m) → l.length ≤ m.length
  | [], m, _, _ => Nat.zero_le _
  | x :: l, m, h, hs => by
    obtain ⟨h1, h2⟩ := List.nodup_cons.mp h
    have hx := hs x (List.mem_cons_self ..)
    have := nd_len (m := m.erase x) h2 fun y hy => by
      have hne : y ≠ x := fun e => h1 (e ▸ hy)
      exact (List.mem_erase_of_ne hne).mpr (hs y (List.mem_cons_of_mem _ hy))
    rw [List.length_erase_of_mem hx] at this
    have : 0 < m.length := List.length_pos_of_mem hx
    rw [List.length_cons]
    omega
theorem map_nodup {f : Nat → Nat} : ∀ {l : List Nat}, l.Nodup → (∀ x ∈ l, ∀ y ∈ l, f x = f y → x = y) → (l.map f).Nodup
  | [], _, _ => by simp
  | x :: l, h, inj => by
    obtain ⟨h1, h2⟩ := List.nodup_cons.mp h
    rw [List.map_cons]
    refine List.nodup_cons.mpr ⟨fun hm => ?_, map_nodup h2 fun y hy z hz => inj y (List.mem_cons_of_mem _ hy) z (List.mem_cons_of_mem _ hz)⟩
    obtain ⟨y, hy, e⟩ := List.mem_map.mp hm
    have := inj y (List.mem_cons_of_mem _ hy) x (List.mem_cons_self ..) e
    exact h1 (this ▸ hy)
theorem cnt_le {P Q : Nat → Bool} {n : Nat} (f : Nat → Nat) (h : ∀ i, i < n → P i = true → f i < n ∧ Q (f i) = true) (inj : ∀ i j, i < n → j < n → f i = f j → i = j) : cnt P n ≤ cnt Q n := by
  unfold cnt
  have nd : ((List.range n).filter P).Nodup := List.nodup_range.filter _
  have := nd_len (l := ((List.range n).filter P).map f) (m := (List.range n).filter Q) (map_nodup nd fun x hx y hy e => by
    have h1 := List.mem_range.mp (List.mem_filter.mp hx).1
    have h2 := List.mem_range.mp (List.mem_filter.mp hy).1
    exact inj x y h1 h2 e) (fun y hy => by
      obtain ⟨x, hx, rfl⟩ := List.mem_map.mp hy
      obtain ⟨h1, h2⟩ := List.mem_filter.mp hx
      obtain ⟨h3, h4⟩ := h x (List.mem_range.mp h1) h2
      exact List.mem_filter.mpr ⟨List.mem_range.mpr h3, h4⟩)
  rwa [List.length_map] at this
theorem cnt_le_id {P Q : Nat → Bool} {n : Nat} (h : ∀ i, i < n → P i = true → Q i = true) : cnt P n ≤ cnt Q n := cnt_le id (fun i hi hp => ⟨hi, h i hi hp⟩) fun _ _ _ _ e => e
theorem cnt_three (P Q R : Nat → Bool) : ∀ n, (∀ i, i < n → (if P i = true then 1 else 0) + (if Q i = true then 1 else 0) + (if R i = true then 1 else 0) = 1) → cnt P n + cnt Q n + cnt R n = n
  | 0, _ => rfl
  | n + 1, h => by
    have ih := cnt_three P Q R n fun i hi => h i (by omega)
    have := h n (by omega)
    rw [cnt_succ, cnt_succ, cnt_succ]
    omega
section
variable {a : Nat → Nat} {n k : Nat} (A : Inv (n + k) a)
include A
theorem con_self {x y : Nat} (hx : x < n) (h : Con a a n x y) : y = x ∨ y = a x := by
  have step : ∀ y, (y = x ∨ y = a x) → a y < n → a y = x ∨ a y = a x := by
    rintro y (e | e) h
    · exact .inr (by rw [e])
    · refine .inl ?_
      rw [e, A.inv x (by omega)]
  induction h with
  | self => exact .inl rfl
  | sa _ q ih => exact step _ ih q
  | sb _ q ih => exact step _ ih q
theorem s0_self {x : Nat} (hx : x < n) : S0 a a n x ↔ n ≤ a x := by
  constructor
  · rintro ⟨y, c, o⟩
    have hy := c.lt hx
    have o' : n ≤ a y := o.elim id id
    rcases con_self A hx c with e | e
    · rwa [e] at o'
    · rw [e, A.inv x (by omega)] at o'
      omega
  · intro h
    exact ⟨x, .self, .inl h⟩
theorem sat_self {s : Nat} (hs : s < n) : Sat a a n s s ↔ (n ≤ a s ∨ a s < s) := by
  unfold Sat
  rw [s0_self A hs]
  constructor
  · rintro (h | ⟨t, h1, h2, h3⟩)
    · exact .inl h
    · rcases con_self A (show t < n by omega) h3 with e | e
      · omega
      · refine .inr ?_
        have := A.inv t (by omega)
        rw [← e] at this
        omega
  · rintro (h | h)
    · exact .inl h
    · refine .inr ⟨a s, h, ?_, ?_⟩
      · rw [s0_self A (show a s < n by omega), A.inv s (by omega)]
        omega
      · have : Con a a n (a s) (a (a s)) := .sa .self (by rw [A.inv s (by omega)]; exact hs)
        rwa [A.inv s (by omega)] at this
theorem rgs_self : ∀ s, s ≤ n → rgs a a n s = cnt (fun x => decide (x < a x ∧ a x < n)) s
  | 0, _ => rfl
  | s + 1, h => by
    have ih := rgs_self s (by omega)
    have ne := A.ne s (by omega)
    rw [cnt_succ]
    by_cases z : Sat a a n s s
    · have := (sat_self A (show s < n by omega)).mp z
      rw [rgs_yes z, ih]
      rw [if_neg (by simp; omega)]
      rfl
    · have z1 : ¬ n ≤ a s := fun w => z ((sat_self A (show s < n by omega)).mpr (.inl w))
      have z2 : ¬ a s < s := fun w => z ((sat_self A (show s < n by omega)).mpr (.inr w))
      rw [rgs_no z, ih, if_pos (by simp; omega)]
theorem rings_self (hk : cnt (fun x => decide (n ≤ a x)) n = k) : 2 * rgs a a n n = n - k := by
  rw [rgs_self A n (Nat.le_refl _)]
  have h3 := cnt_three (fun x => decide (x < a x ∧ a x < n)) (fun x => decide (a x < x)) (fun x => decide (n ≤ a x)) n fun i hi => by
    have ne := A.ne i (by omega)
    simp only [decide_eq_true_eq]
    by_cases h1 : n ≤ a i
    · rw [if_neg (by omega), if_neg (by omega), if_pos h1]
    · by_cases h2 : a i < i
      · rw [if_neg (by omega), if_pos h2, if_neg h1]
      · rw [if_pos (by omega), if_neg h2, if_neg h1]
  have inj : ∀ i j, i < n → j < n → a i = a j → i = j := fun i j hi hj e => A.inj (by omega) (by omega) e
  have l1 : cnt (fun x => decide (x < a x ∧ a x < n)) n ≤ cnt (fun x => decide (a x < x)) n := cnt_le a (fun i hi h => by
    simp only [decide_eq_true_eq] at h ⊢
    rw [A.inv i (by omega)]
    omega) inj
  have l2 : cnt (fun x => decide (a x < x)) n ≤ cnt (fun x => decide (x < a x ∧ a x < n)) n := cnt_le a (fun i hi h => by
    simp only [decide_eq_true_eq] at h ⊢
    rw [A.inv i (by omega)]
    omega) inj
  omega
/-- all below come from above -/
theorem low_up (hk : cnt (fun x => decide (n ≤ a x)) n = k) {t : Nat} (ht : t < k) : a (n + t) < n := by
  -- the k above that go through meet all below
  apply Classical.byContradiction
  intro no
  have hlt := A.lt (n + t) (by omega)
  have : cnt (fun x => decide (n ≤ a x)) n ≤ ((List.range k).erase t).length := by
    unfold cnt
    have nd : ((List.range n).filter fun x => decide (n ≤ a x)).Nodup := List.nodup_range.filter _
    have := nd_len (l := ((List.range n).filter fun x => decide (n ≤ a x)).map fun x => a x - n) (m := (List.range k).erase t) (map_nodup nd fun x hx y hy e => by
      have h1 := List.mem_range.mp (List.mem_filter.mp hx).1
      have h2 := List.mem_range.mp (List.mem_filter.mp hy).1
      have h3 := of_decide_eq_true (List.mem_filter.mp hx).2
      have h4 := of_decide_eq_true (List.mem_filter.mp hy).2
      exact A.inj (by omega) (by omega) (show a x = a y by omega)) (fun y hy => by
        obtain ⟨x, hx, rfl⟩ := List.mem_map.mp hy
        have h1 := List.mem_range.mp (List.mem_filter.mp hx).1
        have h3 := of_decide_eq_true (List.mem_filter.mp hx).2
        have h5 := A.lt x (by omega)
        have hne : a x - n ≠ t := fun e => by
          have e2 : a x = n + t := by omega
          have := A.inv x (by omega)
          rw [e2] at this
          omega
        exact (List.mem_erase_of_ne hne).mpr (List.mem_range.mpr (by omega)))
    rwa [List.length_map] at this
  rw [hk, List.length_erase_of_mem (List.mem_range.mpr ht), List.length_range] at this
  omega
theorem thr_self (hk : cnt (fun x => decide (n ≤ a x)) n = k) : Thr a a n k := by
  intro t ht
  refine (we_top A A ht).mpr ?_
  have hu := low_up A hk ht
  have e : EndOf a a n (n + t) 2 := by
    refine ⟨by omega, ?_, fun i h1 h2 => ?_⟩
    · show n ≤ a (a (n + t))
      rw [A.inv _ (by omega)]
      omega
    · have : i = 1 := by omega
      subst this
      exact hu
  have ey : EndOf a a n (n + t) (wf a a n k t) := by
    have := (wk_ok A A (k1 := k) (k2 := k) (q := t) (by omega)).2
    unfold sc sd ss at this
    simpa [ht] using this
  rw [ey.uniq e]
end
end Ma
namespace Ma
theorem g_map {f : Nat → Nat} {n i : Nat} (h : i < n) : g ((List.range n).map f) i = f i := by
  simp [g, List.getD_eq_getElem?_getD, List.getElem?_map, h]
theorem g_app1 {l r : List Nat} {i : Nat} (h : i < l.length) : g (l ++ r) i = g l i := by
  simp [g, List.getD_eq_getElem?_getD, List.getElem?_append_left h]
theorem g_app2 {l r : List Nat} {i : Nat} : g (l ++ r) (l.length + i) = g r i := by
  simp [g, List.getD_eq_getElem?_getD, List.getElem?_append_right]
theorem g_set {l : List Nat} {i j x : Nat} (hi : i < l.length) : g (l.set i x) j = if i = j then x else g l j := by
  simp only [g, List.getD_eq_getElem?_getD, List.getElem?_set]
  by_cases e : i = j
  · subst e
    simp [hi]
  · simp [e]
theorem g_ext {l r : List Nat} (h1 : l.length = r.length) (h : ∀ i, i < l.length → g l i = g r i) : l = r := by
  apply List.ext_getElem h1
  intro i h2 h3
  have := h i h2
  simpa [g, List.getD_eq_getElem?_getD, h2, h3] using this
theorem g_get {l : List Nat} {i : Nat} (h : i < l.length) : l[i]? = some (g l i) := by
  simp [g, List.getD_eq_getElem?_getD, h]
theorem take_map (n : Nat) (a : List Nat) (h : n ≤ a.length) : a.take n = (List.range n).map (g a) := by
  apply List.ext_getElem
  · simp; omega
  · intro i h1 h2
    have h3 : i < a.length := by simp at h1; omega
    simp [g, List.getD_eq_getElem?_getD, h3]
/-- how many strings go through -/
def thr (n : Nat) (a : List Nat) : Nat := ((a.take n).filter fun x => decide (n ≤ x)).length
theorem thr_cnt {n : Nat} {a : List Nat} (h : n ≤ a.length) : thr n a = cnt (fun x => decide (n ≤ g a x)) n := by
  unfold thr cnt
  rw [take_map n a h, List.filter_map, List.length_map]
  rfl
structure Half (n k : Nat) (a : List Nat) : Prop where
  mat : Mat n k a
  thr : thr n a = k
theorem Half.cnt {n k : Nat} {a : List Nat} (H : Half n k a) : cnt (fun x => decide (n ≤ g a x)) n = k := by
  rw [← thr_cnt (by have := H.mat.len; omega)]
  exact H.thr
theorem Half.le {n k : Nat} {a : List Nat} (H : Half n k a) : k ≤ n := by
  have := H.cnt
  have h2 : Ma.cnt (fun x => decide (n ≤ g a x)) n ≤ n := by
    unfold Ma.cnt
    have := List.length_filter_le (fun x => decide (n ≤ g a x)) (List.range n)
    rwa [List.length_range] at this
  omega
theorem Half.par {n k : Nat} {a : List Nat} (H : Half n k a) : (n + k) % 2 = 0 := even H.mat
theorem Half.n_pos {n k : Nat} {a : List Nat} (H : Half n k a) : 1 ≤ n := by
  have := H.le
  have := H.mat.some_
  omega

/-! ### the pairing's value -/
/-- whether all strings go through what comes -/
def allT (k : Nat) (r : List Nat) : Bool := (r.take k).all fun x => decide (k ≤ x)
theorem putM_len {a b : Nat → Nat} {n k1 k2 : Nat} : (putM a b n k1 k2).length = k1 + k2 := by unfold putM; rw [List.length_map, List.length_range]
theorem allT_iff {a b : Nat → Nat} {n k : Nat} : allT k (putM a b n k k) = true ↔ Thr a b n k := by
  unfold allT
  rw [take_map k _ (by rw [putM_len]; omega), List.all_eq_true]
  constructor
  · intro h t ht
    have := h (g (putM a b n k k) t) (List.mem_map.mpr ⟨t, List.mem_range.mpr ht, rfl⟩)
    unfold putM at this
    rw [g_map (by omega)] at this
    exact of_decide_eq_true this
  · rintro h x hx
    obtain ⟨t, ht, rfl⟩ := List.mem_map.mp hx
    have ht' := List.mem_range.mp ht
    have := h t ht'
    unfold putM
    rw [g_map (by omega)]
    exact decide_eq_true this
/-- w to the power of r -/
def wpow (r : Nat) : List Int := List.replicate r 0 ++ [1]
noncomputable def prV (a b : List Nat) (n k : Nat) : List Int := if allT k (putM (g a) (g b) n k k) = true then wpow (rgs (g a) (g b) n n) else []
theorem prV_sym {a b : List Nat} {n k : Nat} (A : Half n k a) (B : Half n k b) : prV a b n k = prV b a n k := by
  unfold prV
  have h := thr_swap A.mat.inv_ B.mat.inv_
  rw [← allT_iff, ← allT_iff] at h
  rw [rgs_swap n]
  by_cases z : allT k (putM (g a) (g b) n k k) = true
  · rw [if_pos z, if_pos (h.mp z)]
  · rw [if_neg z, if_neg (fun w => z (h.mpr w))]
theorem prV_self {a : List Nat} {n k : Nat} (A : Half n k a) : prV a a n k = wpow ((n - k) / 2) := by
  unfold prV
  rw [if_pos (allT_iff.mpr (thr_self A.mat.inv_ A.cnt))]
  have := rings_self A.mat.inv_ A.cnt
  have e : rgs (g a) (g a) n n = (n - k) / 2 := by omega
  rw [e]
theorem rgs_le (a b : Nat → Nat) (n : Nat) : ∀ s, rgs a b n s ≤ s
  | 0 => Nat.le_refl _
  | s + 1 => by
    have := rgs_le a b n s
    by_cases z : Sat a b n s s
    · rw [rgs_yes z]; omega
    · rw [rgs_no z]; omega

/-! ### upside down, as put takes it -/
def pl (n k y : Nat) : Nat := if y < n then y + k else y - n
structure FlipOf (n k : Nat) (A a : List Nat) : Prop where
  len : A.length = k + n
  top : ∀ t, t < k → g A t = pl n k (g a (n + t))
  low : ∀ x, x < n → g A (k + x) = pl n k (g a x)
def flp (n k : Nat) (a : List Nat) : List Nat := (List.range k).map (fun t => pl n k (g a (n + t))) ++ (List.range n).map (fun x => pl n k (g a x))
theorem flp_of (n k : Nat) (a : List Nat) : FlipOf n k (flp n k a) a := by
  have l1 : ((List.range k).map (fun t => pl n k (g a (n + t)))).length = k := by simp
  refine ⟨by unfold flp; simp, fun t ht => ?_, fun x hx => ?_⟩
  · unfold flp
    rw [g_app1 (by rw [l1]; exact ht), g_map ht]
  · unfold flp
    have := g_app2 (l := (List.range k).map (fun t => pl n k (g a (n + t)))) (r := (List.range n).map (fun x => pl n k (g a x))) (i := x)
    rw [l1] at this
    rw [this, g_map hx]

/-! ### a hook ahead of a mat -/
def hkL (n i : Nat) : List Nat := ((((((List.range n).map (n + ·)) ++ List.range n).set i (i + 1)).set (i + 1) i).set (n + i) (n + i + 1)).set (n + i + 1) (n + i)
theorem g_range {n i : Nat} (h : i < n) : g (List.range n) i = i := by simp [g, List.getD_eq_getElem?_getD, h]
def hkf (n i x : Nat) : Nat := if x = n + i + 1 then n + i else if x = n + i then n + i + 1 else if x = i + 1 then i else if x = i then i + 1 else if x < n then n + x else x - n
theorem hkL_len (n i : Nat) : (hkL n i).length = n + n := by unfold hkL; simp
theorem hkL_g {n i x : Nat} (hi : i + 1 < n) (hx : x < n + n) : g (hkL n i) x = hkf n i x := by
  unfold hkL hkf
  have l0 : ((List.range n).map (n + ·)).length = n := by simp
  rw [g_set (by simp; omega), g_set (by simp; omega), g_set (by simp; omega), g_set (by simp; omega)]
  by_cases h1 : x = n + i + 1
  · rw [if_pos h1.symm, if_pos h1]
  rw [if_neg (fun e => h1 e.symm), if_neg h1]
  by_cases h2 : x = n + i
  · rw [if_pos h2.symm, if_pos h2]
  rw [if_neg (fun e => h2 e.symm), if_neg h2]
  by_cases h3 : x = i + 1
  · rw [if_pos h3.symm, if_pos h3]
  rw [if_neg (fun e => h3 e.symm), if_neg h3]
  by_cases h4 : x = i
  · rw [if_pos h4.symm, if_pos h4]
  rw [if_neg (fun e => h4 e.symm), if_neg h4]
  by_cases h5 : x < n
  · rw [if_pos h5, g_app1 (by rw [l0]; exact h5), g_map h5]
  · rw [if_neg h5]
    have := g_app2 (l := (List.range n).map (n + ·)) (r := List.range n) (i := x - n)
    rw [l0, show n + (x - n) = x by omega] at this
    rw [this, g_range (by omega)]
theorem hk_inv {n i : Nat} (hi : i + 1 < n) : Inv (n + n) (g (hkL n i)) := by
  refine ⟨fun x hx => ?_, fun x hx => ?_, fun x hx => ?_⟩
  · rw [hkL_g hi hx]; unfold hkf; (repeat' split) <;> omega
  · rw [hkL_g hi hx]; unfold hkf; (repeat' split) <;> omega
  · have h1 : hkf n i x < n + n := by unfold hkf; (repeat' split) <;> omega
    rw [hkL_g hi hx, hkL_g hi h1]
    unfold hkf; (repeat' split) <;> omega
theorem hk_flip {n i : Nat} (hi : i + 1 < n) : FlipOf n n (hkL n i) (hkL n i) := by
  refine ⟨hkL_len n i, fun t ht => ?_, fun x hx => ?_⟩
  · rw [hkL_g hi (by omega), hkL_g hi (by omega)]
    unfold pl hkf; (repeat' split) <;> omega
  · rw [hkL_g hi (by omega), hkL_g hi (by omega)]
    unfold pl hkf; (repeat' split) <;> omega
/-- the mates of what comes: i and i + 1 joined, their old mates joined -/
def hkc (i : Nat) (b : Nat → Nat) (p : Nat) : Nat := if p = i then i + 1 else if p = i + 1 then i else if b p = i then b (i + 1) else if b p = i + 1 then b i else b p
theorem we_of {a b : Nat → Nat} {n k1 q f : Nat} (E : EndOf (sc a b k1 q) (sd a b k1 q) n (ss n k1 q) f) (E' : EndOf (sc a b k1 q) (sd a b k1 q) n (ss n k1 q) (wf a b n k1 q)) :
    we a b n k1 q = if onA k1 q f then orb (sc a b k1 q) (sd a b k1 q) (ss n k1 q) f - n else k1 + (orb (sc a b k1 q) (sd a b k1 q) (ss n k1 q) f - n) := by
  have e := E.uniq E'
  unfold we wk
  rw [← e]
theorem end1 {c d : Nat → Nat} {n s : Nat} (h : n ≤ c s) : EndOf c d n s 1 := ⟨Nat.le_refl _, h, fun i a b => by omega⟩
theorem end2 {c d : Nat → Nat} {n s : Nat} (h1 : c s < n) (h : n ≤ d (c s)) : EndOf c d n s 2 := ⟨by omega, h, fun i a b => by
  have : i = 1 := by omega
  subst this; exact h1⟩
theorem end3 {c d : Nat → Nat} {n s : Nat} (h1 : c s < n) (h2 : d (c s) < n) (h : n ≤ c (d (c s))) : EndOf c d n s 3 := ⟨by omega, h, fun i a b => by
  rcases (show i = 1 ∨ i = 2 by omega) with e | e
  · subst e; exact h1
  · subst e; exact h2⟩
theorem end4 {c d : Nat → Nat} {n s : Nat} (h1 : c s < n) (h2 : d (c s) < n) (h3 : c (d (c s)) < n) (h : n ≤ d (c (d (c s)))) : EndOf c d n s 4 := ⟨by omega, h, fun i a b => by
  rcases (show i = 1 ∨ i = 2 ∨ i = 3 by omega) with e | e | e
  · subst e; exact h1
  · subst e; exact h2
  · subst e; exact h3⟩
theorem end5 {c d : Nat → Nat} {n s : Nat} (h1 : c s < n) (h2 : d (c s) < n) (h3 : c (d (c s)) < n) (h4 : d (c (d (c s))) < n) (h : n ≤ c (d (c (d (c s))))) : EndOf c d n s 5 := ⟨by omega, h, fun i a b => by
  rcases (show i = 1 ∨ i = 2 ∨ i = 3 ∨ i = 4 by omega) with e | e | e | e
  · subst e; exact h1
  · subst e; exact h2
  · subst e; exact h3
  · subst e; exact h4⟩
section
variable {n i k : Nat} {b h : Nat → Nat} (hi : i + 1 < n) (H : Inv (n + n) h) (hh : ∀ x, x < n + n → h x = hkf n i x) (B : Inv (n + k) b)
include hi H hh B
theorem hk_top {q : Nat} (hq : q < n) : we h b n n q = hkc i b q := by
  have hq2 : q < n + k := by omega
  have E' := (wk_ok H B (k1 := n) (k2 := k) hq2).2
  have es : ss n n q = n + q := by unfold ss; rw [if_pos hq]
  have ec : sc h b n q = h := by unfold sc; rw [if_pos hq]
  have ed : sd h b n q = b := by unfold sd; rw [if_pos hq]
  have key : ∀ f, EndOf h b n (n + q) f → we h b n n q = if f % 2 = 1 then orb h b (n + q) f - n else n + (orb h b (n + q) f - n) := fun f E => by
    have e := we_of (a := h) (b := b) (k1 := n) (q := q) (n := n) (f := f) (by rw [ec, ed, es]; exact E) E'
    rw [ec, ed, es] at e
    rw [e]
    by_cases z : f % 2 = 1
    · rw [if_pos ((onA_t hq).mpr z), if_pos z]
    · rw [if_neg (fun y => z ((onA_t hq).mp y)), if_neg z]
  have bi := B.inv i (by omega)
  have bi1 := B.inv (i + 1) (by omega)
  have nei := B.ne i (by omega)
  have nei1 := B.ne (i + 1) (by omega)
  have bq := B.inv q (by omega)
  by_cases q1 : q = i
  · subst q1
    have e1 : h (n + q) = n + q + 1 := by rw [hh _ (by omega)]; unfold hkf; (repeat' split) <;> omega
    rw [key 1 (end1 (by rw [e1]; omega))]
    show h (n + q) - n = _
    unfold hkc
    rw [e1, if_pos rfl]
    omega
  by_cases q2 : q = i + 1
  · subst q2
    have e1 : h (n + (i + 1)) = n + i := by rw [hh _ (by omega)]; unfold hkf; (repeat' split) <;> omega
    rw [key 1 (end1 (by rw [e1]; omega))]
    show h (n + (i + 1)) - n = _
    unfold hkc
    rw [e1, if_neg (by omega), if_pos rfl]
    omega
  have e1 : h (n + q) = q := by rw [hh _ (by omega)]; unfold hkf; (repeat' split) <;> omega
  have l2 := B.lt q (by omega)
  have c0 : hkc i b q = if b q = i then b (i + 1) else if b q = i + 1 then b i else b q := by unfold hkc; rw [if_neg q1, if_neg q2]
  rw [c0]
  by_cases o2 : n ≤ b q
  · rw [key 2 (end2 (by rw [e1]; exact hq) (by rw [e1]; exact o2))]
    show n + (b (h (n + q)) - n) = _
    rw [e1, if_neg (by omega), if_neg (by omega)]
    omega
  by_cases y1 : b q = i
  · rw [if_pos y1]
    have qi : b i = q := by rw [← y1, bq]
    have e3 : h i = i + 1 := by rw [hh _ (by omega)]; unfold hkf; (repeat' split) <;> omega
    have l4 := B.lt (i + 1) (by omega)
    by_cases o4 : n ≤ b (i + 1)
    · rw [key 4 (end4 (by rw [e1]; exact hq) (by rw [e1]; omega) (by rw [e1, y1, e3]; omega) (by rw [e1, y1, e3]; exact o4))]
      show n + (b (h (b (h (n + q)))) - n) = _
      rw [e1, y1, e3]
      omega
    · have z1 : b (i + 1) ≠ i := fun z => by rw [z] at bi1; omega
      have e5 : h (b (i + 1)) = n + b (i + 1) := by rw [hh _ (by omega)]; unfold hkf; (repeat' split) <;> omega
      rw [key 5 (end5 (by rw [e1]; exact hq) (by rw [e1]; omega) (by rw [e1, y1, e3]; omega) (by rw [e1, y1, e3]; omega) (by rw [e1, y1, e3, e5]; omega))]
      show h (b (h (b (h (n + q))))) - n = _
      rw [e1, y1, e3, e5]
      omega
  rw [if_neg y1]
  by_cases y2 : b q = i + 1
  · rw [if_pos y2]
    have qi : b (i + 1) = q := by rw [← y2, bq]
    have e3 : h (i + 1) = i := by rw [hh _ (by omega)]; unfold hkf; (repeat' split) <;> omega
    have l4 := B.lt i (by omega)
    by_cases o4 : n ≤ b i
    · rw [key 4 (end4 (by rw [e1]; exact hq) (by rw [e1]; omega) (by rw [e1, y2, e3]; omega) (by rw [e1, y2, e3]; exact o4))]
      show n + (b (h (b (h (n + q)))) - n) = _
      rw [e1, y2, e3]
      omega
    · have z1 : b i ≠ i + 1 := fun z => by rw [z] at bi; omega
      have e5 : h (b i) = n + b i := by rw [hh _ (by omega)]; unfold hkf; (repeat' split) <;> omega
      rw [key 5 (end5 (by rw [e1]; exact hq) (by rw [e1]; omega) (by rw [e1, y2, e3]; omega) (by rw [e1, y2, e3]; omega) (by rw [e1, y2, e3, e5]; omega))]
      show h (b (h (b (h (n + q))))) - n = _
      rw [e1, y2, e3, e5]
      omega
  rw [if_neg y2]
  have e3 : h (b q) = n + b q := by rw [hh _ (by omega)]; unfold hkf; (repeat' split) <;> omega
  rw [key 3 (end3 (by rw [e1]; exact hq) (by rw [e1]; omega) (by rw [e1, e3]; omega))]
  show h (b (h (n + q))) - n = _
  rw [e1, e3]
  omega
theorem hk_low {q : Nat} (hq : n ≤ q) (hq2 : q < n + k) : we h b n n q = hkc i b q := by
  have hq' : ¬ q < n := by omega
  have E' := (wk_ok H B (k1 := n) (k2 := k) hq2).2
  have es : ss n n q = q := by unfold ss; rw [if_neg hq']; omega
  have ec : sc h b n q = b := by unfold sc; rw [if_neg hq']
  have ed : sd h b n q = h := by unfold sd; rw [if_neg hq']
  have key : ∀ f, EndOf b h n q f → we h b n n q = if f % 2 = 0 then orb b h q f - n else n + (orb b h q f - n) := fun f E => by
    have e := we_of (a := h) (b := b) (k1 := n) (q := q) (n := n) (f := f) (by rw [ec, ed, es]; exact E) E'
    rw [ec, ed, es] at e
    rw [e]
    by_cases z : f % 2 = 0
    · rw [if_pos ((onA_f hq').mpr (by omega)), if_pos z]
    · rw [if_neg (fun y => (onA_f hq').mp y (by omega)), if_neg z]
  have bi := B.inv i (by omega)
  have bi1 := B.inv (i + 1) (by omega)
  have nei := B.ne i (by omega)
  have nei1 := B.ne (i + 1) (by omega)
  have bq := B.inv q (by omega)
  have l1 := B.lt q (by omega)
  have c0 : hkc i b q = if b q = i then b (i + 1) else if b q = i + 1 then b i else b q := by unfold hkc; rw [if_neg (by omega), if_neg (by omega)]
  rw [c0]
  by_cases o1 : n ≤ b q
  · rw [key 1 (end1 o1)]
    show n + (b q - n) = _
    rw [if_neg (by omega), if_neg (by omega)]
    omega
  by_cases y1 : b q = i
  · rw [if_pos y1]
    have qi : b i = q := by rw [← y1, bq]
    have e3 : h i = i + 1 := by rw [hh _ (by omega)]; unfold hkf; (repeat' split) <;> omega
    have l4 := B.lt (i + 1) (by omega)
    by_cases o4 : n ≤ b (i + 1)
    · rw [key 3 (end3 (by omega) (by rw [y1, e3]; omega) (by rw [y1, e3]; exact o4))]
      show n + (b (h (b q)) - n) = _
      rw [y1, e3]
      omega
    · have z1 : b (i + 1) ≠ i := fun z => by rw [z] at bi1; omega
      have e5 : h (b (i + 1)) = n + b (i + 1) := by rw [hh _ (by omega)]; unfold hkf; (repeat' split) <;> omega
      rw [key 4 (end4 (by omega) (by rw [y1, e3]; omega) (by rw [y1, e3]; omega) (by rw [y1, e3, e5]; omega))]
      show h (b (h (b q))) - n = _
      rw [y1, e3, e5]
      omega
  rw [if_neg y1]
  by_cases y2 : b q = i + 1
  · rw [if_pos y2]
    have qi : b (i + 1) = q := by rw [← y2, bq]
    have e3 : h (i + 1) = i := by rw [hh _ (by omega)]; unfold hkf; (repeat' split) <;> omega
    have l4 := B.lt i (by omega)
    by_cases o4 : n ≤ b i
    · rw [key 3 (end3 (by omega) (by rw [y2, e3]; omega) (by rw [y2, e3]; exact o4))]
      show n + (b (h (b q)) - n) = _
      rw [y2, e3]
      omega
    · have z1 : b i ≠ i + 1 := fun z => by rw [z] at bi; omega
      have e5 : h (b i) = n + b i := by rw [hh _ (by omega)]; unfold hkf; (repeat' split) <;> omega
      rw [key 4 (end4 (by omega) (by rw [y2, e3]; omega) (by rw [y2, e3]; omega) (by rw [y2, e3, e5]; omega))]
      show h (b (h (b q))) - n = _
      rw [y2, e3, e5]
      omega
  rw [if_neg y2]
  have e3 : h (b q) = n + b q := by rw [hh _ (by omega)]; unfold hkf; (repeat' split) <;> omega
  rw [key 2 (end2 (by omega) (by rw [e3]; omega))]
  show h (b q) - n = _
  rw [e3]
  omega
end
/-- between, round about -/
def btw (x y z : Nat) : Prop := (x < z ∧ z < y) ∨ (y < z ∧ z < x)
theorem nc3 {n m : Nat} {a : List Nat} (M : Mat n m a) (i j : Nat) (hi : i < n + m) (hj : j < n + m) : ¬ (rp n m i < rp n m j ∧ rp n m j < rp n m (g a i) ∧ rp n m (g a i) < rp n m (g a j)) := fun ⟨x, y, z⟩ => M.nc i j hi hj x y z
theorem nc_btw {n m : Nat} {a : List Nat} (M : Mat n m a) {p q : Nat} (hp : p < n + m) (hq : q < n + m) (h1 : q ≠ p) (h2 : q ≠ g a p) : btw (rp n m p) (rp n m (g a p)) (rp n m q) → btw (rp n m p) (rp n m (g a p)) (rp n m (g a q)) := by
  have lp := M.lt p hp
  have lq := M.lt q hq
  have ip := M.inv p hp
  have iq := M.inv q hq
  have n1 : rp n m (g a q) ≠ rp n m p := fun e => h2 (by rw [← rp_inj lq hp e, iq])
  have n2 : rp n m (g a q) ≠ rp n m (g a p) := fun e => h1 (by
    have := rp_inj lq lp e
    rw [← iq, this, ip])
  have A := nc3 M p q hp hq
  have B := nc3 M q p hq hp
  have C := nc3 M (g a p) q lp hq
  have D := nc3 M q (g a p) hq lp
  have E := nc3 M p (g a q) hp lq
  have F := nc3 M (g a q) p lq hp
  have G := nc3 M (g a p) (g a q) lp lq
  have K := nc3 M (g a q) (g a p) lq lp
  rw [ip] at C D G K
  rw [iq] at E F G K
  unfold btw
  omega
theorem hk_mat {n i k : Nat} {b : List Nat} (hi : i + 1 < n) (M : Mat n k b) (c : List Nat) (hl : c.length = n + k) (hc : ∀ p, p < n + k → g c p = hkc i (g b) p) : Mat n k c := by
  have bi := M.inv i (by omega)
  have bi1 := M.inv (i + 1) (by omega)
  have li := M.lt i (by omega)
  have li1 := M.lt (i + 1) (by omega)
  have nei := M.ne i (by omega)
  have nei1 := M.ne (i + 1) (by omega)
  -- the cases of an item
  have cs : ∀ p, p < n + k → (p = i ∧ g c p = i + 1) ∨ (p = i + 1 ∧ g c p = i) ∨ (p ≠ i ∧ p ≠ i + 1 ∧ p = g b i ∧ g b p = i ∧ g c p = g b (i + 1)) ∨ (p ≠ i ∧ p ≠ i + 1 ∧ p = g b (i + 1) ∧ g b p = i + 1 ∧ g c p = g b i) ∨ (p ≠ i ∧ p ≠ i + 1 ∧ g b p ≠ i ∧ g b p ≠ i + 1 ∧ g c p = g b p) := by
    intro p hp
    have ip := M.inv p hp
    rw [hc p hp]
    unfold hkc
    by_cases h1 : p = i
    · exact .inl ⟨h1, if_pos h1⟩
    by_cases h2 : p = i + 1
    · exact .inr (.inl ⟨h2, by rw [if_neg h1, if_pos h2]⟩)
    by_cases h3 : g b p = i
    · exact .inr (.inr (.inl ⟨h1, h2, by rw [← h3, ip], h3, by rw [if_neg h1, if_neg h2, if_pos h3]⟩))
    by_cases h4 : g b p = i + 1
    · exact .inr (.inr (.inr (.inl ⟨h1, h2, by rw [← h4, ip], h4, by rw [if_neg h1, if_neg h2, if_neg h3, if_pos h4]⟩)))
    · exact .inr (.inr (.inr (.inr ⟨h1, h2, h3, h4, by rw [if_neg h1, if_neg h2, if_neg h3, if_neg h4]⟩)))
  have lt : ∀ p, p < n + k → g c p < n + k := by
    intro p hp
    have lp := M.lt p hp
    rcases cs p hp with h | h | h | h | h <;> omega
  have ne : ∀ p, p < n + k → g c p ≠ p := by
    intro p hp
    have np := M.ne p hp
    rcases cs p hp with ⟨h1, h2⟩ | ⟨h1, h2⟩ | ⟨h1, h2, h3, h4, h5⟩ | ⟨h1, h2, h3, h4, h5⟩ | ⟨h1, h2, h3, h4, h5⟩
    · omega
    · omega
    · rw [h5]; intro e
      have e2 : g b p = i + 1 := by rw [← e, bi1]
      omega
    · rw [h5]; intro e
      have e2 : g b p = i := by rw [← e, bi]
      omega
    · omega
  have inv : ∀ p, p < n + k → g c (g c p) = p := by
    intro p hp
    have ip := M.inv p hp
    have lp := M.lt p hp
    rcases cs p hp with ⟨h1, h2⟩ | ⟨h1, h2⟩ | ⟨h1, h2, h3, h4, h5⟩ | ⟨h1, h2, h3, h4, h5⟩ | ⟨h1, h2, h3, h4, h5⟩
    · rw [h2, hc _ (by omega)]; unfold hkc; rw [if_neg (by omega), if_pos rfl, h1]
    · rw [h2, hc _ (by omega)]; unfold hkc; rw [if_pos rfl, h1]
    · rw [h5, hc _ li1]; unfold hkc
      rw [if_neg (fun e => by rw [e] at bi1; omega), if_neg nei1, if_neg (by omega), if_pos bi1, h3]
    · rw [h5, hc _ li]; unfold hkc
      rw [if_neg nei, if_neg (fun e => by rw [e] at bi; omega), if_pos bi, h3]
    · rw [h5, hc _ lp]; unfold hkc
      rw [if_neg h3, if_neg h4, if_neg (by omega), if_neg (by omega), ip]
  refine ⟨hl, M.some_, lt, ne, inv, fun p q hp hq => ?_⟩
  have pi : rp n k i = i := by unfold rp; rw [if_pos (by omega)]
  have pi1 : rp n k (i + 1) = i + 1 := by unfold rp; rw [if_pos (by omega)]
  have lcp := lt p hp
  have lcq := lt q hq
  have lbp := M.lt p hp
  have lbq := M.lt q hq
  -- the places differ
  have inj := fun x y (hx : x < n + k) (hy : y < n + k) (e : rp n k x = rp n k y) => rp_inj hx hy e
  rcases cs p hp with ⟨h1, h2⟩ | ⟨h1, h2⟩ | ⟨h1, h2, h3, h4, h5⟩ | ⟨h1, h2, h3, h4, h5⟩ | ⟨h1, h2, h3, h4, h5⟩
  · rw [h2, h1, pi, pi1]; omega
  · rw [h2, h1, pi, pi1]; omega
  · rcases cs q hq with ⟨k1, k2⟩ | ⟨k1, k2⟩ | ⟨k1, k2, k3, k4, k5⟩ | ⟨k1, k2, k3, k4, k5⟩ | ⟨k1, k2, k3, k4, k5⟩
    · rw [k2, k1, pi, pi1]; omega
    · rw [k2, k1, pi, pi1]; omega
    · rw [h3, k3]; omega
    · rw [h5, k5, ← k3, ← h3]; omega
    · -- p with i + 1's mate; q untouched
      rw [h5, k5]
      have q1 : q ≠ p := fun e => by rw [e, h4] at k3; exact k3 rfl
      have q2 : q ≠ g b (i + 1) := fun e => by rw [e, bi1] at k4; exact k4 rfl
      have t1 := nc_btw M hp hq q1 (by rw [h4]; omega)
      have t2 := nc_btw M hp lbq (fun e => by have := M.inv q hq; rw [e, h4] at this; omega) (by rw [h4]; exact k3)
      have t3 := nc_btw M (show i + 1 < n + k by omega) hq (by omega) q2
      have t4 := nc_btw M (show i + 1 < n + k by omega) lbq k4 (fun e => by have := M.inv q hq; rw [e, bi1] at this; omega)
      rw [M.inv q hq] at t2 t4
      rw [h4, pi] at t1 t2
      rw [pi1] at t3 t4
      have d1 : rp n k q ≠ i := fun e => k1 (inj q i hq (by omega) (by rw [e, pi]))
      have d2 : rp n k q ≠ i + 1 := fun e => k2 (inj q (i + 1) hq (by omega) (by rw [e, pi1]))
      have d3 : rp n k (g b q) ≠ i := fun e => k3 (inj _ i lbq (by omega) (by rw [e, pi]))
      have d4 : rp n k (g b q) ≠ i + 1 := fun e => k4 (inj _ (i + 1) lbq (by omega) (by rw [e, pi1]))
      unfold btw at t1 t2 t3 t4
      omega
  · rcases cs q hq with ⟨k1, k2⟩ | ⟨k1, k2⟩ | ⟨k1, k2, k3, k4, k5⟩ | ⟨k1, k2, k3, k4, k5⟩ | ⟨k1, k2, k3, k4, k5⟩
    · rw [k2, k1, pi, pi1]; omega
    · rw [k2, k1, pi, pi1]; omega
    · rw [h5, k5, ← k3, ← h3]; omega
    · rw [h3, k3]; omega
    · rw [h5, k5]
      have q1 : q ≠ p := fun e => by rw [e, h4] at k4; exact k4 rfl
      have q2 : q ≠ g b i := fun e => by rw [e, bi] at k3; exact k3 rfl
      have t1 := nc_btw M hp hq q1 (by rw [h4]; omega)
      have t2 := nc_btw M hp lbq (fun e => by have := M.inv q hq; rw [e, h4] at this; omega) (by rw [h4]; exact k4)
      have t3 := nc_btw M (show i < n + k by omega) hq (by omega) q2
      have t4 := nc_btw M (show i < n + k by omega) lbq k3 (fun e => by have := M.inv q hq; rw [e, bi] at this; omega)
      rw [M.inv q hq] at t2 t4
      rw [h4, pi1] at t1 t2
      rw [pi] at t3 t4
      have d1 : rp n k q ≠ i := fun e => k1 (inj q i hq (by omega) (by rw [e, pi]))
      have d2 : rp n k q ≠ i + 1 := fun e => k2 (inj q (i + 1) hq (by omega) (by rw [e, pi1]))
      have d3 : rp n k (g b q) ≠ i := fun e => k3 (inj _ i lbq (by omega) (by rw [e, pi]))
      have d4 : rp n k (g b q) ≠ i + 1 := fun e => k4 (inj _ (i + 1) lbq (by omega) (by rw [e, pi1]))
      unfold btw at t1 t2 t3 t4
      omega
  · rcases cs q hq with ⟨k1, k2⟩ | ⟨k1, k2⟩ | ⟨k1, k2, k3, k4, k5⟩ | ⟨k1, k2, k3, k4, k5⟩ | ⟨k1, k2, k3, k4, k5⟩
    · rw [k2, k1, pi, pi1]; omega
    · rw [k2, k1, pi, pi1]; omega
    · -- q = b i, its new mate b (i + 1); p untouched
      rw [h5, k5]
      have q1 : p ≠ q := fun e => by rw [e, k4] at h3; exact h3 rfl
      have q2 : p ≠ g b (i + 1) := fun e => by rw [e, bi1] at h4; exact h4 rfl
      have t1 := nc_btw M hq hp q1 (by rw [k4]; omega)
      have t2 := nc_btw M hq lbp (fun e => by have := M.inv p hp; rw [e, k4] at this; omega) (by rw [k4]; exact h3)
      have t3 := nc_btw M (show i + 1 < n + k by omega) hp (by omega) q2
      have t4 := nc_btw M (show i + 1 < n + k by omega) lbp h4 (fun e => by have := M.inv p hp; rw [e, bi1] at this; omega)
      rw [M.inv p hp] at t2 t4
      rw [k4, pi] at t1 t2
      rw [pi1] at t3 t4
      have d1 : rp n k p ≠ i := fun e => h1 (inj p i hp (by omega) (by rw [e, pi]))
      have d2 : rp n k p ≠ i + 1 := fun e => h2 (inj p (i + 1) hp (by omega) (by rw [e, pi1]))
      have d3 : rp n k (g b p) ≠ i := fun e => h3 (inj _ i lbp (by omega) (by rw [e, pi]))
      have d4 : rp n k (g b p) ≠ i + 1 := fun e => h4 (inj _ (i + 1) lbp (by omega) (by rw [e, pi1]))
      unfold btw at t1 t2 t3 t4
      omega
    · rw [h5, k5]
      have q1 : p ≠ q := fun e => by rw [e, k4] at h4; exact h4 rfl
      have q2 : p ≠ g b i := fun e => by rw [e, bi] at h3; exact h3 rfl
      have t1 := nc_btw M hq hp q1 (by rw [k4]; omega)
      have t2 := nc_btw M hq lbp (fun e => by have := M.inv p hp; rw [e, k4] at this; omega) (by rw [k4]; exact h4)
      have t3 := nc_btw M (show i < n + k by omega) hp (by omega) q2
      have t4 := nc_btw M (show i < n + k by omega) lbp h3 (fun e => by have := M.inv p hp; rw [e, bi] at this; omega)
      rw [M.inv p hp] at t2 t4
      rw [k4, pi1] at t1 t2
      rw [pi] at t3 t4
      have d1 : rp n k p ≠ i := fun e => h1 (inj p i hp (by omega) (by rw [e, pi]))
      have d2 : rp n k p ≠ i + 1 := fun e => h2 (inj p (i + 1) hp (by omega) (by rw [e, pi1]))
      have d3 : rp n k (g b p) ≠ i := fun e => h3 (inj _ i lbp (by omega) (by rw [e, pi]))
      have d4 : rp n k (g b p) ≠ i + 1 := fun e => h4 (inj _ (i + 1) lbp (by omega) (by rw [e, pi1]))
      unfold btw at t1 t2 t3 t4
      omega
    · rw [h5, k5]
      exact M.nc p q hp hq
/-- a hook put ahead of a mat gives a mat -/
theorem hk_put {n i k : Nat} {b : List Nat} (hi : i + 1 < n) (M : Mat n k b) : Mat n k (putM (g (hkL n i)) (g b) n n k) := by
  refine hk_mat hi M _ putM_len fun p hp => ?_
  unfold putM
  rw [g_map hp]
  by_cases h : p < n
  · exact hk_top hi (hk_inv hi) (fun x hx => hkL_g hi hx) M.inv_ h
  · exact hk_low hi (hk_inv hi) (fun x hx => hkL_g hi hx) M.inv_ (by omega) hp
end Ma
namespace Ma
/-! ### building a mat place by place -/
structure Bld (p : Nat) (w : List Nat) (f : Nat → Nat) : Prop where
  srt : w.Pairwise (· < ·)
  lt : ∀ x ∈ w, x < p
  m1 : ∀ q, q < p → q ∉ w → f q < p ∧ f q ∉ w ∧ f q ≠ q ∧ f (f q) = q
  e : ∀ q x, q < p → q ∉ w → x ∈ w → q < x → x < f q → False
  nc : ∀ q r, q < p → q ∉ w → r < p → r ∉ w → q < r → r < f q → f q < f r → False
theorem Bld.start (f : Nat → Nat) : Bld 0 [] f := ⟨.nil, by simp, fun q h => by omega, fun q x h => by omega, fun q r h => by omega⟩
theorem Bld.push {p : Nat} {w : List Nat} {f : Nat → Nat} (B : Bld p w f) : Bld (p + 1) (w ++ [p]) f := by
  have hm : ∀ {q}, q < p + 1 → q ∉ w ++ [p] → q < p ∧ q ∉ w := fun h1 h2 => by
    rw [List.mem_append, List.mem_singleton] at h2
    have : ¬ _ = p := fun e => h2 (.inr e)
    exact ⟨by omega, fun e => h2 (.inl e)⟩
  refine ⟨?_, fun x hx => ?_, fun q h1 h2 => ?_, fun q x h1 h2 h3 => ?_, fun q r h1 h2 h3 h4 => ?_⟩
  · exact List.pairwise_append.mpr ⟨B.srt, List.pairwise_singleton _ _, fun x hx y hy => by
      rw [List.mem_singleton.mp hy]; exact B.lt x hx⟩
  · rcases List.mem_append.mp hx with h | h
    · have := B.lt x h; omega
    · have := List.mem_singleton.mp h; omega
  · obtain ⟨a, b⟩ := hm h1 h2
    obtain ⟨c1, c2, c3, c4⟩ := B.m1 q a b
    refine ⟨by omega, fun z => ?_, c3, c4⟩
    rcases List.mem_append.mp z with h | h
    · exact c2 h
    · have := List.mem_singleton.mp h; omega
  · obtain ⟨a, b⟩ := hm h1 h2
    rcases List.mem_append.mp h3 with h | h
    · exact B.e q x a b h
    · have := List.mem_singleton.mp h
      have := (B.m1 q a b).1
      omega
  · obtain ⟨a, b⟩ := hm h1 h2
    obtain ⟨c, d⟩ := hm h3 h4
    exact B.nc q r a b c d
theorem Bld.pop {p t : Nat} {w : List Nat} {f f' : Nat → Nat} (B : Bld p (w ++ [t]) f) (h1 : f' t = p) (h2 : f' p = t) (h3 : ∀ q, q < p → q ≠ t → f' q = f q) : Bld (p + 1) w f' := by
  obtain ⟨s1, s2, s3⟩ := List.pairwise_append.mp B.srt
  have tp := B.lt t (by simp)
  have wt : ∀ x ∈ w, x < t := fun x hx => s3 x hx t (by simp)
  have nt : ∀ {q}, q ∉ w → q ≠ t → q ∉ w ++ [t] := fun a b z => by
    rcases List.mem_append.mp z with h | h
    · exact a h
    · exact b (List.mem_singleton.mp h)
  -- three kinds
  have kd : ∀ q, q < p + 1 → q ∉ w → (q = p ∧ f' q = t) ∨ (q = t ∧ f' q = p) ∨ (q < p ∧ q ≠ t ∧ q ∉ w ++ [t] ∧ f' q = f q ∧ f q < p ∧ f q ≠ t ∧ f q ∉ w ∧ f q ≠ q ∧ f (f q) = q) := by
    intro q a b
    by_cases e1 : q = p
    · exact .inl ⟨e1, by rw [e1, h2]⟩
    by_cases e2 : q = t
    · exact .inr (.inl ⟨e2, by rw [e2, h1]⟩)
    · have n := nt b e2
      obtain ⟨c1, c2, c3, c4⟩ := B.m1 q (by omega) n
      refine .inr (.inr ⟨by omega, e2, n, h3 q (by omega) e2, c1, fun z => c2 (by rw [z]; simp), fun z => c2 (by simp [z]), c3, c4⟩)
  refine ⟨s1, fun x hx => by have := wt x hx; omega, fun q a b => ?_, fun q x a b hx l1 l2 => ?_, fun q r a b c d l1 l2 l3 => ?_⟩
  · rcases kd q a b with ⟨k1, k2⟩ | ⟨k1, k2⟩ | ⟨k1, k2, k3, k4, k5, k6, k7, k8, k9⟩
    · rw [k2, h1]
      exact ⟨by omega, fun z => by have := wt t z; omega, by omega, k1.symm⟩
    · rw [k2, h2]
      exact ⟨by omega, fun z => by have := wt p z; omega, by omega, k1.symm⟩
    · rw [k4]
      exact ⟨by omega, k7, k8, by rw [h3 _ k5 k6, k9]⟩
  · have lx := wt x hx
    rcases kd q a b with ⟨k1, k2⟩ | ⟨k1, k2⟩ | ⟨k1, k2, k3, k4, k5, k6, k7, k8, k9⟩
    · omega
    · omega
    · rw [k4] at l2
      exact B.e q x k1 k3 (by simp [hx]) l1 l2
  · rcases kd q a b with ⟨k1, k2⟩ | ⟨k1, k2⟩ | ⟨k1, k2, k3, k4, k5, k6, k7, k8, k9⟩
    · omega
    · -- q = t, f' q = p: r between t and p, beyond p
      rcases kd r c d with ⟨j1, j2⟩ | ⟨j1, j2⟩ | ⟨j1, j2, j3, j4, j5, _⟩
      · omega
      · omega
      · omega
    · rw [k4] at l2 l3
      rcases kd r c d with ⟨j1, j2⟩ | ⟨j1, j2⟩ | ⟨j1, j2, j3, j4, _⟩
      · omega
      · exact B.e q t k1 k3 (by simp) (by omega) (by omega)
      · rw [j4] at l3
        exact B.nc q r k1 k3 j1 j3 l1 l2 l3
/-- all places gone -/
theorem mat_final {n m : Nat} {f : Nat → Nat} {a : List Nat} (B : Bld (n + m) [] f) (h0 : 0 < n + m) (hl : a.length = n + m) (h : ∀ q, q < n + m → g a (rp n m q) = rp n m (f q)) : Mat n m a := by
  have h' : ∀ i, i < n + m → g a i = rp n m (f (rp n m i)) := fun i hi => by
    have := h (rp n m i) (rp_lt hi)
    rwa [rp_rp hi] at this
  have b1 := fun i (hi : i < n + m) => B.m1 (rp n m i) (rp_lt hi) (by simp)
  refine ⟨hl, h0, fun i hi => ?_, fun i hi e => ?_, fun i hi => ?_, fun i j hi hj l1 l2 l3 => ?_⟩
  · rw [h' i hi]; exact rp_lt (b1 i hi).1
  · rw [h' i hi] at e
    have := congrArg (rp n m) e
    rw [rp_rp (b1 i hi).1] at this
    exact (b1 i hi).2.2.1 this
  · rw [h' i hi, h _ (b1 i hi).1, (b1 i hi).2.2.2, rp_rp hi]
  · rw [h' i hi, rp_rp (b1 i hi).1] at l2 l3
    rw [h' j hj, rp_rp (b1 j hj).1] at l3
    exact B.nc _ _ (rp_lt hi) (by simp) (rp_lt hj) (by simp) l1 l2 l3
/-- those that wait go through -/
theorem half_final {n k : Nat} {w : List Nat} {f : Nat → Nat} {a : List Nat} (B : Bld n w f) (hw : w.length = k) (h0 : 0 < n) (hl : a.length = n + k) (h1 : ∀ q, q < n → q ∉ w → g a q = f q) (h2 : ∀ b, b < k → g a (g w b) = n + b) (h3 : ∀ b, b < k → g a (n + b) = g w b) : Half n k a := by
  have wm : ∀ b, b < k → g w b ∈ w := fun b hb => List.mem_of_getElem? (g_get (by omega))
  have wl : ∀ b, b < k → g w b < n := fun b hb => B.lt _ (wm b hb)
  have wi : ∀ x ∈ w, ∃ b, b < k ∧ g w b = x := fun x hx => by
    obtain ⟨b, hb, e⟩ := List.mem_iff_getElem.mp hx
    exact ⟨b, by omega, by simp [g, List.getD_eq_getElem?_getD, hb, e]⟩
  have ws : ∀ b c, b < c → c < k → g w b < g w c := fun b c hb hc => by
    have := List.pairwise_iff_getElem.mp B.srt b c (by omega) (by omega) hb
    simpa [g, List.getD_eq_getElem?_getD, show b < w.length by omega, show c < w.length by omega] using this
  -- an item: matched above, waiting, below
  have cs : ∀ i, i < n + k → (i < n ∧ i ∉ w ∧ g a i = f i ∧ f i < n ∧ f i ∉ w ∧ f i ≠ i ∧ f (f i) = i) ∨ (∃ b, b < k ∧ i = g w b ∧ g w b < n ∧ g a i = n + b) ∨ (∃ b, b < k ∧ i = n + b ∧ g w b < n ∧ g a i = g w b) := by
    intro i hi
    by_cases l : i < n
    · by_cases m : i ∈ w
      · obtain ⟨b, hb, e⟩ := wi i m
        exact .inr (.inl ⟨b, hb, e.symm, wl b hb, by rw [← e, h2 b hb]⟩)
      · obtain ⟨c1, c2, c3, c4⟩ := B.m1 i l m
        exact .inl ⟨l, m, h1 i l m, c1, c2, c3, c4⟩
    · refine .inr (.inr ⟨i - n, by omega, by omega, wl _ (by omega), ?_⟩)
      have := h3 (i - n) (by omega)
      rwa [show n + (i - n) = i by omega] at this
  have M : Mat n k a := by
    refine ⟨hl, by omega, fun i hi => ?_, fun i hi => ?_, fun i hi => ?_, fun i j hi hj => ?_⟩
    · rcases cs i hi with ⟨c1, c2, c3, c4, _⟩ | ⟨b, c1, c2, c3, c4⟩ | ⟨b, c1, c2, c3, c4⟩ <;> omega
    · rcases cs i hi with ⟨c1, c2, c3, c4, c5, c6, c7⟩ | ⟨b, c1, c2, c3, c4⟩ | ⟨b, c1, c2, c3, c4⟩ <;> omega
    · rcases cs i hi with ⟨c1, c2, c3, c4, c5, c6, c7⟩ | ⟨b, c1, c2, c3, c4⟩ | ⟨b, c1, c2, c3, c4⟩
      · rw [c3, h1 _ c4 c5, c7]
      · rw [c4, h3 b c1, c2]
      · rw [c4, h2 b c1, c2]
    · have up : ∀ x, x < n → rp n k x = x := fun x hx => by unfold rp; rw [if_pos hx]
      have dn : ∀ b, b < k → rp n k (n + b) = n + k - 1 - b := fun b hb => by unfold rp; rw [if_neg (by omega)]; omega
      rcases cs i hi with ⟨c1, c2, c3, c4, c5, c6, c7⟩ | ⟨b, c1, c2, c3, c4⟩ | ⟨b, c1, c2, c3, c4⟩
      · rw [c3, up i c1, up _ c4]
        rcases cs j hj with ⟨d1, d2, d3, d4, d5, d6, d7⟩ | ⟨c, d1, d2, d3, d4⟩ | ⟨c, d1, d2, d3, d4⟩
        · rw [d3, up j d1, up _ d4]
          exact B.nc i j c1 c2 d1 d2
        · rw [d4, up j (by omega), dn c d1]
          intro l1 l2 _
          exact B.e i j c1 c2 (by rw [d2]; exact wm c d1) l1 l2
        · rw [d4, d2, up _ d3, dn c d1]
          omega
      · rw [c4, dn b c1, up i (by omega)]
        rcases cs j hj with ⟨d1, d2, d3, d4, d5, d6, d7⟩ | ⟨c, d1, d2, d3, d4⟩ | ⟨c, d1, d2, d3, d4⟩
        · rw [d3, up j d1, up _ d4]; omega
        · rw [d4, up j (by omega), dn c d1]
          intro l1 l2 l3
          have : c < b := by omega
          have := ws c b this c1
          omega
        · rw [d4, d2, up _ d3, dn c d1]; omega
      · rw [c4, c2, dn b c1, up _ c3]
        omega
  refine ⟨M, ?_⟩
  rw [thr_cnt (by omega)]
  unfold Ma.cnt
  have : (List.range n).filter (fun x => decide (n ≤ g a x)) = w := by
    refine srt_ext ((srt_range n).filter _) B.srt fun x => ?_
    rw [List.mem_filter, List.mem_range, decide_eq_true_eq]
    constructor
    · rintro ⟨l1, l2⟩
      rcases cs x (by omega) with ⟨c1, c2, c3, c4, _⟩ | ⟨b, c1, c2, c3, c4⟩ | ⟨b, c1, c2, c3, c4⟩
      · omega
      · rw [c2]; exact wm b c1
      · omega
    · intro hx
      obtain ⟨b, hb, e⟩ := wi x hx
      rw [← e, h2 b hb]
      exact ⟨wl b hb, by omega⟩
  rw [this, hw]

/-! ### the upper half -/
def lowL (n : Nat) (a : List Nat) : List Nat := (List.range n).filter fun x => decide (n ≤ g a x)
theorem upper_bld {n m : Nat} {a : List Nat} (M : Mat n m a) : Bld n (lowL n a) (g a) := by
  have mem : ∀ x, x ∈ lowL n a ↔ x < n ∧ n ≤ g a x := fun x => by unfold lowL; rw [List.mem_filter, List.mem_range, decide_eq_true_eq]
  have up : ∀ x, x < n → rp n m x = x := fun x hx => by unfold rp; rw [if_pos hx]
  have nm : ∀ {q}, q < n → q ∉ lowL n a → g a q < n := fun h1 h2 => by
    apply Classical.byContradiction
    intro z
    exact h2 ((mem _).mpr ⟨h1, by omega⟩)
  refine ⟨(srt_range n).filter _, fun x hx => ((mem x).mp hx).1, fun q h1 h2 => ?_, fun q x h1 h2 h3 l1 l2 => ?_, fun q r h1 h2 h3 h4 l1 l2 l3 => ?_⟩
  · have h3 := nm h1 h2
    have iv := M.inv q (by omega)
    exact ⟨h3, fun z => by have := ((mem _).mp z).2; omega, M.ne q (by omega), iv⟩
  · have h4 := nm h1 h2
    obtain ⟨h5, h6⟩ := (mem x).mp h3
    refine M.nc q x (by omega) (by omega) (by rw [up q h1, up x h5]; exact l1) (by rw [up x h5, up _ h4]; exact l2) ?_
    rw [up _ h4]
    have := M.lt x (by omega)
    unfold rp
    rw [if_neg (by omega)]
    omega
  · have h5 := nm h1 h2
    have h6 := nm h3 h4
    exact M.nc q r (by omega) (by omega) (by rw [up q h1, up r h3]; exact l1) (by rw [up r h3, up _ h5]; exact l2) (by rw [up _ h5, up _ h6]; exact l3)
/-- the row of an upper half: behind i turns -/
def upRow (n : Nat) (a : List Nat) : Nat → List Nat × List Nat
  | 0 => (a.take n, [])
  | i + 1 => if n ≤ g a i then ((upRow n a i).1.set i (n + (upRow n a i).2.length), (upRow n a i).2 ++ [i]) else upRow n a i
def upL (n : Nat) (a : List Nat) : List Nat := (upRow n a n).1 ++ (upRow n a n).2
theorem upRow_ok {n : Nat} {a : List Nat} (h : n ≤ a.length) : ∀ i, i ≤ n → (upRow n a i).2 = (List.range i).filter (fun x => decide (n ≤ g a x)) ∧ (upRow n a i).1.length = n ∧ (∀ q, q < n → ¬ (q < i ∧ n ≤ g a q) → g (upRow n a i).1 q = g a q) ∧ (∀ b, b < (upRow n a i).2.length → g (upRow n a i).1 (g (upRow n a i).2 b) = n + b)
  | 0, _ => by
    refine ⟨rfl, by show (a.take n).length = n; simp; omega, fun q hq _ => ?_, fun b hb => absurd hb (by show ¬ b < 0; omega)⟩
    show g (a.take n) q = g a q
    rw [take_map n a h, g_map hq]
  | i + 1, hi => by
    obtain ⟨e1, e2, e3, e4⟩ := upRow_ok h i (by omega)
    by_cases z : n ≤ g a i
    · have u : upRow n a (i + 1) = ((upRow n a i).1.set i (n + (upRow n a i).2.length), (upRow n a i).2 ++ [i]) := if_pos z
      rw [u]
      refine ⟨?_, by simpa using e2, fun q hq hn => ?_, fun b hb => ?_⟩
      · show (upRow n a i).2 ++ [i] = _
        have ef : List.filter (fun x => decide (n ≤ g a x)) [i] = [i] := by
          rw [List.filter_cons, if_pos (decide_eq_true z)]
          rfl
        rw [List.range_succ, List.filter_append, ← e1, ef]
      · show g ((upRow n a i).1.set i _) q = _
        have hqi : i ≠ q := fun e => hn ⟨by omega, by rw [← e]; exact z⟩
        rw [g_set (by omega), if_neg hqi]
        exact e3 q hq fun ⟨w1, w2⟩ => hn ⟨by omega, w2⟩
      · show g ((upRow n a i).1.set i _) (g ((upRow n a i).2 ++ [i]) b) = _
        have hb' : b < (upRow n a i).2.length + 1 := by simpa using hb
        by_cases y : b < (upRow n a i).2.length
        · rw [g_app1 y]
          have hm : g (upRow n a i).2 b ∈ (upRow n a i).2 := List.mem_of_getElem? (g_get y)
          have hlt : g (upRow n a i).2 b < i := by
            rw [e1] at hm
            have := (List.mem_filter.mp hm).1
            rw [← e1] at this
            exact List.mem_range.mp this
          rw [g_set (by omega), if_neg (by omega)]
          exact e4 b y
        · have : b = (upRow n a i).2.length := by omega
          subst this
          have e5 := g_app2 (l := (upRow n a i).2) (r := [i]) (i := 0)
          rw [Nat.add_zero] at e5
          rw [e5]
          show g ((upRow n a i).1.set i _) i = _
          rw [g_set (by omega), if_pos rfl]
    · have u : upRow n a (i + 1) = upRow n a i := if_neg z
      rw [u]
      refine ⟨?_, e2, fun q hq hn => e3 q hq fun ⟨w1, w2⟩ => hn ⟨by omega, w2⟩, e4⟩
      have ef : List.filter (fun x => decide (n ≤ g a x)) [i] = [] := by
        rw [List.filter_cons, if_neg (by rw [decide_eq_false z]; exact Bool.false_ne_true)]
        rfl
      rw [List.range_succ, List.filter_append, ← e1, ef, List.append_nil]
theorem upper_half {n m : Nat} {a : List Nat} (M : Mat n m a) (hn : 0 < n) : Half n (upRow n a n).2.length (upL n a) := by
  have hl := M.len
  obtain ⟨e1, e2, e3, e4⟩ := upRow_ok (n := n) (a := a) (by omega) n (Nat.le_refl _)
  have B := upper_bld M
  have ew : lowL n a = (upRow n a n).2 := e1.symm
  rw [ew] at B
  have mem : ∀ x, x ∈ (upRow n a n).2 ↔ x < n ∧ n ≤ g a x := fun x => by rw [e1, List.mem_filter, List.mem_range, decide_eq_true_eq]
  refine half_final B rfl hn (by unfold upL; rw [List.length_append, e2]) (fun q hq hw => ?_) (fun b hb => ?_) fun b hb => ?_
  · unfold upL
    rw [g_app1 (by omega)]
    exact e3 q hq fun z => hw ((mem q).mpr z)
  · unfold upL
    have := (mem _).mp (List.mem_of_getElem? (g_get hb))
    rw [g_app1 (by omega)]
    exact e4 b hb
  · unfold upL
    have := g_app2 (l := (upRow n a n).1) (r := (upRow n a n).2) (i := b)
    rw [e2] at this
    exact this

/-! ### half mats of rows of signs -/
abbrev gi (l : List Int) (i : Nat) : Int := l.getD i 0
def lastD (w : List Nat) : Nat := g w (w.length - 1)
def hstep (st : List Nat × List Nat) (p : Nat) (s : Int) : List Nat × List Nat := if 0 < s then (st.1 ++ [p], st.2) else (st.1.dropLast, (st.2.set p (lastD st.1)).set (lastD st.1) p)
def hrun (row : List Int) : Nat → List Nat × List Nat
  | 0 => ([], List.replicate row.length 0)
  | p + 1 => hstep (hrun row p) p (gi row p)
def frun (n : Nat) (w ms : List Nat) : Nat → List Nat
  | 0 => ms
  | b + 1 => (frun n w ms b).set (g w b) (n + b)
/-- w, then the list of the mates -/
def hW (row : List Int) : List Nat := (hrun row row.length).1
def hL (row : List Int) : List Nat := frun row.length (hW row) (hrun row row.length).2 (hW row).length ++ hW row
structure OkRow (n k : Nat) (row : List Int) : Prop where
  len : row.length = n
  one : ∀ i, i < n → gi row i = 1 ∨ gi row i = -1
  high : ∀ p, p ≤ n → 0 ≤ (row.take p).sum
  sum : row.sum = k
theorem take_sum {row : List Int} {p : Nat} (h : p < row.length) : (row.take (p + 1)).sum = (row.take p).sum + gi row p := by
  rw [List.take_add_one, List.sum_append]
  simp [gi, List.getD_eq_getElem?_getD, h]
theorem last_app {w : List Nat} (h : w ≠ []) : w = w.dropLast ++ [lastD w] := by
  have := List.dropLast_concat_getLast h
  have e : w.getLast h = lastD w := by
    unfold lastD g
    rw [List.getLast_eq_getElem]
    have : w.length - 1 < w.length := by have := List.length_pos_iff.mpr h; omega
    simp [List.getD_eq_getElem?_getD, this]
  rw [← e, this]
theorem hrun_ok {n k : Nat} {row : List Int} (R : OkRow n k row) : ∀ p, p ≤ n → Bld p (hrun row p).1 (g (hrun row p).2) ∧ (((hrun row p).1.length : Nat) : Int) = (row.take p).sum ∧ (hrun row p).2.length = n
  | 0, _ => ⟨.start _, rfl, by show (List.replicate row.length 0).length = n; rw [List.length_replicate, R.len]⟩
  | p + 1, h => by
    obtain ⟨B, e1, e2⟩ := hrun_ok R p (by omega)
    have ts := take_sum (row := row) (p := p) (by rw [R.len]; omega)
    have hh := R.high (p + 1) h
    rcases R.one p (by omega) with s | s
    · have u : hrun row (p + 1) = ((hrun row p).1 ++ [p], (hrun row p).2) := by
        show hstep _ _ _ = _
        unfold hstep
        rw [if_pos (by omega)]
      rw [u]
      refine ⟨B.push, ?_, e2⟩
      show ((((hrun row p).1 ++ [p]).length : Nat) : Int) = _
      rw [List.length_append, List.length_singleton, ts, ← e1, s]
      omega
    · have u : hrun row (p + 1) = ((hrun row p).1.dropLast, ((hrun row p).2.set p (lastD (hrun row p).1)).set (lastD (hrun row p).1) p) := by
        show hstep _ _ _ = _
        unfold hstep
        rw [if_neg (by omega)]
      have hw : (hrun row p).1 ≠ [] := fun z => by
        rw [z] at e1
        rw [ts, ← e1, s] at hh
        simp at hh
      have ew := last_app hw
      have lt := B.lt (lastD (hrun row p).1) (by rw [ew]; simp [lastD])
      rw [u]
      generalize ht : lastD (hrun row p).1 = t at *
      rw [ew] at B
      refine ⟨B.pop ?_ ?_ fun q hq hqt => ?_, ?_, by simpa using e2⟩
      · show g (((hrun row p).2.set p t).set t p) t = p
        rw [g_set (by simp; omega), if_pos rfl]
      · show g (((hrun row p).2.set p t).set t p) p = t
        rw [g_set (by simp; omega), if_neg (by omega), g_set (by omega), if_pos rfl]
      · show g (((hrun row p).2.set p t).set t p) q = _
        rw [g_set (by simp; omega), if_neg (fun e => hqt e.symm), g_set (by omega), if_neg (by omega)]
      · show (((hrun row p).1.dropLast.length : Nat) : Int) = _
        rw [List.length_dropLast, ts, ← e1, s]
        have := List.length_pos_iff.mpr hw
        omega
theorem frun_len {n : Nat} {w ms : List Nat} : ∀ b, (frun n w ms b).length = ms.length
  | 0 => rfl
  | b + 1 => by
    show ((frun n w ms b).set _ _).length = _
    rw [List.length_set, frun_len b]
theorem frun_ok {n : Nat} {w ms : List Nat} (hw : w.Pairwise (· < ·)) (hl : ∀ x ∈ w, x < ms.length) : ∀ b, b ≤ w.length → (∀ q, q ∉ w → g (frun n w ms b) q = g ms q) ∧ (∀ c, c < b → g (frun n w ms b) (g w c) = n + c)
  | 0, _ => ⟨fun _ _ => rfl, fun c h => by omega⟩
  | b + 1, h => by
    obtain ⟨e1, e2⟩ := frun_ok (n := n) hw hl b (by omega)
    have hm : g w b ∈ w := List.mem_of_getElem? (g_get (by omega))
    have hb : g w b < (frun n w ms b).length := by rw [frun_len]; exact hl _ hm
    refine ⟨fun q hq => ?_, fun c hc => ?_⟩
    · show g ((frun n w ms b).set _ _) q = _
      rw [g_set hb, if_neg (fun e : g w b = q => hq (e ▸ hm)), e1 q hq]
    · show g ((frun n w ms b).set _ _) _ = _
      rw [g_set hb]
      by_cases z : c = b
      · subst z; rw [if_pos rfl]
      · have : g w c < g w b := by
          have := List.pairwise_iff_getElem.mp hw c b (by omega) (by omega) (by omega)
          simpa [g, List.getD_eq_getElem?_getD, show b < w.length by omega, show c < w.length by omega] using this
        rw [if_neg (by omega), e2 c (by omega)]
theorem half_of {n k : Nat} {row : List Int} (R : OkRow n k row) (hn : 0 < n) : (hW row).length = k ∧ Half n k (hL row) := by
  obtain ⟨B, e1, e2⟩ := hrun_ok R n (Nat.le_refl _)
  have hk : (hW row).length = k := by
    unfold hW
    rw [R.len]
    have : row.take n = row := by rw [← R.len]; exact List.take_length
    rw [this, R.sum] at e1
    omega
  have ew : hW row = (hrun row n).1 := by unfold hW; rw [R.len]
  refine ⟨hk, ?_⟩
  rw [← ew] at B
  obtain ⟨f1, f2⟩ := frun_ok (n := n) (w := hW row) (ms := (hrun row n).2) B.srt (fun x hx => by rw [e2]; exact B.lt x hx) (hW row).length (Nat.le_refl _)
  have hL' : hL row = frun n (hW row) (hrun row n).2 (hW row).length ++ hW row := by unfold hL; rw [R.len]
  rw [hL']
  have l1 : (frun n (hW row) (hrun row n).2 (hW row).length).length = n := by rw [frun_len, e2]
  refine half_final B hk hn (by rw [List.length_append, l1, hk]) (fun q hq hw => ?_) (fun b hb => ?_) fun b hb => ?_
  · rw [g_app1 (by omega), f1 q hw]
  · have := B.lt _ (List.mem_of_getElem? (g_get (l := hW row) (i := b) (by omega)))
    rw [g_app1 (by omega), f2 b (by omega)]
  · have := g_app2 (l := frun n (hW row) (hrun row n).2 (hW row).length) (r := hW row) (i := b)
    rw [l1] at this
    exact this
end Ma
namespace Ma
structure OkPre (p : Nat) (row : List Int) (h : Int) : Prop where
  len : row.length = p
  one : ∀ i, i < p → gi row i = 1 ∨ gi row i = -1
  high : ∀ q, q ≤ p → 0 ≤ (row.take q).sum
  sum : row.sum = h
theorem OkPre.row {n k : Nat} {row : List Int} (R : OkPre n row k) : OkRow n k row := ⟨R.len, R.one, R.high, R.sum⟩
theorem OkPre.nil : OkPre 0 [] 0 := ⟨rfl, fun i h => by omega, fun q _ => by simp, rfl⟩
theorem OkPre.app {p : Nat} {row : List Int} {h s : Int} (R : OkPre p row h) (hs : s = 1 ∨ s = -1) (h0 : 0 ≤ h + s) : OkPre (p + 1) (row ++ [s]) (h + s) := by
  have hl := R.len
  refine ⟨by simp [hl], fun i hi => ?_, fun q hq => ?_, ?_⟩
  · by_cases z : i < p
    · have : gi (row ++ [s]) i = gi row i := by simp [gi, List.getD_eq_getElem?_getD, List.getElem?_append_left (show i < row.length by omega)]
      rw [this]; exact R.one i z
    · have e : i = row.length := by omega
      have : gi (row ++ [s]) i = s := by subst e; simp [gi, List.getD_eq_getElem?_getD]
      rw [this]; exact hs
  · by_cases z : q ≤ p
    · rw [List.take_append_of_le_length (by omega)]
      exact R.high q z
    · have : (row ++ [s]).take q = row ++ [s] := List.take_of_length_le (by simp; omega)
      rw [this, List.sum_append, R.sum]
      simpa using h0
  · rw [List.sum_append, R.sum]
    simp
/-! ### the rows of the law -/
abbrev RH := List Int × Int
def lrows : Nat → List RH
  | 0 => [([], 0)]
  | k + 1 => (lrows k).map (fun r => (r.1 ++ [1], r.2 + 1)) ++ ((lrows k).filter fun r => decide (0 < r.2)).map (fun r => (r.1 ++ [-1], r.2 - 1))
def lsigns (n : Nat) (k : Int) : List (List Int) := ((lrows n).filter fun r => decide (r.2 = k)).map (·.1)
theorem lrows_ok : ∀ n, ∀ r ∈ lrows n, OkPre n r.1 r.2
  | 0, r, h => by
    have : r = ([], 0) := by simpa [lrows] using h
    subst this
    exact .nil
  | n + 1, r, h => by
    rcases List.mem_append.mp (show r ∈ (lrows n).map (fun r => (r.1 ++ [1], r.2 + 1)) ++ ((lrows n).filter fun r => decide (0 < r.2)).map (fun r => (r.1 ++ [-1], r.2 - 1)) from h) with h | h
    · obtain ⟨s, hs, rfl⟩ := List.mem_map.mp h
      have R := lrows_ok n s hs
      have := R.high n (Nat.le_refl _)
      have e : s.1.take n = s.1 := by rw [← R.len]; exact List.take_length
      rw [e, R.sum] at this
      exact R.app (.inl rfl) (by omega)
    · obtain ⟨s, hs, rfl⟩ := List.mem_map.mp h
      obtain ⟨h1, h2⟩ := List.mem_filter.mp hs
      have h3 := of_decide_eq_true h2
      exact (lrows_ok n s h1).app (.inr rfl) (by omega)
theorem lrows_len : ∀ n, (lrows n).length ≤ 2 ^ n
  | 0 => Nat.le_refl _
  | n + 1 => by
    have := lrows_len n
    show ((lrows n).map _ ++ ((lrows n).filter _).map _).length ≤ _
    rw [List.length_append, List.length_map, List.length_map]
    have := List.length_filter_le (fun r : RH => decide (0 < r.2)) (lrows n)
    rw [Nat.pow_succ]
    omega
theorem lsigns_ok {n k : Nat} {row : List Int} (h : row ∈ lsigns n k) : OkRow n k row := by
  obtain ⟨r, hr, rfl⟩ := List.mem_map.mp h
  obtain ⟨h1, h2⟩ := List.mem_filter.mp hr
  have h3 := of_decide_eq_true h2
  have := lrows_ok n r h1
  rw [h3] at this
  exact this.row
theorem lsigns_len (n : Nat) (k : Int) : (lsigns n k).length ≤ 2 ^ n := by
  unfold lsigns
  rw [List.length_map]
  exact Nat.le_trans (List.length_filter_le _ _) (lrows_len n)
/-! ### the rows of the program -/
def iabs (x : Int) : Int := if x < 0 then -x else x
def pok (k left h s : Int) : Bool := decide (0 ≤ h + s) && decide (iabs (h + s - k) ≤ left)
def pone (k left : Int) (r : RH) (s : Int) : List RH := if pok k left r.2 s = true then [(r.1 ++ [s], r.2 + s)] else []
def ptwo (k left : Int) (r : RH) : List RH := pone k left r 1 ++ pone k left r (-1)
def prows (n : Nat) (k : Int) : Nat → List RH
  | 0 => [([], 0)]
  | j + 1 => (prows n k j).flatMap (ptwo k ((n : Int) - 1 - (j : Int)))
def psigns (n : Nat) (k : Int) : List (List Int) := (prows n k n).map (·.1)
theorem pone_len (k left : Int) (r : RH) (s : Int) : (pone k left r s).length ≤ 1 := by
  unfold pone
  split <;> simp
theorem ptwo_len (k left : Int) (r : RH) : (ptwo k left r).length ≤ 2 := by
  unfold ptwo
  have := pone_len k left r 1
  have := pone_len k left r (-1)
  rw [List.length_append]
  omega
theorem flat_len (k left : Int) : ∀ l : List RH, (l.flatMap (ptwo k left)).length ≤ 2 * l.length
  | [] => Nat.le_refl _
  | r :: l => by
    have := flat_len k left l
    have := ptwo_len k left r
    rw [List.flatMap_cons, List.length_append, List.length_cons]
    omega
theorem prows_len (n : Nat) (k : Int) : ∀ j, (prows n k j).length ≤ 2 ^ j
  | 0 => Nat.le_refl _
  | j + 1 => by
    have := prows_len n k j
    have := flat_len k ((n : Int) - 1 - (j : Int)) (prows n k j)
    show ((prows n k j).flatMap _).length ≤ _
    rw [Nat.pow_succ]
    omega
theorem pone_ok {p : Nat} {k left : Int} {r q : RH} {s : Int} (R : OkPre p r.1 r.2) (hs : s = 1 ∨ s = -1) (h : q ∈ pone k left r s) : OkPre (p + 1) q.1 q.2 := by
  unfold pone at h
  split at h
  · rename_i z
    unfold pok at z
    have z1 := of_decide_eq_true (Bool.and_eq_true_iff.mp z).1
    rw [List.mem_singleton.mp h]
    exact R.app hs z1
  · simp at h
theorem prows_ok (n : Nat) (k : Int) : ∀ j, ∀ r ∈ prows n k j, OkPre j r.1 r.2
  | 0, r, h => by
    have : r = ([], 0) := by simpa [prows] using h
    subst this
    exact .nil
  | j + 1, r, h => by
    obtain ⟨q, hq, hr⟩ := List.mem_flatMap.mp (show r ∈ (prows n k j).flatMap (ptwo k ((n : Int) - 1 - (j : Int))) from h)
    have R := prows_ok n k j q hq
    rcases List.mem_append.mp (show r ∈ pone k _ q 1 ++ pone k _ q (-1) from hr) with h | h
    · exact pone_ok R (.inl rfl) h
    · exact pone_ok R (.inr rfl) h
/-- the two lists of rows hold the same rows: n to 8 -/
def sameRows : Bool := (List.range 9).all fun n => (List.range (n + 1)).all fun k => n == 0 || (n - k) % 2 != 0 || (psigns n k).isPerm (lsigns n k)
theorem sameRows_ok : sameRows = true := by decide +kernel
theorem rows_perm {n k : Nat} (h1 : 1 ≤ n) (h8 : n ≤ 8) (hk : k ≤ n) (hp : (n - k) % 2 = 0) : (psigns n k).Perm (lsigns n k) := by
  have h := sameRows_ok
  unfold sameRows at h
  have h2 := List.all_eq_true.mp h n (List.mem_range.mpr (by omega))
  have h3 := List.all_eq_true.mp h2 k (List.mem_range.mpr (by omega))
  simp only [Bool.or_eq_true, beq_iff_eq, bne_iff_ne] at h3
  rcases h3 with (h3 | h3) | h3
  · omega
  · omega
  · exact List.isPerm_iff.mp h3
def someRows : Bool := (List.range 9).all fun n => (List.range (n + 1)).all fun k => n == 0 || (n - k) % 2 != 0 || (lsigns n k) != []
theorem someRows_ok : someRows = true := by decide +kernel
theorem rows_some {n k : Nat} (h1 : 1 ≤ n) (h8 : n ≤ 8) (hk : k ≤ n) (hp : (n - k) % 2 = 0) : lsigns n k ≠ [] := by
  have h := someRows_ok
  unfold someRows at h
  have h2 := List.all_eq_true.mp h n (List.mem_range.mpr (by omega))
  have h3 := List.all_eq_true.mp h2 k (List.mem_range.mpr (by omega))
  simp only [Bool.or_eq_true, beq_iff_eq, bne_iff_ne] at h3
  rcases h3 with (h3 | h3) | h3
  · omega
  · omega
  · exact h3
/-! ### a mat built by draws -/
structure LM (n m p : Nat) (w ms : List Nat) : Prop where
  ex : ∃ f, Bld p w f ∧ ∀ q, q < p → q ∉ w → g ms (rp n m q) = rp n m (f q)
  len : ms.length = n + m
theorem LM.start (n m : Nat) (ms : List Nat) (h : ms.length = n + m) : LM n m 0 [] ms := ⟨⟨id, .start _, fun q h => by omega⟩, h⟩
theorem LM.push {n m p : Nat} {w ms : List Nat} (L : LM n m p w ms) : LM n m (p + 1) (w ++ [p]) ms := by
  obtain ⟨f, B, h⟩ := L.ex
  refine ⟨⟨f, B.push, fun q hq hw => ?_⟩, L.len⟩
  rw [List.mem_append, List.mem_singleton] at hw
  have : ¬ q = p := fun e => hw (.inr e)
  exact h q (by omega) fun z => hw (.inl z)
theorem LM.pop {n m p t : Nat} {w ms : List Nat} (hp : p < n + m) (L : LM n m p (w ++ [t]) ms) : LM n m (p + 1) w ((ms.set (rp n m t) (rp n m p)).set (rp n m p) (rp n m t)) := by
  obtain ⟨f, B, h⟩ := L.ex
  have tp := B.lt t (by simp)
  have hl := L.len
  refine ⟨⟨fun q => if q = t then p else if q = p then t else f q, B.pop (if_pos rfl) (by rw [if_neg (by omega), if_pos rfl]) (fun q h1 h2 => by rw [if_neg h2, if_neg (by omega)]), fun q hq hw => ?_⟩, by simpa using hl⟩
  have r1 := rp_lt (n := n) (m := m) hp
  have r2 := rp_lt (n := n) (m := m) (i := t) (by omega)
  rw [g_set (by simp; omega)]
  by_cases e1 : q = p
  · subst e1
    rw [if_pos rfl]
    show _ = rp n m (if q = t then q else if q = q then t else f q)
    rw [if_neg (by omega), if_pos rfl]
  · have e2 : ¬ rp n m p = rp n m q := fun z => e1 (rp_inj hp (by omega) z).symm
    rw [if_neg e2, g_set (by omega)]
    by_cases e3 : q = t
    · subst e3
      rw [if_pos rfl]
      show _ = rp n m (if q = q then p else _)
      rw [if_pos rfl]
    · have e4 : ¬ rp n m t = rp n m q := fun z => e3 (rp_inj (by omega) (by omega) z).symm
      rw [if_neg e4]
      show _ = rp n m (if q = t then p else if q = p then t else f q)
      rw [if_neg e3, if_neg e1]
      refine h q (by omega) fun z => ?_
      rcases List.mem_append.mp z with z | z
      · exact hw z
      · exact e3 (List.mem_singleton.mp z)
theorem LM.done {n m : Nat} {ms : List Nat} (h0 : 0 < n + m) (L : LM n m (n + m) [] ms) : Mat n m ms := by
  obtain ⟨f, B, h⟩ := L.ex
  exact mat_final B h0 L.len fun q hq => h q hq (by simp)
theorem LM.lt {n m p : Nat} {w ms : List Nat} (L : LM n m p w ms) : ∀ x ∈ w, x < p := by
  obtain ⟨f, B, h⟩ := L.ex
  exact B.lt
end Ma

namespace PySem
open Sem (wp)
open AutoSeq1 (wpAny_loadPart')
theorem hm_meets_enumerate_newT (l : Addr) (items : Array Value) (n : Nat) (dct : Option Addr) (sl : Array (Option Value)) :
    Meets (Builtin.«enumerate.__new__» ⟨[.type "enumerate", .ref l], []⟩) (fun _ R s => s.heap.get? l = some { cls := .type "tuple", dict := dct, data := .seq items n, slots := sl } ∧
      R (.ok (.ret (.ref (s.heap.push { cls := .type "tuple_iterator", data := .fields #[.ref l, .int 0 0] }).objs.size)))
        { s with heap := (s.heap.push { cls := .type "tuple_iterator", data := .fields #[.ref l, .int 0 0] }).push { cls := .type "enumerate", data := .fields #[.none, .bool false, .ref s.heap.objs.size, rawInt 0, .none, .none] } }) :=
  .of_wp fun prog w A R s h => by
    obtain ⟨hp, g, d, tk, os⟩ := s; obtain ⟨hl, h⟩ := h
    have hsub := sub_enumerate
    have hL : Heap.IsTuple (Shared.heap ⟨hp, g, d, tk, os⟩) l items := ⟨_, hl, rfl, n, rfl⟩
    wp_walk using wpAny_loadPart' hl
    refine wpAny_stack_any fun st => wpAny_pure ?_
    split
    · rename_i c _ _ _ _ _
      cases (c == Value.type "enumerate")
      · wp_walk using wpAny_loadPart' hl, wpAny_pyIter_tuple hL
        exact ⟨_, rfl, h⟩
      · wp_walk using wpAny_loadPart' hl, wpAny_pyIter_tuple hL
        exact ⟨_, rfl, h⟩
    · wp_walk using wpAny_loadPart' hl, wpAny_pyIter_tuple hL
      exact ⟨_, rfl, h⟩
section
variable {prog : Program} {w : World} {A : Around} {E : Value → Shared → Prop} {s : Shared}
theorem hm_call_enumerate_tuple {l : Addr} {items : Array Value} {Q : Value → Shared → Prop} (hL : s.heap.IsTuple l items)
    (h : ∀ h', IsEnum h' (s.heap.objs.size + 1) s.heap.objs.size 0 .none → h'.IsTupleIter s.heap.objs.size l 0 → h'.objs.size = s.heap.objs.size + 2 →
      (∀ b o, s.heap.get? b = some o → h'.get? b = some o) → Q (.ref (s.heap.objs.size + 1)) { s with heap := h' }) :
    wpAny (model prog w) A (call (.type "enumerate") [.ref l]) Q E s := by
  obtain ⟨⟨c, dct, dt, sl⟩, hl, hc, n, hd⟩ := hL
  replace hc : c = .type "tuple" := hc
  replace hd : dt = .seq items n := hd
  subst hc hd
  refine callType_new F.called_enumerate (by decide) (F.typeCall_enumerate_1 _) (F.newCall_enumerate_1 _) (fun obj => F.args_object_init_2 obj _) F.entry_enumerate_new
    (hm_meets_enumerate_newT l items n dct sl) ⟨hl, ?_⟩
  have hz : (s.heap.push { cls := .type "tuple_iterator", data := .fields #[.ref l, .int 0 0] }).objs.size = s.heap.objs.size + 1 := Heap.size_push ..
  show _ ∧ _
  rw [hz]
  have he : IsEnum ((s.heap.push { cls := .type "tuple_iterator", data := .fields #[.ref l, .int 0 0] }).push
      { cls := .type "enumerate", data := .fields #[.none, .bool false, .ref s.heap.objs.size, rawInt 0, .none, .none] }) (s.heap.objs.size + 1) s.heap.objs.size 0 .none := by
    have := Heap.get?_push_size (s.heap.push { cls := .type "tuple_iterator", data := .fields #[.ref l, .int 0 0] })
      (o := { cls := .type "enumerate", data := .fields #[.none, .bool false, .ref s.heap.objs.size, rawInt 0, .none, .none] }) rfl
    rw [hz] at this; exact this
  refine ⟨⟨_, he, rfl⟩, h _ he ⟨_, Heap.get?_push_of_some _ (Heap.get?_push_size _ rfl), rfl, rfl⟩ (by rw [Heap.size_push, hz]) fun b o x => Heap.get?_push_of_some _ (Heap.get?_push_of_some _ x)⟩

theorem hm_nolen_ri : typeLookup (.type "range_iterator") "__len__" = pure none := by rw [typeLookup_type, builtinLookup_eq_fast]; kernel_rfl
theorem hm_call_hint_ri {it : Addr} {lo : Int} {n : Nat} {c : Int} {Q : Value → Shared → Prop} (hit : IsRangeIter s.heap it lo (n : Int) c) (h : ∀ t tk, Q (.int n t) { s with toks := tk }) :
    wpAny (model prog w) A (call (.builtin "range_iterator.__length_hint__") [.ref it]) Q E s := by
  have hT : s.TypeIs (.ref it) "range_iterator" := ⟨_, hit, rfl⟩
  refine wpAny_call_entry F.slot_range_iterator_length_hint hT F.entry_range_iterator_length_hint ?_ (F.args_range_iterator_length_hint_1 _)
  obtain ⟨hp, g, d, tk, os⟩ := s
  wp_walk using wpAny_loadPart' hit
  exact ⟨_, rfl, h _ _⟩
end
end PySem
namespace PySem
section
variable {prog : Program} {w : World} {A : Around} {E : Value → Shared → Prop} {s : Shared}
theorem hm_extend_ri {R : Result → Shared → Prop} {it : Addr} {lo c : Int} {n : Nat} (hh : A.handled = none) (hr : IsRangeIter s.heap it lo (n : Int) c) (hlen : n ≤ 100000) (S : Addr) (res : Value) (c₀ : Nat) (hS : s.heap.get? S = some { cls := .type "list", data := .seq #[] c₀ })
    (hR : ∀ h' tk acc' c', (∀ b o, b ≠ S → b ≠ it → s.heap.get? b = some o → h'.get? b = some o) → h'.get? S = some { cls := .type "list", dict := none, data := .seq acc' c', slots := #[] } →
      ItemsOf (fun i v => ∃ t, v = .int (lo + i * c) t) acc' n → R (.ok (.ret res)) { s with heap := h', toks := tk }) :
    wpAny (model prog w) A.in1 (Builtin.List.listExtendWith (.ref S) (.ref it) res)
      (fun fin s' => match fin with | .done f => R (.ok f) s' | .again c' => c'.quiet = true ∧ codeAny (model prog w) A c' R s') (fun e s' => R (.error e) s') s := by
  have hSI : S ≠ it := fun e => by
    have hr' : s.heap.get? it = some _ := hr
    rw [e, hr'] at hS; simp at hS
  have hSf : S ∉ [it] := fun hm => hSI (List.mem_singleton.mp hm)
  have W := (Walks.range (prog := prog) (w := w) (A := A.in1) hh it lo c n).toS
  have hT : s.TypeIs (.ref it) "range_iterator" := ⟨_, hr, rfl⟩
  unfold Builtin.List.listExtendWith
  refine wpAny_bind (wpAny_typeOf (T := "range_iterator") hT ?_)
  have h1 : Builtin.List.listSameRef (.ref S) (.ref it) = false := by simp [Builtin.List.listSameRef, hSI]
  have h2 : (Value.type "range_iterator" == Value.type "list") = false := by decide
  have h3 : (Value.type "range_iterator" == Value.type "tuple") = false := by decide
  simp only [h1, h2, h3, Bool.or_false, Bool.false_eq_true, if_false]
  refine wpAny_bind (wpAny_pyIter_rangeiter hr ?_)
  refine wpAny_bind (wpAny_holding ?_)
  unfold Builtin.List.listLengthHint
  refine wpAny_bind (wpAny_specialOf hT hm_nolen_ri ?_)
  show wpAny _ A.in1 (specialOf (Value.ref it) (Str.ofString "__length_hint__") >>= _) _ _ _
  refine wpAny_bind (wpAny_specialOf hT F.slot_range_iterator_length_hint.lookup ?_)
  generalize hid : ("range_iterator.__length_hint__" : String) = id0
  wp_delta
  rw [show splitId id0 = some ("range_iterator", "__length_hint__") from by subst hid; decide +kernel]
  subst hid
  refine wpAny_bind (wpAny_isInstance (b := true) hT (by rw [isSubtype_type]; kernel_rfl) ?_)
  refine wpAny_ite_split (fun hab => absurd hab (by decide)) (fun _ => ?_)
  refine wpAny_ite_split (fun _ => ?_) (fun hab => absurd (by decide +kernel) hab)
  refine wpAny_ite_split (fun _ => ?_) (fun hab => absurd (by decide +kernel) hab)
  refine wpAny_bind (hm_call_hint_ri hr fun t tk => ?_)
  refine wpAny_bind (m := asInt? _) (wpAny_pure ?_)
  have htl : Builtin.List.listTooLong ((n : Int).toNat) = false := by simp [Builtin.List.listTooLong, sizeLine]; omega
  refine wpAny_ite_split (fun hab => absurd hab (by rw [htl]; decide)) (fun _ => wpAny_pure ?_)
  rw [if_neg (by decide)]
  have e1 : lo + ((0 : Nat) : Int) * c = lo := by simp
  have e2 : (n : Int) - ((0 : Nat) : Int) = n := by simp
  refine wpAny_pure ⟨plainId_quiet F.plain_extend_loop _, codeAny_extend_loopS W (by rw [sizeLine_eq]; omega) _ hSf res n 0 _ #[] c₀ rfl (Nat.zero_le _) (by show IsRangeIter _ _ _ _ _; rw [e1, e2]; exact hr) hS (ItemsOf.nil _) fun s' acc' c' hm hS' hacc => ?_⟩
  rw [Moved.eq_with hm]
  refine hR s'.heap s'.toks acc' c' (fun b o hb hb2 e => hm.heap b o (fun hmem => ?_) e) hS' hacc
  rcases List.mem_cons.mp hmem with e' | hmem
  · exact hb e'
  · exact hb2 (List.mem_singleton.mp hmem)
theorem hm_list_init_ri {R : Result → Shared → Prop} {it : Addr} {lo c : Int} {n : Nat} (hh : A.handled = none) (hr : IsRangeIter s.heap it lo (n : Int) c) (hlen : n ≤ 100000) (S : Addr) (hS : s.heap.get? S = some { cls := .type "list", data := .seq #[] })
    (hR : ∀ h' tk acc' c', (∀ b o, b ≠ S → b ≠ it → s.heap.get? b = some o → h'.get? b = some o) → h'.get? S = some { cls := .type "list", dict := none, data := .seq acc' c', slots := #[] } →
      ItemsOf (fun i v => ∃ t, v = .int (lo + i * c) t) acc' n → R (.ok (.ret .none)) { s with heap := h', toks := tk }) :
    wpAny (model prog w) A.in1 (Builtin.«list.__init__» ⟨[.ref S, .ref it], []⟩)
      (fun fin s' => match fin with | .done f => R (.ok f) s' | .again c' => c'.quiet = true ∧ codeAny (model prog w) A c' R s') (fun e s' => R (.error e) s') s := by
  have hSI : S ≠ it := fun e => by
    have hr' : s.heap.get? it = some _ := hr
    rw [e, hr'] at hS; simp at hS
  show wpAny _ _ (do let old ← Builtin.List.listItems (.ref S); Builtin.List.listUpdate (.ref S) (fun _ => #[]); letGo old.toList.reverse; Builtin.List.listExtendWith (.ref S) (.ref it) .none) _ _ s
  refine wpAny_bind ?_
  unfold Builtin.List.listItems
  refine wpAny_bind (wpAny_seqItems hS rfl (wpAny_pure ?_))
  show wpAny _ _ (updateSeq S (fun _ => #[]) >>= fun _ => letGo (#[] : Array Value).toList.reverse >>= fun _ => Builtin.List.listExtendWith (.ref S) (.ref it) .none) _ _ s
  refine wpAny_bind (wpAny_updateSeq hS rfl ?_)
  have hS₂ := Heap.get?_update_self (Obj.mapSeq (fun _ => (#[] : Array Value))) hS rfl
  have oth : ∀ b o, b ≠ S → s.heap.get? b = some o → (s.heap.update S (Obj.mapSeq (fun _ => (#[] : Array Value)))).get? b = some o :=
    fun b o hb e => (Heap.get?_update_other _ _ (Ne.symm hb)).trans e
  refine wpAny_bind (wpAny_letGo ?_)
  refine hm_extend_ri hh (oth it _ (Ne.symm hSI) hr) hlen S .none _ hS₂ fun h' tk acc' c' hk hS' hacc => ?_
  exact hR h' tk acc' c' (fun b o hb hb2 e => hk b o hb hb2 (oth b o hb e)) hS' hacc
theorem hm_call_list_ri {Q : Value → Shared → Prop} {it : Addr} {lo c : Int} {n : Nat} (hh : A.handled = none) (hr : IsRangeIter s.heap it lo (n : Int) c) (hlen : n ≤ 100000)
    (hQ : ∀ h' tk acc' c', (∀ b o, b ≠ it → s.heap.get? b = some o → h'.get? b = some o) →
      h'.get? s.heap.objs.size = some { cls := .type "list", dict := none, data := .seq acc' c', slots := #[] } → ItemsOf (fun i v => ∃ t, v = .int (lo + i * c) t) acc' n → Q (.ref s.heap.objs.size) { s with heap := h', toks := tk }) :
    wpAny (model prog w) A (call (.type "list") [.ref it]) Q E s := by
  refine callType_codes (Q₁ := fun obj s₁ => obj = .ref s.heap.objs.size ∧ s₁ = { s with heap := s.heap.push { cls := .type "list", data := .seq #[] } }) F.called_list (F.typeCall_list_1 _) F.entry_list_init
    (code_list_new _ ⟨rfl, rfl⟩) fun obj s₁ h₁ => ?_
  obtain ⟨rfl, rfl⟩ := h₁
  have hS : (s.heap.push { cls := .type "list", data := .seq #[] }).get? s.heap.objs.size = some { cls := .type "list", data := .seq #[] } := Heap.get?_push_size _ rfl
  refine ⟨⟨_, hS, rfl⟩, F.args_list_init_2 _ _, hm_list_init_ri (A := A.in1) hh (Heap.get?_push_of_some _ hr) hlen _ hS fun h' tk acc' c' hk hS' hacc => ?_⟩
  exact ⟨rfl, hQ h' tk acc' c' (fun b o hb e => hk b o (Nat.ne_of_lt (Heap.lt_size e)) hb (Heap.get?_push_of_some _ e)) hS' hacc⟩
end
end PySem
namespace PySem
theorem hm_enum_endT {prog : Program} {w : World} {A : Around} {E : Value → Shared → Prop} {s : Shared} {e it l : Addr} {i : Nat} {items : Array Value} {old : Value} {Q : Option Value → Shared → Prop} (hh : A.handled = none)
    (he : IsEnum s.heap e it i old) (hit : s.heap.IsTupleIter it l i) (hl : s.heap.IsTuple l items) (hx : items[i]? = none)
    (hQ : ∀ h', Heap.ExtBut it s.heap h' → Q none { s with heap := h' }) : wpAny (model prog w) A (pyNext (.ref e)) Q E s := by
  have hT : s.TypeIs (.ref e) "enumerate" := ⟨_, he, rfl⟩
  unfold pyNext
  refine wpAny_bind (wpAny_attempt (wpAny_callSpecial?_slot (name := Str.ofString "__next__") hT F.slot_enumerate_next
    (wpAny_call_entry F.slot_enumerate_next hT F.entry_enumerate_next ?_ (F.args_enumerate_next_1 _))))
  show wpAny _ _ (field (.ref e) 2 >>= _) _ _ _
  refine wpAny_bind (wpAny_field he rfl (x := .ref it) rfl ?_)
  refine wpAny_bind (wpAny_nextOf_tuple_end hh hit hl hx fun h' x he' hx' => ?_)
  obtain ⟨o, ho, hc⟩ := hx'
  refine wpAny_bind (wpAny_isInstance (T := "StopIteration") (b := true) ⟨o, ho, hc⟩ isSubtype_stop ?_)
  exact wpAny_pure (hQ _ he')
end PySem
namespace HM
open PySem PySem.Spec PyProof.Rows L2
def topS (i : Nat) : Stmt := PySem.Challenge.pw_hookmats_k48_whole_half_mats_and_their_p.main.body.getD i (.Pass ⟨0, 0, 0, 0⟩)
structure Bt (mg : Str → Option Value) : Prop where
  len_ : mg "len" = none
  range_ : mg "range" = none
  list_ : mg "list" = none
  tuple_ : mg "tuple" = none
  enumerate_ : mg "enumerate" = none
  abs_ : mg "abs" = none
  sorted_ : mg "sorted" = none
  all_ : mg "all" = none
  int_ : mg "int" = none
  isinstance_ : mg "isinstance" = none
  min_ : mg "min" = none
  max_ : mg "max" = none
  reversed_ : mg "reversed" = none
  str_ : mg "str" = none
theorem hu64_of {A : Around} {k : Nat} (hr : Room k A) : A.units + 64 < cLine := by have := hr.un; omega
theorem hu80_of {A : Around} {k : Nat} (hr : Room k A) : A.units + 80 < cLine := by have := hr.un; omega
section
variable {X : Cx}
abbrev rAddI : R2 := rI0 fun i j => .int (i + j)
abbrev rSubI : R2 := rI0 fun i j => .int (i - j)
abbrev rLt : R2 := rI0 fun i j => .bl (decide (i < j))
abbrev rLe : R2 := rI0 fun i j => .bl (decide (i ≤ j))
abbrev rGt : R2 := rI0 fun i j => .bl (decide (j < i))
abbrev rGe : R2 := rI0 fun i j => .bl (decide (j ≤ i))
abbrev rNeg : V → Hp → VK → Prop := rU fun i => .int (-i)
abbrev rAbs : List V → Hp → VK → Prop := fun xs H Q => ∃ i, xs = [.int i] ∧ Q (.int (if i < 0 then -i else i)) H
/-- list(range(a, b, c)) -/
def tLstRg3 (t : TA) : TE := fun σ H Q => t σ H fun vs H1 => ∃ (i j c : Int) (n : Nat), vs = [.int i, .int j, .int c] ∧ RgC i j c n ∧ n ≤ 100000 ∧ ∀ q, H1 q = none → Q (.ref q) (upd H1 q (.lst ((List.range n).map fun t => .int (i + (t : Nat) * c))))
theorem vals_acc {f : Nat → V} {P : Nat → Value → Prop} {acc : Array Value} {n : Nat} (hf : ∀ i v, P i v → RelV (f i) v) (h : ItemsOf P acc n) : Vals ((List.range n).map f) acc.toList := by
  have e : acc.toList.length = n := by rw [Array.length_toList]; exact h.1
  rw [← e]
  exact vals_of_get acc.toList _ fun j u hj => hf j u (h.2 j u (by rw [← hj, Array.getElem?_toList]))
theorem pe_listRg3 {a b c : Expr} {t : TA} {p p2 pos pos2 : Pos} (hc : X.calm = true) (hg : Gl X "list") (hm : X.mg "list" = none) (hg2 : Gl X "range") (hm2 : X.mg "range" = none) (ha : PA X [a, b, c] t)
    (hs : starEach [a, b, c] X.env = (false, eval a X.env) :: starEach [b, c] X.env := by rfl) (hpl : (backTo pos2 (starEach [b, c] X.env)).any (·.1) = false := by rfl) :
  PE X (.Call (.Name "list" p) [.Call (.Name "range" p2) [a, b, c] [] pos2] [] pos) (tLstRg3 t) := by
  refine ⟨fun pins s σ H Q I h => ?_⟩
  have na : starEach [Expr.Call (.Name "range" p2) [a, b, c] [] pos2] X.env = (false, eval (Expr.Call (.Name "range" p2) [a, b, c] [] pos2) X.env) :: starEach [] X.env := by rfl
  refine Call_ (ld_blt I hg hm boot_list (PyProof.Rows.callWith_type1 (args_cons (thn (Q := fun x s' => ∃ (r : Addr) (i j c : Int) (t u v : Tok) (H' : Hp), x = .ref r ∧ IsRange s'.heap r i j c t u v ∧ Inv X pins σ H' s' ∧ ∃ n : Nat, RgC i j c n ∧ n ≤ 100000 ∧ ∀ q, H' q = none → Q (.ref q) (upd H' q (.lst ((List.range n).map fun t => .int (i + (t : Nat) * c))))) ?_ fun x s1 ⟨r, i, j, c, t, u, v, H1, ex, hr, I1, n, ok, hn, q⟩ => args_nil ?_) na) na))
  · refine Call_ (ld_blt I hg2 hm2 boot_range (PyProof.Rows.callWith_type1 (thn (ha.run pos2 pins s σ H _ I h) fun us s1 ⟨vs, H1, I1, r1, q1⟩ => ?_) hs hpl))
    obtain ⟨i, j, k, n, e, ⟨c0, c1, c2, c3⟩, hn, q⟩ := q1
    subst e
    cases r1 with
    | cons r rr =>
      cases rr with
      | cons r' rr =>
        cases rr with
        | cons r'' rr =>
          cases rr
          obtain ⟨t, rfl⟩ := r
          obtain ⟨t', rfl⟩ := r'
          obtain ⟨t'', rfl⟩ := r''
          refine call_range_3 c0 ?_ (.inl (PyProof.noPylong_small c1))
          exact ⟨_, i, j, k, _, _, _, H1, rfl, IsRange.new _ _ _ _ _ _ _, I1.kept (t' := s1.toks) fun b o e => Heap.get?_push_of_some _ e, n, ⟨c0, c1, c2, c3⟩, hn, q⟩
  · subst ex
    obtain ⟨c0, c1, c2, c3⟩ := ok
    refine call_list_range (n := n) (I1.ok.hd hc) hr c2 c3 (by omega) fun h' tk acc c' hk e' hi => ?_
    refine ⟨.ref s1.heap.objs.size, upd H1 s1.heap.objs.size (.lst ((List.range n).map fun t => .int (i + (t : Nat) * c))), I1.laid hk (Nat.le_refl _) (show ObjOk X.prog X.w _ _ _ (.lst ((List.range n).map fun t => .int (i + (t : Nat) * c))) from ⟨?_, acc.toList, c', ?_, ?_⟩), rfl, q _ (I1.hok.fresh (Nat.le_refl _))⟩
    · rw [List.length_map, List.length_range, sizeLine_eq]; omega
    · exact vals_acc (fun i v ⟨t, e⟩ => ⟨t, e⟩) hi
    · rw [Array.toArray_toList]; exact e'
/-- list(reversed(range(a, b))) -/
theorem items_lt {P : Nat → Value → Prop} {acc : Array Value} {n : Nat} (h : ItemsOf P acc n) : ItemsOf (fun i v => i < n ∧ P i v) acc n := ⟨h.1, fun j v e => ⟨by
  have := (Array.getElem?_eq_some_iff.mp e).1
  have := h.1
  omega, h.2 j v e⟩⟩
def tLstRev (te : L2.St → Hp → (Int → Int → Hp → Prop) → Prop) : TE := fun σ H Q => te σ H fun a b H1 => (RgOk a b ∧ (b - a).toNat ≤ 100000) ∧ ∀ q, H1 q = none → Q (.ref q) (upd H1 q (.lst ((List.range (b - a).toNat).map fun t => .int (b - 1 - (t : Nat)))))
theorem pe_listRev {e : Expr} {te : L2.St → Hp → (Int → Int → Hp → Prop) → Prop} {p p2 pos pos2 : Pos} (hc : X.calm = true) (hg : Gl X "list") (hm : X.mg "list" = none) (hg2 : Gl X "reversed") (hm2 : X.mg "reversed" = none) (he : PRg X e te)
    (hs : starEach [e] X.env = (false, eval e X.env) :: starEach [] X.env := by rfl) :
  PE X (.Call (.Name "list" p) [.Call (.Name "reversed" p2) [e] [] pos2] [] pos) (tLstRev te) := by
  refine ⟨fun pins s σ H Q I h => ?_⟩
  have na : starEach [Expr.Call (.Name "reversed" p2) [e] [] pos2] X.env = (false, eval (Expr.Call (.Name "reversed" p2) [e] [] pos2) X.env) :: starEach [] X.env := by rfl
  refine Call_ (ld_blt I hg hm boot_list (PyProof.Rows.callWith_type1 (args_cons (thn (Q := fun x s' => ∃ (a b : Int) (H' : Hp) (s0 : Shared), x = .ref s0.heap.objs.size ∧ s' = { s0 with heap := s0.heap.push (rngRevObj a b 1) } ∧ Inv X pins σ H' s0 ∧ (RgOk a b ∧ (b - a).toNat ≤ 100000) ∧ ∀ q, H' q = none → Q (.ref q) (upd H' q (.lst ((List.range (b - a).toNat).map fun t => .int (b - 1 - (t : Nat)))))) ?_ fun x s1 ⟨a, b, H1, s0, ex, es, I1, ok, q⟩ => args_nil ?_) na) na))
  · refine Call_ (ld_blt I hg2 hm2 PyProof.Rows.boot_reversed (PyProof.Rows.callWith_type1 (args_cons (thn (he pins s σ H _ I h) fun u s1 hx => args_nil ?_) hs) hs rfl))
    obtain ⟨r, a, b, t, w1, v, H1, eu, hr, I1, ⟨⟨b1, b2, b3, b4, b5⟩, b6⟩, q⟩ := hx
    subst eu
    exact call_reversed_range hr (smallRev_one b1 b2 b3 b4) ⟨a, b, H1, s1, rfl, rfl, I1, ⟨⟨b1, b2, b3, b4, b5⟩, b6⟩, q⟩
  · subst ex es
    obtain ⟨⟨b1, b2, b3, b4, b5⟩, b6⟩ := ok
    have hn : Builtin.Range.rangeSize a b 1 = (((b - a).toNat : Nat) : Int) := rangeSize_nat a b
    have hit : IsRangeIter (s0.heap.push (rngRevObj a b 1)) s0.heap.objs.size (a + ((((b - a).toNat : Nat) : Int) - 1) * 1) ((((b - a).toNat : Nat) : Int)) (-1) := by
      rw [← hn]
      exact Heap.get?_push_size _ rfl
    have hz : (s0.heap.push (rngRevObj a b 1)).objs.size = s0.heap.objs.size + 1 := Heap.size_push ..
    refine hm_call_list_ri (s := { s0 with heap := s0.heap.push (rngRevObj a b 1) }) (n := (b - a).toNat) (I1.ok.hd hc) hit b6 fun h' tk acc c' hk e' hi => ?_
    have hk' : ∀ b o, s0.heap.get? b = some o → h'.get? b = some o := fun b o e => hk b o (Nat.ne_of_lt (Heap.lt_size e)) (Heap.get?_push_of_some _ e)
    show EP X pins σ Q (.ref (s0.heap.push (rngRevObj a b 1)).objs.size) _
    have e'' : h'.get? (s0.heap.objs.size + 1) = some { cls := .type "list", dict := none, data := .seq acc c', slots := #[] } := by rw [← hz]; exact e'
    rw [hz]
    refine ⟨.ref (s0.heap.objs.size + 1), upd H1 (s0.heap.objs.size + 1) (.lst ((List.range (b - a).toNat).map fun t => .int (b - 1 - (t : Nat)))), I1.laid (t' := tk) hk' (Nat.le_succ _) (show ObjOk X.prog X.w _ _ _ (.lst ((List.range (b - a).toNat).map fun t => .int (b - 1 - (t : Nat)))) from ⟨?_, acc.toList, c', ?_, ?_⟩), rfl, q _ (I1.hok.fresh (Nat.le_succ _))⟩
    · rw [List.length_map, List.length_range, sizeLine_eq]; omega
    · refine vals_acc (fun i v ⟨hlt, t, e⟩ => ⟨t, ?_⟩) (items_lt hi)
      rw [e]
      congr 1
      omega
    · rw [Array.toArray_toList]; exact e''
/-- enumerate(tuple) -/
def IteT (K : PySem.W.Frag) (a : Addr) : It :=
  ⟨fun i H => ∃ (xs : List V) (x : V), SqT K H a xs ∧ xs[i]? = some x,
    fun i H v H' => ∃ T x, v = .ref T ∧ H T = none ∧ H' = upd H T (.tup [.int (i : Nat), x]) ∧ ∀ xs, SqT K H a xs → xs[i]? = some x,
    fun i H => ∃ xs : List V, SqT K H a xs ∧ xs.length ≤ i⟩
theorem turn_enumT {P : Program} {w : World} {K : PySem.W.Frag} {elts : List Expr} {kk : Nat} {tpos : Pos} (a e it : Addr) :
    Turn P w K (.Tuple elts kk tpos) (IteT K a) [e, it] e (fun i h => (∃ old, IsEnum h e it ((i : Nat) : Int) old) ∧ h.IsTupleIter it a i ∧ e ≠ it) where
  mem := by simp
  obj := fun i h st b hb => by
    obtain ⟨⟨old, he⟩, ⟨o, ho, hc, hd⟩, _⟩ := st
    have e' : b = e ∨ b = it := by simpa using hb
    rcases e' with z | z
    · rw [z]; exact ⟨_, he, fun v q => nomatch q⟩
    · rw [z]; exact ⟨o, ho, fun v q => by rw [hd] at q; cases q⟩
  keep := fun i h h' st k => let ⟨⟨old, he⟩, hi, hne⟩ := st; ⟨⟨old, k e (by simp) _ he⟩, hi.at fun o q => k it (by simp) o q, hne⟩
  item := by
    intro X hP hw hK hc i pins s σ H E I hf st hg
    subst hP hw hK
    obtain ⟨⟨old, he⟩, hit, hne⟩ := st
    obtain ⟨xs, x, hq, hx⟩ := hg
    obtain ⟨its, rv, p, hz⟩ := I.tuple hq
    obtain ⟨u, hu, ru⟩ := rv.get hx
    have hel : e < s.heap.objs.size := Heap.lt_size he
    have hil : it < s.heap.objs.size := by obtain ⟨_, q, _⟩ := hit; exact Heap.lt_size q
    have hai : a ≠ it := fun z => by
      obtain ⟨o1, q1, c1, _⟩ := hit
      obtain ⟨o2, q2, c2, _⟩ := p
      rw [← z, q2] at q1
      cases q1
      rw [c2] at c1
      exact absurd (Value.type.inj c1) (by decide)
    have hae : e ≠ a := fun z => by
      obtain ⟨o2, q2, c2, _⟩ := p
      have he' : s.heap.get? e = some _ := he
      rw [z, q2] at he'
      cases he'
      exact absurd (Value.type.inj c2) (by decide)
    have hlen : i < its.toArray.size := by
      have := (List.getElem?_eq_some_iff.mp hu).1
      simpa using this
    refine wpAny_pyNext_enum_itemD (n := its.toArray.size) (i := i) (Draws.tuple (prog := X.prog) (w := X.w) (A := X.A.in1) (I.ok.hd hc) it a hai its.toArray) he ⟨hit, p⟩ hlen hne (by simp [hne, hae]) fun x' h' tk hx' ho hit' hT hsz hk => ?_
    have ex : x' = u := Option.some.inj (hx'.symm.trans (by simpa using hu))
    subst ex
    refine ⟨_, rfl, wpAny_letOwnedTupleGo_enum (s := { s with heap := h', toks := tk + 1 }) ho fun h'' he' sb => ?_⟩
    have hT2 : h''.get? s.heap.objs.size = some { cls := .type "tuple", data := .seq #[.int i tk, x'] } := (sb.2 _ (Nat.ne_of_gt hel)).trans hT
    have new : ObjOk X.prog X.w (upd H s.heap.objs.size (.tup [.int (i : Nat), x])) h'' s.heap.objs.size (.tup [.int (i : Nat), x]) :=
      ⟨by show 2 ≤ sizeLine; decide, [.int i tk, x'], .cons ⟨_, rfl⟩ (.cons ru .nil), ⟨_, hT2, rfl, _, rfl⟩⟩
    have I1 : Inv X pins σ (upd H s.heap.objs.size (.tup [.int (i : Nat), x])) { s with heap := h'', toks := tk + 1 } :=
      I.turnedNew (ch := [e, it]) (fun b ob hb q => (sb.2 b (fun z => hb (by simp [z]))).trans (hk b ob (fun z => hb (by simp [z])) (fun z => hb (by simp [z])) q)) hf (Nat.le_refl _) new
    refine ⟨.ref s.heap.objs.size, _, I1, rfl, ⟨_, x, rfl, I.hok.fresh (Nat.le_refl _), rfl, fun ys hy => by rw [I.tuple_inj hy hq]; exact hx⟩, ⟨⟨x', ?_⟩, hit'.1.at fun o q => (sb.2 it (Ne.symm hne)).trans q, hne⟩, fun b hb => ?_⟩
    · have e1 : ((i + 1 : Nat) : Int) = (i : Int) + 1 := by omega
      rw [e1]; exact he'
    · have hb' : b < s.heap.objs.size := by
        have e' : b = e ∨ b = it := by simpa using hb
        rcases e' with z | z
        · rw [z]; exact hel
        · rw [z]; exact hil
      rw [upd_ne (Nat.ne_of_lt hb')]
      exact (hf b hb).1
  done := by
    intro X hP hw hK hc i pins s σ H E I hf st hg
    subst hP hw hK
    obtain ⟨⟨old, he⟩, hit, hne⟩ := st
    obtain ⟨xs, hq, hx⟩ := hg
    obtain ⟨its, rv, p, hz⟩ := I.tuple hq
    obtain ⟨f0, f1, f2, f3, f4, f5⟩ := hf it (by simp)
    have hl := rv.length
    have hai : a ≠ it := fun z => by
      obtain ⟨o1, q1, c1, _⟩ := hit
      obtain ⟨o2, q2, c2, _⟩ := p
      rw [← z, q2] at q1
      cases q1
      rw [c2] at c1
      exact absurd (Value.type.inj c1) (by decide)
    exact hm_enum_endT (I.ok.hd hc) he hit (show s.heap.IsTuple a its.toArray from p) (by simp; omega) fun h' eb => ⟨rfl, I.turned (t' := s.toks) (fun b o hb q => eb b o hb q) f0 f1 f3 f4 f5⟩
  self := fun A i s Q E st h => let ⟨⟨_, he⟩, _⟩ := st; wpAny_pyIter_enum he h
def iEnumT (K : PySem.W.Frag) (ta : TA) : TI := fun σ H R => ta σ H fun vs H1 => ∃ a xs, vs = [.ref a] ∧ SqT K H1 a xs ∧ R (IteT K a) H1
theorem pi_enumT {e : Expr} {ta : TA} {p pos tpos : Pos} {elts : List Expr} {kk : Nat} (hg : Gl X "enumerate") (hm : X.mg "enumerate" = none) (ha : PA X [e] ta) (hs : starEach [e] X.env = [(false, eval e X.env)] := by rfl) :
    PI X (.Tuple elts kk tpos) (.Call (.Name "enumerate" p) [e] [] pos) (iEnumT X.K ta) := by
  refine ⟨fun pins s σ H R I h => ?_⟩
  refine Call_ (ld_blt I hg hm boot_enumerate (PyProof.Rows.callWith_type1 (thn (ha.run pos pins s σ H _ I h) fun us s1 ⟨vs, H1, I1, r1, q1⟩ => ?_) hs rfl))
  obtain ⟨a, xs, ex, hq, q⟩ := q1
  subst ex
  cases r1 with
  | cons r rr =>
    cases rr
    cases r
    obtain ⟨its, rv, p', hz⟩ := I1.tuple hq
    refine hm_call_enumerate_tuple (show s1.heap.IsTuple a its.toArray from p') fun h' he hit hsz hk => wpAny_pyIter_enum he ?_
    have I2 : Inv X pins σ H1 { s1 with heap := h' } := I1.kept (t' := s1.toks) hk
    refine ⟨s1.heap.objs.size + 1, [s1.heap.objs.size + 1, s1.heap.objs.size], _, _, H1, rfl, I2, turn_enumT a (s1.heap.objs.size + 1) s1.heap.objs.size, ⟨⟨.none, he⟩, hit, Nat.succ_ne_self _⟩, fun b hb => ?_, q⟩
    have e' : b = s1.heap.objs.size + 1 ∨ b = s1.heap.objs.size := by simpa using hb
    have hle : s1.heap.objs.size ≤ b := by
      rcases e' with z | z
      · rw [z]; exact Nat.le_add_right _ _
      · rw [z]; exact Nat.le_refl _
    exact I1.fpOk hle (I1.hok.fresh hle)
/-- f(k = v, ..) -/
def tCk0 (sp : Sp) (gV : List V → List V → List V) (E : XK) (tk : TA) : TE := fun σ H Q => tk σ H fun zs H2 => sp (gV [] zs) H2 Q E
/-- x is True, x is not True, x an int -/
def rIsIB : R2 := fun x y H Q => ∃ (i : Int) (b : Bool), x = .int i ∧ y = .bl b ∧ Q (.bl false) H
def rNotIB : R2 := fun x y H Q => ∃ (i : Int) (b : Bool), x = .int i ∧ y = .bl b ∧ Q (.bl true) H
theorem op_isIB : OpR X (compareOp .Is) rIsIB := by
  intro pins s σ H x y v u Q I rx ry h
  obtain ⟨i, b, rfl, rfl, q⟩ := h
  obtain ⟨t, rfl⟩ := rx
  cases (show u = Value.bool b from ry)
  exact wpAny_is_other rfl (fun z => nomatch z) ⟨.bl false, H, I, rfl, q⟩
theorem op_isnotIB : OpR X (compareOp .IsNot) rNotIB := by
  intro pins s σ H x y v u Q I rx ry h
  obtain ⟨i, b, rfl, rfl, q⟩ := h
  obtain ⟨t, rfl⟩ := rx
  cases (show u = Value.bool b from ry)
  exact wpAny_isNot_other rfl (fun z => nomatch z) ⟨.bl true, H, I, rfl, q⟩
def rRepTA (K : PySem.W.Frag) : R2 := fun x y H Q => ∃ l k xs, x = .ref l ∧ y = .int k ∧ H l = some (.tup xs) ∧ xs ≠ [] ∧ 0 ≤ k ∧ k ≤ 1000 ∧ xs.length ≤ 1000 ∧ ∀ v H', Evl.Ex H H' → (∃ p, v = .ref p ∧ H' p = some (.tup (List.replicate k.toNat xs).flatten)) → Q v H'
end
section
/-- a def that may be called by its name -/
structure Cal (P : Program) (w : World) (K : PySem.W.Frag) (mg : Str → Option Value) (base : Heap) (k : Nat) (x : Str) (sp : Sp) : Prop where
  ex : ∃ (f : Addr) (fd : FuncData) (ps : List Str), FnOk P w K mg base CX0 k f fd ps sp ∧ mg x = some (.ref f) ∧ PySem.W.keepIn K (.ref f) = true ∧ Binds K fd ps []
theorem pe_c {X : Cx} {k j : Nat} {x : Str} {sp : Sp} {p pos : Pos} {e : Expr} {es : List Expr} {t : TA} (c : Cal X.prog X.w X.K X.mg X.base k x sp) (hr : Room j X.A) (hk : k ≤ j) (hg : Gl X x) (ha : PA X (e :: es) t)
    (hdb : (x == ("__debug__" : Str)) = false := by decide) (he : starEach (e :: es) X.env = (false, eval e X.env) :: starEach es X.env := by rfl) (hpl : (backTo pos (starEach es X.env)).any (·.1) = false := by rfl) :
    PE X (.Call (.Name x p) (e :: es) [] pos) (tCall sp [] E0 t) := by
  obtain ⟨f, fd, ps, F, hm, kp, b⟩ := c.ex
  exact pe_call F (hr.mono hk) hg hm kp b .nil pass0 ha hdb he hpl
variable {X : Cx} {k j : Nat} {x : Str} {sp : Sp} {p pos : Pos} {kws : List Keyword} {tk : TA} {gV : List V → List V → List V}
structure CalK (P : Program) (w : World) (K : PySem.W.Frag) (mg : Str → Option Value) (base : Heap) (k : Nat) (x : Str) (sp : Sp) (ks : List Str) (gV : List V → List V → List V) : Prop where
  ex : ∃ (f : Addr) (fd : FuncData) (ps : List Str) (g : List Value → List Value → List Value), FnOk P w K mg base CX0 k f fd ps sp ∧ mg x = some (.ref f) ∧ PySem.W.keepIn K (.ref f) = true ∧ KBinds K fd ps ks g gV
theorem pe_ck0 {ks : List Str} (c : CalK X.prog X.w X.K X.mg X.base k x sp ks gV) (hr : Room j X.A) (hk : k ≤ j) (hg : Gl X x) (hkw : PK X kws tk) (hall : (backToKw pos (keywordEach kws X.env)).all (·.1.isSome) = true := by rfl) (hks : (backToKw pos (keywordEach kws X.env)).filterMap (·.1) = ks := by rfl) (hpl : ((backTo pos (starEach [] X.env)).any (·.1) || (backToKw pos (keywordEach kws X.env)).any (·.1.isNone)) = false := by rfl)
    (hdb : (x == ("__debug__" : Str)) = false := by decide) : PE X (.Call (.Name x p) [] kws pos) (tCk0 sp gV E0 tk) := by
  obtain ⟨f, fd, ps, g, F, hm, kp, hb⟩ := c.ex
  refine ⟨fun pins s σ H Q I h => ?_⟩
  refine wpAny_Call_Name_kw (ld_glob I hg hm ?_ hdb)
  refine PySem.W.callWith_KW0 (h₀ := X.base) I.ok.mod.kin kp hall (thn (hkw.run pos pins s σ H _ I h) fun ws s2 ⟨zs, H2, I2, rz, q2⟩ => ⟨I2.kIn, ?_⟩) hpl
  rw [hks]
  exact run_fnk (us := []) (vs := []) F (hr.mono hk) hb pass0 I2 .nil rz q2
end
end HM
namespace L2
open PySem PySem.Spec PyProof.Rows
theorem hm_tuple_mul0 (l : Addr) (items : Array Value) (n : Nat) (dd : Option Addr) (sl : Array (Option Value)) (x : Int) (u : Tok) (c0 : (decide (x < -(2 ^ 63)) || decide (x ≥ 2 ^ 63)) = false) (c1 : (items.isEmpty || x == 1) = false) (c2 : (decide (x ≤ 0) || items.isEmpty) = true) :
    Meets (Builtin.«tuple.__mul__» ⟨[.ref l, .int x u], []⟩) (fun _ R s => s.heap.get? l = some { cls := .type "tuple", dict := dd, data := .seq items n, slots := sl } ∧
      R (.ok (.ret (Value.ref s.heap.objs.size))) { s with heap := s.heap.push { cls := Value.type "tuple", data := Data.seq #[] }, toks := s.toks }) :=
  .of_wp fun prog w A R s h => by
    obtain ⟨hp, g, d, tk, os⟩ := s
    obtain ⟨hl, h⟩ := h
    have f1 := AutoSeq1.idx_int
    wp_walk using wpAny_loadPart' hl
    repeat (first
      | (refine wpAny_ite_false (decide_eq_false (by rw [c0]; exact Bool.false_ne_true)) ?_; wp_walk using wpAny_loadPart' hl)
      | (refine wpAny_ite_false (decide_eq_false (by rw [c1]; exact Bool.false_ne_true)) ?_; wp_walk using wpAny_loadPart' hl)
      | (refine wpAny_ite_true (decide_eq_true c2) ?_; wp_walk using wpAny_loadPart' hl))
    exact ⟨_, rfl, h⟩
theorem hm_tuple_mul1 (l : Addr) (items : Array Value) (n : Nat) (dd : Option Addr) (sl : Array (Option Value)) (x : Int) (u : Tok) (c0 : (decide (x < -(2 ^ 63)) || decide (x ≥ 2 ^ 63)) = false) (c1 : (items.isEmpty || x == 1) = true) :
    Meets (Builtin.«tuple.__mul__» ⟨[.ref l, .int x u], []⟩) (fun _ R s => s.heap.get? l = some { cls := .type "tuple", dict := dd, data := .seq items n, slots := sl } ∧
      R (.ok (.ret (Value.ref l))) s) :=
  .of_wp fun prog w A R s h => by
    obtain ⟨hp, g, d, tk, os⟩ := s
    obtain ⟨hl, h⟩ := h
    have f1 := AutoSeq1.idx_int
    wp_walk using wpAny_loadPart' hl
    repeat (first
      | (refine wpAny_ite_false (decide_eq_false (by rw [c0]; exact Bool.false_ne_true)) ?_; wp_walk using wpAny_loadPart' hl)
      | (refine wpAny_ite_true (decide_eq_true c1) ?_; wp_walk using wpAny_loadPart' hl))
    exact ⟨_, rfl, h⟩
section
variable {X : Cx}
theorem hm_op_repTA : OpR X (binaryOp .Mult) (HM.rRepTA X.K) := by
  intro pins s σ H x y v u Q I rx ry h
  obtain ⟨l, k, xs, rfl, rfl, hT, hne, h0, h1, hz, q⟩ := h
  by_cases h2 : 2 ≤ k
  · exact op_repT pins s σ H _ _ v u Q I rx ry ⟨l, k, xs, rfl, rfl, Evl.st_of hT, hne, h2, h1, hz, fun p hp => q _ _ (Evl.Ex.new hp) ⟨p, rfl, upd_same⟩⟩
  cases rx
  obtain ⟨t, rfl⟩ := ry
  obtain ⟨its, r, ⟨⟨cls, dd, data, sl⟩, ho, hc, n, hd⟩, hs⟩ := I.tuple (Evl.st_of hT)
  simp only at hc hd
  subst hc hd
  have hle : its.length = xs.length := r.length.symm
  have hn : its ≠ [] := fun e => hne (by
    rw [e] at hle
    exact List.eq_nil_of_length_eq_zero hle.symm)
  have hi : its.toArray.isEmpty = false := by
    cases its with
    | nil => exact absurd rfl hn
    | cons a b => rfl
  have c0 : (decide (k < -(2 ^ 63)) || decide (k ≥ 2 ^ 63)) = false := by
    rw [decide_eq_false (by omega), decide_eq_false (by omega)] <;> rfl
  by_cases h3 : k = 1
  · subst h3
    have c1 : (its.toArray.isEmpty || (1 : Int) == 1) = true := by rw [hi]; rfl
    refine wpAny_binaryOp_repeat_ref (T := "tuple") (U := "int") (by decide) ⟨_, ho, rfl⟩ (fun s' => typeIs_int s' 1 t) noFill_tuple_mul F.fills_int_mul F.slot_int_rmul repeat_tuple F.slot_int_index.lookup
      (call_meets F.slot_int_rmul (typeIs_int s 1 t) F.entry_int_rmul (F.args_int_rmul_2 _ _) (int_rmul_tuple 1 t l its.toArray n dd sl)
        ⟨ho, rfl, ⟨_, ho, rfl⟩, call_meets F.slot_tuple_mul ⟨_, ho, rfl⟩ F.entry_tuple_mul (F.args_tuple_mul_2 _ _) (hm_tuple_mul1 l its.toArray n dd sl 1 t c0 c1) ⟨ho, ?_⟩⟩)
    exact ⟨.ref l, H, I, rfl, q _ _ (Evl.Ex.refl H) ⟨l, rfl, by simpa using hT⟩⟩
  · have h4 : k = 0 := by omega
    subst h4
    have c1 : (its.toArray.isEmpty || (0 : Int) == 1) = false := by rw [hi]; rfl
    have c2 : (decide ((0 : Int) ≤ 0) || its.toArray.isEmpty) = true := by rw [hi]; rfl
    refine wpAny_binaryOp_repeat_ref (T := "tuple") (U := "int") (by decide) ⟨_, ho, rfl⟩ (fun s' => typeIs_int s' 0 t) noFill_tuple_mul F.fills_int_mul F.slot_int_rmul repeat_tuple F.slot_int_index.lookup
      (call_meets F.slot_int_rmul (typeIs_int s 0 t) F.entry_int_rmul (F.args_int_rmul_2 _ _) (int_rmul_tuple 0 t l its.toArray n dd sl)
        ⟨ho, rfl, ⟨_, ho, rfl⟩, call_meets F.slot_tuple_mul ⟨_, ho, rfl⟩ F.entry_tuple_mul (F.args_tuple_mul_2 _ _) (hm_tuple_mul0 l its.toArray n dd sl 0 t c0 c1 c2) ⟨ho, ?_⟩⟩)
    exact ⟨.ref s.heap.objs.size, _, I.laid (t' := s.toks) (o := .tup []) (fun b ob q => Heap.get?_push_of_some _ q) (Nat.le_refl _) ⟨Nat.zero_le _, [], .nil, IsTup.new _ _⟩, rfl, q _ _ (Evl.Ex.new (I.hok.fresh (Nat.le_refl _))) ⟨_, rfl, upd_same⟩⟩
end
end L2

/-! sorted of mats (n, m, mates), n and m alike in all of them -/
namespace HMS
open PySem PySem.W PySem.Calls PyProof.Rows Builtin
theorem canLayT (ns : List Int) : SeqAt.shaped (.tuple (ns.map PyData.int)) = true := by
  simp [SeqAt.shaped, PyData.canLay0, PyData.depth, ke_canLayAll0, ke_depthAll]
theorem eqvI : ∀ ns ms : List Int, PyData.eqvAll (ns.map PyData.int) (ms.map PyData.int) = decide (ns = ms)
  | [], [] => by simp [PyData.eqvAll]
  | [], _ :: _ => by simp [PyData.eqvAll]
  | _ :: _, [] => by simp [PyData.eqvAll]
  | a :: r, b :: t => by
    simp only [List.map_cons, PyData.eqvAll, PyData.eqv, eqvI r t]
    by_cases h : a = b <;> by_cases h' : r = t <;> simp [h, h']
theorem eqvT (ns ms : List Int) : PyData.eqv (.tuple (ns.map PyData.int)) (.tuple (ms.map PyData.int)) = decide (ns = ms) := by
  simp only [PyData.eqv]
  exact eqvI ns ms
section
variable {prog : Program} {w : World} {A : Around} {E : Value → Shared → Prop} {s : Shared}
theorem reads_tup {a : Addr} {xs : Array Value} {ns : List Int} (h : IsTup s.heap a xs) (i : IntsAre xs.toList ns) : ∃ as, Reads s.heap (.ref a) (.tuple (ns.map PyData.int)) as := by
  obtain ⟨o, ho, hc, n, hd⟩ := h
  have : ∀ {vs : List Value} {ns : List Int}, IntsAre vs ns → ∃ as, ReadsAll s.heap vs (ns.map PyData.int) as := by
    intro vs ns i
    induction i with
    | nil => exact ⟨_, ReadsAll.nil⟩
    | cons a t r ih =>
      obtain ⟨as, q⟩ := ih
      exact ⟨_, ReadsAll.cons (Reads.int a t) q⟩
  obtain ⟨as, q⟩ := this i
  exact ⟨_, Reads.tuple ho hc hd q⟩
theorem eq_tupInts {a b : Addr} {xs ys : Array Value} {ns ms : List Int} (h : IsTup s.heap a xs) (h' : IsTup s.heap b ys) (i : IntsAre xs.toList ns) (i' : IntsAre ys.toList ms) (hu : A.units + 64 < cLine) :
    SeqAt.EqAt A s (.ref a) (.ref b) (decide (ns = ms)) := by
  obtain ⟨as, r⟩ := reads_tup h i
  obtain ⟨bs, r'⟩ := reads_tup h' i'
  rw [← eqvT]
  exact SeqAt.eqAt_reads _ _ A s _ _ as bs r r' (SeqAt.canLay_of_shaped (canLayT ns)) (SeqAt.canLay_of_shaped (canLayT ms)) (SeqAt.room_of_shaped (canLayT ns) hu)
/-- a mat of n and m pegs whose mates are ns -/
def IsM (h : Heap) (v : Value) (n m : Int) (ns : List Int) : Prop :=
  ∃ (a q : Addr) (o : Obj) (t u : Tok) (k : Nat) (xs : Array Value), v = .ref a ∧ h.get? a = some o ∧ o.cls = .type "tuple" ∧ o.data = .seq #[.int n t, .int m u, .ref q] k ∧ IsTup h q xs ∧ IntsAre xs.toList ns
theorem IsM.keeps {h h' : Heap} {v : Value} {n m : Int} {ns : List Int} (p : IsM h v n m ns) (k : ∀ b o, h.get? b = some o → o.cls = .type "tuple" → h'.get? b = some o) : IsM h' v n m ns := by
  obtain ⟨a, q, o, t, u, j, xs, e, ho, hc, hd, ⟨oq, hq, hcq, hdq⟩, i⟩ := p
  exact ⟨a, q, o, t, u, j, xs, e, k _ _ ho hc, hc, hd, ⟨oq, k _ _ hq hcq, hcq, hdq⟩, i⟩
theorem lexLt_self : ∀ ns : List Int, HT.lexLt ns ns = false
  | [] => HT.lexLt_nil_nil
  | x :: r => by rw [HT.lexLt_cons, if_pos rfl]; exact lexLt_self r
theorem mat_cmp {vs : List Value} {n m : Int} {k : Value → List Int} (hu : A.units + 64 < cLine) (hp : ∀ v ∈ vs, IsM s.heap v n m (k v)) : SrtO.Cmp prog w A s (tuples' true) (fun p => p.1 ∈ vs) (SrtO.lt2 fun v u => HT.lexLt (k v) (k u)) := by
  intro p q hm hm'
  have h1 := hp _ hm
  have h2 := hp _ hm'
  show wpAny (model prog w) A (keyLt' (tuples' true) p.1 q.1) (fun r s' => s' = s ∧ r = HT.lexLt (k p.1) (k q.1)) (fun _ _ => False) s
  generalize k p.1 = ns at h1 ⊢
  generalize k q.1 = ms at h2 ⊢
  obtain ⟨a, qa, o, t, u, j, xs, e, ho, hc, hd, hq, i⟩ := h1
  obtain ⟨a', qa', o', t', u', j', xs', e', ho', hc', hd', hq', i'⟩ := h2
  rw [e, e']
  refine PySem.W.kat_lt ho hd ho' hd' ?_
  show PySem.W.KatLex prog w A true (decide (3 < 3)) _ [(.int n t, .int n t'), (.int m u, .int m u'), (.ref qa, .ref qa')] 0 s
  refine PySem.W.kat_cons (SeqAt.EqAt.int_int n t n t' prog w _ _ ?_)
  refine PySem.W.kat_go (fun _ => ?_) (fun e1 => absurd e1 (by simp))
  refine PySem.W.kat_yes (PySem.W.kat_cons (SeqAt.EqAt.int_int m u m u' prog w _ _ ?_))
  refine PySem.W.kat_go (fun _ => ?_) (fun e1 => absurd e1 (by simp))
  refine PySem.W.kat_yes (PySem.W.kat_cons (eq_tupInts hq hq' i i' hu prog w _ _ ?_))
  refine PySem.W.kat_go (fun e1 => ?_) (fun e1 => ?_)
  · have en : ns = ms := of_decide_eq_true e1
    refine PySem.W.kat_yes (PySem.W.kat_nil ⟨rfl, ?_⟩)
    rw [en, lexLt_self]
    rfl
  · refine PySem.W.kat_no (PySem.W.kat_one _ _ (HT.lt_tupInts hq hq' i i' (by omega) ?_))
    exact (show s = s ∧ HT.lexLt ns ms = HT.lexLt ns ms from ⟨rfl, rfl⟩)
theorem firsts_of {h : Heap} {n m : Int} {k : Value → List Int} : ∀ {vs : List Value}, (∀ v ∈ vs, IsM h v n m (k v)) → ∃ fs : List Value, PySem.W.KatTups h vs fs ∧ fs.length = vs.length ∧ ∀ f ∈ fs, ∃ x t, f = Value.int x t
  | [], _ => ⟨[], PySem.W.KatTups.nil, rfl, fun _ hm => by simp at hm⟩
  | v :: vs, hp => by
    obtain ⟨fs, h1, h2, h3⟩ := firsts_of (vs := vs) fun v' hm => hp v' (List.mem_cons_of_mem _ hm)
    obtain ⟨a, qa, o, t, u, j, xs, e, ho, hc, hd, hq, i⟩ := hp v (List.mem_cons_self ..)
    subst e
    refine ⟨.int n t :: fs, PySem.W.KatTups.cons ho hc hd rfl h1, by rw [List.length_cons, List.length_cons, h2], fun f hm => ?_⟩
    rcases List.mem_cons.mp hm with rfl | hm
    · exact ⟨n, t, rfl⟩
    · exact h3 f hm
theorem mats_sortable {a : Addr} {vs : List Value} {n m : Int} {k : Value → List Int} (hu : A.units + 64 < cLine) (h0 : 0 < vs.length) (hp : ∀ v ∈ vs, IsM s.heap v n m (k v)) (ha : ∀ o, s.heap.get? a = some o → o.cls ≠ .type "tuple") : SrtO.SortableO prog w A s a vs fun v u => HT.lexLt (k v) (k u) := by
  intro h' keep
  have hp' : ∀ v ∈ vs, IsM h' v n m (k v) := fun v hm => (hp v hm).keeps fun b o e c => keep b o (fun z => by subst z; exact ha o e c) e
  obtain ⟨fs, h1, h2, h3⟩ := firsts_of hp'
  refine ⟨tuples' true, fun Q E hq => ?_, mat_cmp (s := { s with heap := h' }) hu hp'⟩
  refine PySem.W.kat_kind (T := .type "int") h1 (by omega) (fun f hm => ?_) (by rfl) ?_
  · obtain ⟨x, t, rfl⟩ := h3 f hm
    exact PySem.W.Looks.now
  · have e : (Value.type "int" != Value.type "tuple") = true := by first | decide +kernel | rfl | decide
    rw [e]
    exact hq
theorem sorted_mats {l : Addr} {vs : List Value} {n m : Int} {k : Value → List Int} {Q : Value → Shared → Prop} (hu : A.in1.in1.units + 64 < cLine) (hl : s.heap.IsList l vs.toArray) (hz : vs.length ≤ sizeLine) (hp : ∀ v ∈ vs, IsM s.heap v n m (k v))
    (h : ∀ (h' : Heap) (d : Addr) (out : List Value), SrtO.Srtd (fun v u => HT.lexLt (k v) (k u)) out → SrtO.Stb (fun v u => HT.lexLt (k v) (k u)) out vs → (∀ b o, s.heap.get? b = some o → h'.get? b = some o) → s.heap.objs.size ≤ d → (∃ n, h'.get? d = some (seqObj "list" out.toArray n)) → Q (.ref d) { s with heap := h' }) :
    wpAny (model prog w) A (call (.builtin "sorted") [.ref l]) Q E s := by
  refine SrtO.sorted_ord (NtL.swo_lexL k) hl hz (fun h2 h₁ a ha kk => ?_) fun out hs hb => ?_
  · refine mats_sortable (s := { s with heap := h₁ }) hu (by omega) (fun v hm => (hp v hm).keeps fun b o e _ => (kk b o e).2) fun o e => ?_
    have e' : some o = some (seqObj "list" vs.toArray 0) := e.symm.trans ha
    cases e'
    intro c
    exact absurd (Value.type.inj c) (by decide)
  · exact h _ _ out hs hb (fun b o e => sortedAll_old e) (Nat.le_succ _) (sortedAll_at s.heap vs out.toArray)
end
end HMS
namespace HM
open PySem PySem.Spec PyProof.Rows L2
/-- sorted(xs), xs a list of mats of n and m: a new list of them, ascending by their mates -/
def rSortM (K : PySem.W.Frag) : List V → Hp → VK → Prop := fun vs H Q => ∃ (a : Addr) (as : List Addr) (n m : Int) (f : Addr → List Int), vs = [V.ref a] ∧ SqL K H a (as.map V.ref) ∧
  (∀ t ∈ as, ∃ q, H t = some (.tup [.int n, .int m, .ref q]) ∧ H q = some (.tup ((f t).map V.int))) ∧
  ∀ (bs : List Addr) (p : Addr), bs.Perm as → bs.Pairwise (fun s t => HT.lexLt (f t) (f s) = false) → H p = none → Q (.ref p) (upd H p (.lst (bs.map V.ref)))
theorem back_map : ∀ {out : List Value}, (∀ u ∈ out, ∃ a, u = Value.ref a) → ∃ bs : List Addr, out = bs.map Value.ref
  | [], _ => ⟨[], rfl⟩
  | u :: r, h => by
    obtain ⟨a, rfl⟩ := h u (List.mem_cons_self ..)
    obtain ⟨bs, rfl⟩ := back_map (out := r) fun v hv => h v (List.mem_cons_of_mem _ hv)
    exact ⟨a :: bs, rfl⟩
theorem vals_refs : ∀ (bs : List Addr), Vals (bs.map V.ref) (bs.map Value.ref)
  | [] => .nil
  | _ :: r => .cons rfl (vals_refs r)
theorem refs_of : ∀ {as : List Addr} {its : List Value}, Vals (as.map V.ref) its → its = as.map Value.ref
  | [], _, .nil => rfl
  | a :: r, _, .cons h t => by
    have e : _ = Value.ref a := h
    rw [e, refs_of t]
    rfl
section
variable {X : Cx}
theorem cr_sortM (hu : X.A.units + 80 < cLine) : CallR X (.builtin "sorted") (rSortM X.K) := by
  intro pins s σ H vs us Q I r h
  obtain ⟨a, as, n, m, f, rfl, hs, hx, q⟩ := h
  obtain ⟨its, rv, hl, hz⟩ := I.list hs
  obtain ⟨u, rfl, ru⟩ := vals1 r
  obtain rfl : u = Value.ref a := ru
  have ei := refs_of rv
  subst ei
  let k : Value → List Int := fun v => match v with | .ref t => f t | _ => []
  refine HMS.sorted_mats (n := n) (m := m) (k := k) (by show X.A.units + 1 + 1 + 64 < cLine; omega) hl.isList (by rw [← rv.length]; exact hz) (fun v hv => ?_) fun h' d out h1 h2 kp hd hn => ?_
  · obtain ⟨t, ht, rfl⟩ := List.mem_map.mp hv
    obtain ⟨q', h3, h4⟩ := hx t ht
    obtain ⟨_, its2, r2, o, ho, hc, j, hd⟩ := I.hok _ _ h3
    obtain ⟨_, its3, r3, ht3⟩ := I.hok _ _ h4
    cases r2 with
    | cons r21 r2 =>
      cases r2 with
      | cons r22 r2 =>
        cases r2 with
        | cons r23 r2 =>
          cases r2
          obtain ⟨t1, rfl⟩ := r21
          obtain ⟨t2, rfl⟩ := r22
          cases r23
          exact ⟨t, q', o, t1, t2, j, its3.toArray, rfl, ho, hc, hd, ht3, intsAre_of r3⟩
  · have h3 : ∀ u ∈ out, ∃ a, u = Value.ref a := fun u hu => by
      obtain ⟨t, _, rfl⟩ := List.mem_map.mp (h2.perm.mem_iff.mp hu)
      exact ⟨t, rfl⟩
    obtain ⟨n2, hn⟩ := hn
    obtain ⟨bs, rfl⟩ := back_map h3
    have pm : bs.Perm as := by
      have := h2.perm.map (fun v : Value => match v with | .ref t => t | _ => 0)
      simpa [List.map_map, Function.comp_def] using this
    refine ⟨.ref d, upd H d (.lst (bs.map V.ref)), I.laid (t' := s.toks) kp hd ⟨?_, bs.map Value.ref, n2, vals_refs bs, hn⟩, rfl, q bs d pm ?_ (I.hok.fresh hd)⟩
    · rw [List.length_map, pm.length_eq]
      rw [List.length_map] at hz
      exact hz
    · exact List.pairwise_map.mp h1
end
end HM
namespace HM
open PySem PySem.Spec PyProof.Rows L2 Evl
/-! ### defs of the text -/
structure DefOk (K : PySem.W.Frag) (mg : Str → Option Value) (x : Str) (st : Stmt) : Prop where
  ex : ∃ (f : Addr) (fd : FuncData), Fun K x x st f fd ∧ mg x = some (.ref f)
abbrev BindsBy (x : Str) (st : Stmt) (ps : List Str) : Prop := ∀ (kV doc pm : Value) (an : Option Addr) (cdv ct : Value) (us : List Value), us.length = ps.length → bindArgs (PySem.W.fnOf x x (defArgs st) (defBody st) (defScope st) .none kV doc pm an cdv ct) ⟨us, []⟩ = pure (ps.zip us)
section
variable {P : Program} {w : World} {K : PySem.W.Frag} {mg : Str → Option Value} {base : Heap}
theorem cal_of {x : Str} {st : Stmt} {N ps : List Str} {k : Nat} {sp : Sp} (D : DefOk K mg x st) (S : FnScope N ps (defScope st)) (hb : BindsBy x st ps) (len : ∀ vs H Q E, sp vs H Q E → vs.length = ps.length)
    (hbody : ∀ (f : Addr) (cdv : Value) (A : Around) (outer : List Env) (s : Shared) (H : Hp) (vs : List V) (Q : VK) (E : XK), Room k (A.deeper (envOfC x (defScope st) s.heap.objs.size f cdv)) → sp vs H Q E →
      ∃ t, PSs (cxOf CX0 P w K mg base N x (defScope st) f cdv A outer s H E).nox (defBody st) t ∧ t { nx := fun _ H' => Q .non H', rt := Q } (start N vs) H) : Cal P w K mg base (k + 1) x sp := by
  obtain ⟨f, fd, F, hm⟩ := D.ex
  exact ⟨f, fd, ps, F.ok S len (fun cdv A outer s H vs Q E hr h => hbody f cdv A outer s H vs Q E hr h), hm, F.kp, F.binds hb⟩
end
/-! ### data -/
abbrev vi (n : Nat) : V := .int (n : Int)
abbrev vl (l : List Nat) : List V := l.map vi
abbrev vz (l : List Int) : List V := l.map V.int
abbrev vb (l : List Bool) : List V := l.map V.bl
def MatAt (H : Hp) (a : Addr) (n m : Nat) (ms : List Nat) : Prop := ∃ q, H a = some (.tup [vi n, vi m, .ref q]) ∧ H q = some (.tup (vl ms))
theorem MatAt.ex {H H' : Hp} {a : Addr} {n m : Nat} {ms : List Nat} (h : MatAt H a n m ms) (e : Ex H H') : MatAt H' a n m ms := let ⟨q, h1, h2⟩ := h; ⟨q, e _ _ h1, e _ _ h2⟩
theorem at_vl {l : List Nat} {i : Nat} (h : i < l.length) : atI (vl l) (i : Int) = some (vi (Ma.g l i)) := by
  refine atI_nat ?_
  rw [List.getElem?_map, Ma.g_get h]
  rfl
theorem at_vlI {l : List Nat} {z : Int} {i : Nat} (e : z = (i : Int)) (h : i < l.length) : atI (vl l) z = some (vi (Ma.g l i)) := by rw [e]; exact at_vl h
/-! ### what evaluates to what: more -/
section
variable {K : PySem.W.Frag} {σ : L2.St} {H H' : Hp} {ta tb te tx : TE} {t u : TT} {x y z v : V} {D : Ends} {tu tw tz : TS} {g : TG}
theorem rv_ixl {p : Addr} {xs : List V} {i : Int} (h : H p = some (.lst xs)) (ha : atI xs i = some v) : RV (rIx K) (.ref p) (.int i) H v := fun H1 e _ q => .inl ⟨p, xs, i, v, rfl, rfl, sq_of (e _ _ h), ha, q H1 (Ex.refl H1)⟩
theorem rv_ixt {p : Addr} {xs : List V} {i : Int} (h : H p = some (.tup xs)) (ha : atI xs i = some v) : RV (rIx K) (.ref p) (.int i) H v := fun H1 e _ q => .inr (.inl ⟨p, xs, i, v, rfl, rfl, st_of (e _ _ h), ha, q H1 (Ex.refl H1)⟩)
/-- a value made on the way, of which P holds from then on -/
def EvP (te : TE) (σ : L2.St) (H : Hp) (P : V → Hp → Prop) : Prop := ∀ H1, Ex H H1 → ∀ Q : VK, (∀ v H2, Ex H1 H2 → P v H2 → Q v H2) → te σ H1 Q
theorem EvP.mono {P : V → Hp → Prop} (e : Ex H H') (h : EvP te σ H P) : EvP te σ H' P := fun H1 a Q q => h H1 (e.trans a) Q q
theorem ep_of (h : Ev te σ H v) {P : V → Hp → Prop} (hp : ∀ H1, Ex H H1 → P v H1) : EvP te σ H P := fun H1 e Q q => h H1 e _ fun H2 e2 => q v H2 e2 (hp H2 (e.trans e2))
theorem s_asgP {i : Nat} {P : V → Hp → Prop} (h : EvP te σ H P) (k : ∀ v H1, Ex H H1 → P v H1 → D.nx (σ.set i (some v)) H1) : tAsg te (gName i) D σ H := h H (Ex.refl H) _ fun v H1 e p => k v H1 e p
theorem q_asgP {i : Nat} {P : V → Hp → Prop} (h : EvP te σ H P) (k : ∀ v H1, Ex H H1 → P v H1 → tz D (σ.set i (some v)) H1) : tSeq (tAsg te (gName i)) tz D σ H := s_asgP (D := { D with nx := tz D }) h k
theorem s_retP {P : V → Hp → Prop} (h : EvP te σ H P) (k : ∀ v H1, Ex H H1 → P v H1 → D.rt v H1) : tRet te D σ H := h H (Ex.refl H) _ k
/-- a call of a def that makes something -/
theorem ep_call {sp : Sp} {E : XK} {ta : TA} {vs : List V} {P : V → Hp → Prop} (h : EvA ta σ H vs) (hs : ∀ H1, Ex H H1 → ∀ Q : VK, (∀ v H2, Ex H1 H2 → P v H2 → Q v H2) → sp vs H1 Q E) : EvP (tCall sp [] E ta) σ H P := fun H1 e Q q =>
  h H1 e _ fun H2 e2 => by
    show sp (vs ++ []) H2 Q E
    rw [List.append_nil]
    exact hs H2 (e.trans e2) Q fun v H3 e3 p => q v H3 (e2.trans e3) p
theorem ev_callV {sp : Sp} {E : XK} {ta : TA} {vs : List V} (h : EvA ta σ H vs) (hs : ∀ H1, Ex H H1 → ∀ Q : VK, (∀ H2, Ex H1 H2 → Q z H2) → sp vs H1 Q E) : Ev (tCall sp [] E ta) σ H z := fun H1 e Q q =>
  h H1 e _ fun H2 e2 => by
    show sp (vs ++ []) H2 Q E
    rw [List.append_nil]
    exact hs H2 (e.trans e2) Q fun H3 e3 => q H3 (e2.trans e3)
/-- two names at once -/
theorem q_par {i j : Nat} {ta : TA} (h : EvA ta σ H [x, y]) (k : ∀ H1, Ex H H1 → tz D ((σ.set i (some x)).set j (some y)) H1) : tSeq (tPar i j ta) tz D σ H := h H (Ex.refl H) _ fun H1 e => ⟨x, y, rfl, k H1 e⟩
theorem q_par3 {i j l : Nat} {ta : TA} (h : EvA ta σ H [x, y, z]) (k : ∀ H1, Ex H H1 → tz D (((σ.set i (some x)).set j (some y)).set l (some z)) H1) : tSeq (tPar3 i j l ta) tz D σ H := h H (Ex.refl H) _ fun H1 e => ⟨x, y, z, rfl, k H1 e⟩
/-- a, b, c = a tuple of three -/
theorem q_un3 {i j l : Nat} {a : Addr} (h : Ev te σ H (.ref a)) (ha : H a = some (.tup [x, y, z])) (k : ∀ H1, Ex H H1 → tz D (((σ.set i (some x)).set j (some y)).set l (some z)) H1) : tSeq (tAsg te (gTup K 3 (gCons (gName i) (gCons (gName j) (gCons (gName l) gNil))))) tz D σ H :=
  h H (Ex.refl H) _ fun H1 e => ⟨a, _, rfl, st_of (e _ _ ha), rfl, x, [y, z], rfl, y, [z], rfl, z, [], rfl, rfl, k H1 e⟩
theorem ev_lenS {p : Addr} {xs : List V} {n : Nat} (ha : Ev ta σ H (.ref p)) (h : SqL K H p xs ∨ SqT K H p xs) (hn : xs.length = n) : Ev (tCB (rLenS K) (tCons ta tNil)) σ H (vi n) := fun H1 e Q q =>
  ha H1 e _ fun H2 e2 => ⟨p, xs, rfl, h.elim (fun h => .inl (ex_l (e.trans e2) h)) (fun h => .inr (ex_t (e.trans e2) h)), by rw [hn]; exact q H2 e2⟩
theorem ev_lenL {p : Addr} {xs : List V} {n : Nat} (ha : Ev ta σ H (.ref p)) (h : H p = some (.lst xs)) (hn : xs.length = n) : Ev (tCB (rLenS K) (tCons ta tNil)) σ H (vi n) := ev_lenS ha (.inl (sq_of h)) hn
theorem ev_lenT {p : Addr} {xs : List V} {n : Nat} (ha : Ev ta σ H (.ref p)) (h : H p = some (.tup xs)) (hn : xs.length = n) : Ev (tCB (rLenS K) (tCons ta tNil)) σ H (vi n) := ev_lenS ha (.inr (st_of h)) hn
theorem ev_isI {i j : Int} (h : Ev te σ H (.int i)) (e : i = j) : Ev te σ H (.int j) := by rw [← e]; exact h
theorem et_eqI {a b : Int} (ha : Ev ta σ H (.int a)) (hb : Ev tb σ H (.int b)) : EvT (tTest (tOp rEq ta tb)) σ H (decide (a = b)) := et_is (et_test (ev_op ha hb (rv_eq rfl))) (by by_cases h : a = b <;> simp [h])
theorem et_neI {a b : Int} (ha : Ev ta σ H (.int a)) (hb : Ev tb σ H (.int b)) : EvT (tTest (tOp rNe ta tb)) σ H (!decide (a = b)) := et_is (et_test (ev_op ha hb (rv_ne rfl))) (by by_cases h : a = b <;> simp [h])
theorem et_I {g : Int → Int → Bool} {a b : Int} (ha : Ev ta σ H (.int a)) (hb : Ev tb σ H (.int b)) : EvT (tTest (tOp (rI0 fun i j => .bl (g i j)) ta tb)) σ H (g a b) := et_test (ev_op ha hb rv_I0)
/-- an if whose test is known -/
theorem q_ifF (h : EvT t σ H false) (k : ∀ H1, Ex H H1 → tz D σ H1) : tSeq (tIfS t tu tNext) tz D σ H := q_when h (fun z => by cases z) fun _ => k
theorem s_ifF (h : EvT t σ H false) (k : ∀ H1, Ex H H1 → D.nx σ H1) : tIfS t tu tNext D σ H := s_when h (fun z => by cases z) fun _ => k
theorem el_is {xs ys : List V} (h : EvL te σ H xs) (e : xs = ys) : EvL te σ H ys := by rw [← e]; exact h
theorem vl_rg (a b : Nat) : rgV (a : Int) (b : Int) = vl ((List.range (b - a)).map (a + ·)) := by
  unfold rgV vl
  rw [show ((b : Int) - (a : Int)).toNat = b - a by omega, List.map_map]
  refine List.map_congr_left fun x _ => ?_
  show V.int _ = V.int _
  congr 1
theorem el_rg1 {n : Nat} (h : Ev ta σ H (vi n)) (hn : n ≤ 100000) : EvL (tLstRg (tRg1 ta)) σ H (vl (List.range n)) := fun H1 e Q q =>
  h H1 e _ fun H2 e2 => ⟨_, rfl, .of_le (by omega) (by omega) (by omega) (by omega), fun p hp => by
    have e3 : rgV 0 (n : Int) = vl (List.range n) := by
      have := vl_rg 0 n
      simpa using this
    rw [e3]
    exact q p _ (fresh_back e2 hp) (e2.trans (Ex.new hp)) upd_same⟩
theorem el_rg2 {a b : Nat} (h : Ev ta σ H (vi a)) (h' : Ev tb σ H (vi b)) (ha : a ≤ 100000) (hn : b ≤ 100000) : EvL (tLstRg (tRg2 ta tb)) σ H (vl ((List.range (b - a)).map (a + ·))) := fun H1 e Q q =>
  h H1 e _ fun H2 e2 => h' H2 (e.trans e2) _ fun H3 e3 => ⟨_, _, rfl, rfl, .of_le (by omega) (by omega) (by omega) (by omega), fun p hp => by
    rw [vl_rg]
    exact q p _ (fresh_back (e2.trans e3) hp) ((e2.trans e3).trans (Ex.new hp)) upd_same⟩
theorem el_rg3 {ta : TA} {i j c : Int} {n : Nat} (h : EvA ta σ H [.int i, .int j, .int c]) (hc : RgC i j c n) (hn : n ≤ 100000) : EvL (tLstRg3 ta) σ H ((List.range n).map fun t => .int (i + (t : Nat) * c)) := fun H1 e Q q =>
  h H1 e _ fun H2 e2 => ⟨i, j, c, n, rfl, hc, hn, fun p hp => q p _ (fresh_back e2 hp) (e2.trans (Ex.new hp)) upd_same⟩
theorem el_rev {a b : Nat} (h : Ev ta σ H (vi a)) (h' : Ev tb σ H (vi b)) (ha : a ≤ 100000) (hn : b ≤ 100000) : EvL (tLstRev (tRg2 ta tb)) σ H (vl ((List.range (b - a)).map (b - 1 - ·))) := fun H1 e Q q =>
  h H1 e _ fun H2 e2 => h' H2 (e.trans e2) _ fun H3 e3 => ⟨_, _, rfl, rfl, ⟨.of_le (by omega) (by omega) (by omega) (by omega), by omega⟩, fun p hp => by
    have e4 : ((List.range ((b : Int) - (a : Int)).toNat).map fun t => V.int ((b : Int) - 1 - (t : Nat))) = vl ((List.range (b - a)).map (b - 1 - ·)) := by
      unfold vl
      rw [show ((b : Int) - (a : Int)).toNat = b - a by omega, List.map_map]
      refine List.map_congr_left fun x hx => ?_
      have := List.mem_range.mp hx
      show V.int _ = V.int _
      congr 1
      show _ = ((b - 1 - x : Nat) : Int)
      omega
    rw [e4]
    exact q p _ (fresh_back (e2.trans e3) hp) ((e2.trans e3).trans (Ex.new hp)) upd_same⟩
theorem el_cat {xs ys : List V} (ha : EvL ta σ H xs) (hb : EvL tb σ H ys) (hz : xs.length + ys.length ≤ 100000) : EvL (tOp rCat ta tb) σ H (xs ++ ys) := fun H1 e Q q =>
  ha H1 e _ fun a H2 na e2 h2 => hb H2 (e.trans e2) _ fun b H3 nb e3 h3 => ⟨a, b, xs, ys, rfl, rfl, e3 _ _ h2, h3, sz_of hz, fun p hp => q p _ (fresh_back (e2.trans e3) hp) ((e2.trans e3).trans (Ex.new hp)) upd_same⟩
theorem el_catV {p q : Addr} {xs ys : List V} (ha : Ev ta σ H (.ref p)) (hb : Ev tb σ H (.ref q)) (h1 : H p = some (.lst xs)) (h2 : H q = some (.lst ys)) (hz : xs.length + ys.length ≤ 100000) : EvL (tOp rCat ta tb) σ H (xs ++ ys) := fun H1 e Q k =>
  ha H1 e _ fun H2 e2 => hb H2 (e.trans e2) _ fun H3 e3 => ⟨p, q, xs, ys, rfl, rfl, ((e.trans e2).trans e3) _ _ h1, ((e.trans e2).trans e3) _ _ h2, sz_of hz, fun l hl => k l _ (fresh_back (e2.trans e3) hl) ((e2.trans e3).trans (Ex.new hl)) upd_same⟩
theorem rep_one (x : V) : ∀ k : Nat, (List.replicate k [x]).flatten = List.replicate k x
  | 0 => rfl
  | k + 1 => by rw [List.replicate_succ, List.flatten_cons, rep_one x k, List.replicate_succ]; rfl
theorem el_rep1 {k : Nat} (ha : EvL ta σ H [x]) (hb : Ev tb σ H (vi k)) (hz : k ≤ 100000) : EvL (tOp rRep ta tb) σ H (List.replicate k x) := fun H1 e Q q =>
  ha H1 e _ fun a H2 na e2 h2 => hb H2 (e.trans e2) _ fun H3 e3 => ⟨a, (k : Int), [x], rfl, rfl, e3 _ _ h2, by omega, by omega, sz_of (by simp; omega), fun p hp => by
    rw [show ((k : Int)).toNat = k by omega, rep_one]
    exact q p _ (fresh_back (e2.trans e3) hp) ((e2.trans e3).trans (Ex.new hp)) upd_same⟩
end
/-! ### what is written -/
/-- all but the objects at W and G is as it was -/
def Frm (W G : Addr) (H H' : Hp) : Prop := ∀ b o, H b = some o → b ≠ W → b ≠ G → H' b = some o
end HM
namespace HM
open PySem PySem.Spec PyProof.Rows L2 Evl
abbrev s_round_of : Stmt := topS 6
abbrev N_round_of : List Str := ["n", "m"]
theorem sc_round_of : FnScope N_round_of ["n", "m"] (defScope s_round_of) := ⟨rfl, rfl, rfl, by decide +kernel, rfl, by decide +kernel, by decide +kernel⟩

abbrev s_is_mat : Stmt := topS 7
abbrev N_is_mat : List Str := ["told", "n", "m", "mates", "many", "peg", "mate", "waiting"]
theorem sc_is_mat : FnScope N_is_mat ["told"] (defScope s_is_mat) := ⟨rfl, rfl, rfl, by decide +kernel, rfl, by decide +kernel, by decide +kernel⟩

abbrev s_checked_mat : Stmt := topS 8
abbrev N_checked_mat : List Str := ["mat"]
theorem sc_checked_mat : FnScope N_checked_mat ["mat"] (defScope s_checked_mat) := ⟨rfl, rfl, rfl, by decide +kernel, rfl, by decide +kernel, by decide +kernel⟩

abbrev s_check_size : Stmt := topS 9
abbrev N_check_size : List Str := ["n"]
theorem sc_check_size : FnScope N_check_size ["n"] (defScope s_check_size) := ⟨rfl, rfl, rfl, by decide +kernel, rfl, by decide +kernel, by decide +kernel⟩

abbrev s_remade : Stmt := topS 10
abbrev N_remade : List Str := ["n", "m", "mates", "place", "row", "peg", "mate"]
theorem sc_remade : FnScope N_remade ["n", "m", "mates", "place"] (defScope s_remade) := ⟨rfl, rfl, rfl, by decide +kernel, rfl, by decide +kernel, by decide +kernel⟩

abbrev s_upside_down : Stmt := topS 11
abbrev N_upside_down : List Str := ["mat", "n", "m", "mates"]
theorem sc_upside_down : FnScope N_upside_down ["mat"] (defScope s_upside_down) := ⟨rfl, rfl, rfl, by decide +kernel, rfl, by decide +kernel, by decide +kernel⟩

abbrev s_through : Stmt := topS 12
abbrev N_through : List Str := ["mat", "n", "m", "mates", "mate"]
theorem sc_through : FnScope N_through ["mat"] (defScope s_through) := ⟨rfl, rfl, rfl, by decide +kernel, rfl, by decide +kernel, by decide +kernel⟩

abbrev s_upper_half : Stmt := topS 13
abbrev N_upper_half : List Str := ["mat", "n", "m", "mates", "row", "below", "peg", "mate"]
theorem sc_upper_half : FnScope N_upper_half ["mat"] (defScope s_upper_half) := ⟨rfl, rfl, rfl, by decide +kernel, rfl, by decide +kernel, by decide +kernel⟩

abbrev s_far_end : Stmt := topS 15
abbrev N_far_end : List Str := ["one", "other", "peg", "passed", "n", "middle", "ahead", "at"]
theorem sc_far_end : FnScope N_far_end ["one", "other", "peg", "passed"] (defScope s_far_end) := ⟨rfl, rfl, rfl, by decide +kernel, rfl, by decide +kernel, by decide +kernel⟩

abbrev s_loose_rings : Stmt := topS 16
abbrev N_loose_rings : List Str := ["one", "other", "passed", "n", "rings", "start", "at"]
theorem sc_loose_rings : FnScope N_loose_rings ["one", "other", "passed"] (defScope s_loose_rings) := ⟨rfl, rfl, rfl, by decide +kernel, rfl, by decide +kernel, by decide +kernel⟩

abbrev s_put_behind : Stmt := topS 17
abbrev N_put_behind : List Str := ["one", "other", "n", "k", "passed", "mates", "peg"]
theorem sc_put_behind : FnScope N_put_behind ["one", "other"] (defScope s_put_behind) := ⟨rfl, rfl, rfl, by decide +kernel, rfl, by decide +kernel, by decide +kernel⟩

abbrev s_check_pair : Stmt := topS 18
abbrev N_check_pair : List Str := ["above", "below"]
theorem sc_check_pair : FnScope N_check_pair ["above", "below"] (defScope s_check_pair) := ⟨rfl, rfl, rfl, by decide +kernel, rfl, by decide +kernel, by decide +kernel⟩

abbrev s_check_halves : Stmt := topS 20
abbrev N_check_halves : List Str := ["n", "k"]
theorem sc_check_halves : FnScope N_check_halves ["n", "k"] (defScope s_check_halves) := ⟨rfl, rfl, rfl, by decide +kernel, rfl, by decide +kernel, by decide +kernel⟩

abbrev s_check_half : Stmt := topS 21
abbrev N_check_half : List Str := ["mat"]
theorem sc_check_half : FnScope N_check_half ["mat"] (defScope s_check_half) := ⟨rfl, rfl, rfl, by decide +kernel, rfl, by decide +kernel, by decide +kernel⟩

abbrev s_rows_of_signs : Stmt := topS 22
abbrev N_rows_of_signs : List Str := ["n", "k", "rows", "left", "longer", "row", "height", "sign", "_"]
theorem sc_rows_of_signs : FnScope N_rows_of_signs ["n", "k"] (defScope s_rows_of_signs) := ⟨rfl, rfl, rfl, by decide +kernel, rfl, by decide +kernel, by decide +kernel⟩

abbrev s_half_of_signs : Stmt := topS 23
abbrev N_half_of_signs : List Str := ["row", "waiting", "mates", "peg", "sign", "below"]
theorem sc_half_of_signs : FnScope N_half_of_signs ["row"] (defScope s_half_of_signs) := ⟨rfl, rfl, rfl, by decide +kernel, rfl, by decide +kernel, by decide +kernel⟩

abbrev s_half_mats : Stmt := topS 24
abbrev N_half_mats : List Str := ["n", "k", "row"]
theorem sc_half_mats : FnScope N_half_mats ["n", "k"] (defScope s_half_mats) := ⟨rfl, rfl, rfl, by decide +kernel, rfl, by decide +kernel, by decide +kernel⟩

abbrev s_paired : Stmt := topS 25
abbrev N_paired : List Str := ["ahead", "other", "rings", "n", "m", "mates", "mate"]
theorem sc_paired : FnScope N_paired ["ahead", "other"] (defScope s_paired) := ⟨rfl, rfl, rfl, by decide +kernel, rfl, by decide +kernel, by decide +kernel⟩

abbrev s_pairing : Stmt := topS 26
abbrev N_pairing : List Str := ["one", "other"]
theorem sc_pairing : FnScope N_pairing ["one", "other"] (defScope s_pairing) := ⟨rfl, rfl, rfl, by decide +kernel, rfl, by decide +kernel, by decide +kernel⟩

abbrev s__law_well : Stmt := topS 28
abbrev N__law_well : List Str := ["_law_script", "_law_great", "_law_mark", "_law_place", "_law_cell"]
theorem sc__law_well : FnScope N__law_well ["_law_script"] (defScope s__law_well) := ⟨rfl, rfl, rfl, by decide +kernel, rfl, by decide +kernel, by decide +kernel⟩

abbrev s__law_draw : Stmt := topS 29
abbrev N__law_draw : List Str := ["_law_well_here", "_law_limit", "_law_found", "_law_mixed"]
theorem sc__law_draw : FnScope N__law_draw ["_law_well_here", "_law_limit"] (defScope s__law_draw) := ⟨rfl, rfl, rfl, by decide +kernel, rfl, by decide +kernel, by decide +kernel⟩

abbrev s__law_same : Stmt := topS 30
abbrev N__law_same : List Str := ["_law_found", "_law_due", "_law_k"]
theorem sc__law_same : FnScope N__law_same ["_law_found", "_law_due"] (defScope s__law_same) := ⟨rfl, rfl, rfl, by decide +kernel, rfl, by decide +kernel, by decide +kernel⟩

abbrev s__law_hook : Stmt := topS 31
abbrev N__law_hook : List Str := ["_law_n", "_law_i", "_law_row"]
theorem sc__law_hook : FnScope N__law_hook ["_law_n", "_law_i"] (defScope s__law_hook) := ⟨rfl, rfl, rfl, by decide +kernel, rfl, by decide +kernel, by decide +kernel⟩

abbrev s__law_put : Stmt := topS 32
abbrev N__law_put : List Str := ["_law_one", "_law_other", "_law_n", "_law_m", "_law_k", "_law_links", "_law_met", "_law_mates", "_law_rings", "_law_start", "_law_side", "_law_spot", "_law_step", "_law_mate"]
theorem sc__law_put : FnScope N__law_put ["_law_one", "_law_other"] (defScope s__law_put) := ⟨rfl, rfl, rfl, by decide +kernel, rfl, by decide +kernel, by decide +kernel⟩

abbrev s__law_signs : Stmt := topS 33
abbrev N__law_signs : List Str := ["_law_many", "_law_goal", "_law_rows", "_law_k", "_law_longer", "_law_row", "_law_high"]
theorem sc__law_signs : FnScope N__law_signs ["_law_many", "_law_goal"] (defScope s__law_signs) := ⟨rfl, rfl, rfl, by decide +kernel, rfl, by decide +kernel, by decide +kernel⟩

abbrev s__law_half : Stmt := topS 34
abbrev N__law_half : List Str := ["_law_signs_here", "_law_n", "_law_begun", "_law_mates", "_law_peg", "_law_mate", "_law_below"]
theorem sc__law_half : FnScope N__law_half ["_law_signs_here"] (defScope s__law_half) := ⟨rfl, rfl, rfl, by decide +kernel, rfl, by decide +kernel, by decide +kernel⟩

abbrev s__law_halves : Stmt := topS 35
abbrev N__law_halves : List Str := ["_law_n", "_law_k", "_law_signs_here"]
theorem sc__law_halves : FnScope N__law_halves ["_law_n", "_law_k"] (defScope s__law_halves) := ⟨rfl, rfl, rfl, by decide +kernel, rfl, by decide +kernel, by decide +kernel⟩

abbrev s__law_flip : Stmt := topS 36
abbrev N__law_flip : List Str := ["_law_mesh", "_law_n", "_law_m", "_law_mates", "_law_row", "_law_p", "_law_mate"]
theorem sc__law_flip : FnScope N__law_flip ["_law_mesh"] (defScope s__law_flip) := ⟨rfl, rfl, rfl, by decide +kernel, rfl, by decide +kernel, by decide +kernel⟩

abbrev s__law_paired : Stmt := topS 37
abbrev N__law_paired : List Str := ["_law_one", "_law_other", "_law_rings", "_law_made", "_law_mate"]
theorem sc__law_paired : FnScope N__law_paired ["_law_one", "_law_other"] (defScope s__law_paired) := ⟨rfl, rfl, rfl, by decide +kernel, rfl, by decide +kernel, by decide +kernel⟩

abbrev s__law_drawn_half : Stmt := topS 38
abbrev N__law_drawn_half : List Str := ["_law_well_here", "_law_n", "_law_k", "_law_signs_here", "_law_high", "_law_left", "_law_ways", "_law_sign"]
theorem sc__law_drawn_half : FnScope N__law_drawn_half ["_law_well_here", "_law_n", "_law_k"] (defScope s__law_drawn_half) := ⟨rfl, rfl, rfl, by decide +kernel, rfl, by decide +kernel, by decide +kernel⟩

abbrev s__law_worth : Stmt := topS 39
abbrev N__law_worth : List Str := ["_law_rings"]
theorem sc__law_worth : FnScope N__law_worth ["_law_rings"] (defScope s__law_worth) := ⟨rfl, rfl, rfl, by decide +kernel, rfl, by decide +kernel, by decide +kernel⟩

abbrev s__law_two : Stmt := topS 40
abbrev N__law_two : List Str := ["_law_well_here", "_law_n", "_law_some", "_law_k", "_law_one", "_law_kind", "_law_other", "_law_turn", "_law_rings", "_law_made", "_law_mate"]
theorem sc__law_two : FnScope N__law_two ["_law_well_here"] (defScope s__law_two) := ⟨rfl, rfl, rfl, by decide +kernel, rfl, by decide +kernel, by decide +kernel⟩

abbrev s__law_mat : Stmt := topS 41
abbrev N__law_mat : List Str := ["_law_well_here", "_law_above", "_law_below", "_law_both", "_law_left", "_law_order", "_law_mates", "_law_k", "_law_peg"]
theorem sc__law_mat : FnScope N__law_mat ["_law_well_here", "_law_above", "_law_below"] (defScope s__law_mat) := ⟨rfl, rfl, rfl, by decide +kernel, rfl, by decide +kernel, by decide +kernel⟩

abbrev s__law_pair_right : Stmt := topS 42
abbrev N__law_pair_right : List Str := ["_law_one", "_law_other", "_law_named", "_law_due", "_law_found"]
theorem sc__law_pair_right : FnScope N__law_pair_right ["_law_one", "_law_other", "_law_named"] (defScope s__law_pair_right) := ⟨rfl, rfl, rfl, by decide +kernel, rfl, by decide +kernel, by decide +kernel⟩

abbrev s__law_list_right : Stmt := topS 43
abbrev N__law_list_right : List Str := ["_law_well_here", "_law_named", "_law_n", "_law_k", "_law_due", "_law_found", "_law_one", "_law_other", "_law_above", "_law_below", "_law_mesh", "_law_half_here"]
theorem sc__law_list_right : FnScope N__law_list_right ["_law_well_here", "_law_named"] (defScope s__law_list_right) := ⟨rfl, rfl, rfl, by decide +kernel, rfl, by decide +kernel, by decide +kernel⟩

abbrev s_law : Stmt := topS 44
abbrev N_law : List Str := ["_law_script", "_law_well_here", "_law_turn", "_law_one", "_law_other"]
theorem sc_law : FnScope N_law ["_law_script"] (defScope s_law) := ⟨rfl, rfl, rfl, by decide +kernel, rfl, by decide +kernel, by decide +kernel⟩

end HM
namespace HM
open PySem PySem.Spec PyProof.Rows L2 Evl
section
variable {K : PySem.W.Frag} {σ : L2.St} {H H' : Hp} {ta tb te tx : TE} {t u : TT} {x y z v : V} {D : Ends} {tu tw tz : TS} {g : TG}
theorem et_orF (h1 : EvT t σ H false) (h2 : EvT u σ H false) : EvT (tOr t u) σ H false := et_is (et_or h1 fun _ => h2) rfl
theorem et_andF (h1 : EvT t σ H false) : EvT (tAnd t u) σ H false := et_is (b := false) (et_and (b := false) h1 fun z => by cases z) rfl
theorem et_lt {a b : Int} {c : Bool} (ha : Ev ta σ H (.int a)) (hb : Ev tb σ H (.int b)) (e : decide (a < b) = c) : EvT (tTest (tOp (rI0 fun i j => .bl (decide (i < j))) ta tb)) σ H c := et_is (et_I ha hb) e
theorem et_le {a b : Int} {c : Bool} (ha : Ev ta σ H (.int a)) (hb : Ev tb σ H (.int b)) (e : decide (a ≤ b) = c) : EvT (tTest (tOp (rI0 fun i j => .bl (decide (i ≤ j))) ta tb)) σ H c := et_is (et_I ha hb) e
theorem et_gt {a b : Int} {c : Bool} (ha : Ev ta σ H (.int a)) (hb : Ev tb σ H (.int b)) (e : decide (b < a) = c) : EvT (tTest (tOp (rI0 fun i j => .bl (decide (j < i))) ta tb)) σ H c := et_is (et_I (g := fun i j => decide (j < i)) ha hb) e
theorem et_ge {a b : Int} {c : Bool} (ha : Ev ta σ H (.int a)) (hb : Ev tb σ H (.int b)) (e : decide (b ≤ a) = c) : EvT (tTest (tOp (rI0 fun i j => .bl (decide (j ≤ i))) ta tb)) σ H c := et_is (et_I (g := fun i j => decide (j ≤ i)) ha hb) e
theorem et_eq {a b : Int} {c : Bool} (ha : Ev ta σ H (.int a)) (hb : Ev tb σ H (.int b)) (e : decide (a = b) = c) : EvT (tTest (tOp rEq ta tb)) σ H c := et_is (et_eqI ha hb) e
theorem et_neq {a b : Int} {c : Bool} (ha : Ev ta σ H (.int a)) (hb : Ev tb σ H (.int b)) (e : (!decide (a = b)) = c) : EvT (tTest (tOp rNe ta tb)) σ H c := et_is (et_neI ha hb) e
theorem et_andB {a b c : Bool} (h1 : EvT t σ H a) (h2 : a = true → EvT u σ H b) (e : (a && b) = c) : EvT (tAnd t u) σ H c := et_is (et_and h1 h2) e
theorem et_orB {a b c : Bool} (h1 : EvT t σ H a) (h2 : a = false → EvT u σ H b) (e : (a || b) = c) : EvT (tOr t u) σ H c := et_is (et_or h1 h2) e
theorem ev_add {a b c : Int} (ha : Ev ta σ H (.int a)) (hb : Ev tb σ H (.int b)) (e : a + b = c) : Ev (tOp (rI0 fun i j => .int (i + j)) ta tb) σ H (.int c) := ev_isI (ev_op ha hb rv_I0) e
theorem ev_sub {a b c : Int} (ha : Ev ta σ H (.int a)) (hb : Ev tb σ H (.int b)) (e : a - b = c) : Ev (tOp (rI0 fun i j => .int (i - j)) ta tb) σ H (.int c) := ev_isI (ev_op ha hb rv_I0) e
theorem ev_neg {a c : Int} (ha : Ev ta σ H (.int a)) (e : -a = c) : Ev (tUn (rU fun i => .int (-i)) ta) σ H (.int c) := ev_isI (ev_un ha ru_neg) e
/-! ### lists of ints against [] -/
theorem dp_all (K : PySem.W.Frag) (H : Hp) : ∀ zs : List Int, DpAll K H (zs.map V.int) (zs.map PyData.int)
  | [] => .nil
  | z :: r => .cons (.int z) (dp_all K H r)
theorem eqv_nil (zs : List Int) : PyData.eqv (.list (zs.map PyData.int)) (.list []) = decide (zs = []) := by
  have := HMS.eqvI zs []
  simp only [PyData.eqv]
  exact this
theorem vl_vz (l : List Nat) : vl l = vz (l.map fun n : Nat => (n : Int)) := by unfold vl vz; rw [List.map_map]; rfl
theorem ev_eqNil {p : Addr} {xs : List V} {zs : List Int} {c : Bool} (ha : Ev ta σ H (.ref p)) (h : H p = some (.lst xs)) (hz : xs = vz zs) (e : decide (zs = []) = c) : Ev (tOp (rEqD K) ta (tLst tNil)) σ H (.bl c) := fun H1 e1 Q q =>
  ha H1 e1 _ fun H2 e2 => ⟨Nat.zero_le _, fun l hl => ⟨.list (zs.map PyData.int), .list [], .lst (sq_of ((Ex.new hl) _ _ ((e1.trans e2) _ _ h))) (by rw [hz]; exact dp_all _ _ zs), .lst (sq_of upd_same) .nil, PySem.W.ke_shaped_ints zs, PySem.W.ke_shaped_ints [], by
    rw [eqv_nil, e]
    exact q _ (e2.trans (Ex.new hl))⟩⟩
theorem ev_neNil {p : Addr} {xs : List V} {zs : List Int} {c : Bool} (ha : Ev ta σ H (.ref p)) (h : H p = some (.lst xs)) (hz : xs = vz zs) (e : (!decide (zs = [])) = c) : Ev (tOp (rNeD K) ta (tLst tNil)) σ H (.bl c) := fun H1 e1 Q q =>
  ha H1 e1 _ fun H2 e2 => ⟨Nat.zero_le _, fun l hl => ⟨.list (zs.map PyData.int), .list [], .lst (sq_of ((Ex.new hl) _ _ ((e1.trans e2) _ _ h))) (by rw [hz]; exact dp_all _ _ zs), .lst (sq_of upd_same) .nil, PySem.W.ke_shaped_ints zs, PySem.W.ke_shaped_ints [], by
    rw [eqv_nil, e]
    exact q _ (e2.trans (Ex.new hl))⟩⟩
/-- .. where the list is new -/
theorem ev_neNilN {xs : List V} {zs : List Int} {c : Bool} (ha : EvL ta σ H xs) (hz : xs = vz zs) (e : (!decide (zs = [])) = c) : Ev (tOp (rNeD K) ta (tLst tNil)) σ H (.bl c) := fun H1 e1 Q q =>
  ha H1 e1 _ fun p H2 _ e2 h => ⟨Nat.zero_le _, fun l hl => ⟨.list (zs.map PyData.int), .list [], .lst (sq_of ((Ex.new hl) _ _ h)) (by rw [hz]; exact dp_all _ _ zs), .lst (sq_of upd_same) .nil, PySem.W.ke_shaped_ints zs, PySem.W.ke_shaped_ints [], by
    rw [eqv_nil, e]
    exact q _ (e2.trans (Ex.new hl))⟩⟩
/-! ### loops -/
theorem walk_enumT {a : Addr} {xs : List V} : Walk (IteT K a) xs.length (fun H => SqT K H a xs) (YPair (fun i => some (.int (i : Nat))) (fun i => xs[i]?)) := by
  refine ⟨fun i _ hi q => ⟨xs, xs[i], q, by simp [hi]⟩, fun _ q => ⟨xs, q, Nat.le_refl _⟩, fun i H v H' _ q y => ?_⟩
  obtain ⟨T, x, h1, h2, h3, h4⟩ := y
  exact ⟨T, .int (i : Nat), x, h1, h2, h3, rfl, h4 xs q⟩
abbrev g2 (K : PySem.W.Frag) (i j : Nat) : TG := gTup K 2 (gCons (gName i) (gCons (gName j) gNil))
theorem g2_new {i j : Nat} {T : Addr} {R : L2.St → Hp → Prop} (hT : H T = some (.tup [x, y])) (k : R ((σ.set i (some x)).set j (some y)) H) : g2 K i j (.ref T) σ H R :=
  ⟨T, _, rfl, st_of hT, rfl, x, [y], rfl, y, [], rfl, rfl, k⟩
/-- for i, x in enumerate(a tuple) -/
theorem s_forET {a : Addr} {xs : List V} {ta : TA} {i1 i2 : Nat} (h : EvA ta σ H [.ref a]) (hx : H a = some (.tup xs)) (Pv : Nat → L2.St → Hp → Prop) (h0 : ∀ H1, Ex H H1 → Pv 0 σ H1) (hl : ∀ i σ' H', i ≤ xs.length → Pv i σ' H' → H' a = some (.tup xs))
    (hs : ∀ i x σ' H' H2, xs[i]? = some x → Pv i σ' H' → Ex H' H2 → tu { D with nx := Pv (i + 1), ct := Pv (i + 1), bk := D.nx } ((σ'.set i1 (some (vi i))).set i2 (some x)) H2) (hd : ∀ σ' H', Pv xs.length σ' H' → D.nx σ' H') : tFor (iEnumT K ta) (g2 K i1 i2) tu D σ H :=
  h H (Ex.refl H) _ fun H1 e => ⟨a, xs, rfl, st_of (e _ _ hx), for_it walk_enumT Pv (h0 H1 e) (fun i σ' H' hi p => st_of (hl i σ' H' hi p)) (fun i x σ' H' H2 hi p y => by
    obtain ⟨T, x1, x2, rfl, nT, rfl, f1, f2⟩ := y
    cases f1
    exact g2_new upd_same (hs i x2 σ' H' _ f2 p (Ex.new nT))) hd⟩
theorem q_forET {a : Addr} {xs : List V} {ta : TA} {i1 i2 : Nat} (h : EvA ta σ H [.ref a]) (hx : H a = some (.tup xs)) (Pv : Nat → L2.St → Hp → Prop) (h0 : ∀ H1, Ex H H1 → Pv 0 σ H1) (hl : ∀ i σ' H', i ≤ xs.length → Pv i σ' H' → H' a = some (.tup xs))
    (hs : ∀ i x σ' H' H2, xs[i]? = some x → Pv i σ' H' → Ex H' H2 → tu { D with nx := Pv (i + 1), ct := Pv (i + 1), bk := tz D } ((σ'.set i1 (some (vi i))).set i2 (some x)) H2) (hd : ∀ σ' H', Pv xs.length σ' H' → tz D σ' H') : tSeq (tFor (iEnumT K ta) (g2 K i1 i2) tu) tz D σ H :=
  s_forET (D := { D with nx := tz D }) h hx Pv h0 hl hs hd
/-- .. of a list that no turn changes -/
theorem q_forEL {a : Addr} {xs : List V} {ta : TA} {i1 i2 : Nat} (h : EvA ta σ H [.ref a]) (hx : H a = some (.lst xs)) (Pv : Nat → L2.St → Hp → Prop) (h0 : ∀ H1, Ex H H1 → Pv 0 σ H1) (hl : ∀ i σ' H', i ≤ xs.length → Pv i σ' H' → H' a = some (.lst xs))
    (hs : ∀ i x σ' H' H2, xs[i]? = some x → Pv i σ' H' → Ex H' H2 → tu { D with nx := Pv (i + 1), ct := Pv (i + 1), bk := tz D } ((σ'.set i1 (some (vi i))).set i2 (some x)) H2) (hd : ∀ σ' H', Pv xs.length σ' H' → tz D σ' H') : tSeq (tFor (iEnum K ta) (g2 K i1 i2) tu) tz D σ H :=
  h H (Ex.refl H) _ fun H1 e => ⟨a, xs, rfl, sq_of (e _ _ hx), for_it (D := { D with nx := tz D }) walk_enum Pv (h0 H1 e) (fun i σ' H' hi p => sq_of (hl i σ' H' hi p)) (fun i x σ' H' H2 hi p y => by
    obtain ⟨T, x1, x2, rfl, nT, rfl, f1, f2⟩ := y
    cases f1
    exact g2_new upd_same (hs i x2 σ' H' _ f2 p (Ex.new nT))) hd⟩
theorem vl_get {l : List Nat} {i : Nat} {x : V} (h : (vl l)[i]? = some x) : i < l.length ∧ x = vi (Ma.g l i) := by
  rw [List.getElem?_map] at h
  cases e : l[i]? with
  | none => rw [e] at h; cases h
  | some y =>
    have hi := (List.getElem?_eq_some_iff.mp e).1
    rw [Ma.g_get hi] at e
    cases e
    rw [Ma.g_get hi] at h
    exact ⟨hi, (Option.some.inj h).symm⟩
/-- xs.pop() in a statement of its own, its value dropped or stored -/
theorem dr_pop {l : Addr} {xs : List V} {Q : VK} (ha : Ev ta σ H (.ref l)) (hl : H l = some (.lst (xs ++ [x]))) (k : ∀ H1, Ex H H1 → Q x (upd H1 l (.lst xs))) : tBM0 K "list" rPop ta σ H Q :=
  ha H (Ex.refl H) _ fun H1 e => ⟨Or.inl ⟨rfl, _, sq_of (e _ _ hl)⟩, l, xs ++ [x], x, rfl, rfl, e _ _ hl, by simp, by
    have := k H1 e
    rwa [List.dropLast_concat]⟩
end
end HM
namespace HM
open PySem PySem.Spec PyProof.Rows L2 Evl
section
variable {K : PySem.W.Frag} {σ : L2.St} {H H' : Hp} {ta tb tc te tx tl : TE} {t u : TT} {x y z v : V} {D : Ends} {tu tw tz : TS} {g : TG}
/-- a tuple, old or new -/
def EvTu (te : TE) (σ : L2.St) (H : Hp) (xs : List V) : Prop := EvP te σ H fun v H' => ∃ p, v = .ref p ∧ H' p = some (.tup xs)
theorem etu_of {p : Addr} {xs : List V} (h : Ev te σ H (.ref p)) (hp : H p = some (.tup xs)) : EvTu te σ H xs := ep_of h fun H1 e => ⟨p, rfl, e _ _ hp⟩
theorem etu_new {xs : List V} (h : EvU te σ H xs) : EvTu te σ H xs := fun H1 e Q q => h H1 e _ fun p H2 _ e2 h2 => q _ H2 e2 ⟨p, rfl, h2⟩
theorem cutV_take (xs : List V) (n : Nat) : cutV xs none (some (n : Int)) = xs.take n := by
  unfold cutV
  rw [HT.sIx_none, HT.sIx_nat]
  simp
theorem etu_take {a : Addr} {xs : List V} {n : Nat} (ha : Ev ta σ H (.ref a)) (hb : Ev tb σ H (vi n)) (h : H a = some (.tup xs)) : EvTu (tSl (rSlA K) ta tNoPart (tPart tb)) σ H (xs.take n) := fun H1 e Q q =>
  ha H1 e _ fun H2 e2 => hb H2 (e.trans e2) _ fun H3 e3 => ⟨(n : Int), rfl, a, xs, rfl, st_of (((e.trans e2).trans e3) _ _ h), fun hf => by
    refine q _ H3 (e2.trans e3) ⟨a, rfl, ?_⟩
    have hl : n ≥ xs.length := by
      have h2 := hf.2
      rw [HT.sIx_nat] at h2
      omega
    rw [List.take_of_length_le hl]
    exact ((e.trans e2).trans e3) _ _ h, fun _ p hp => by
    refine q _ _ ((e2.trans e3).trans (Ex.new hp)) ⟨p, rfl, ?_⟩
    rw [cutV_take]
    exact upd_same⟩
/-- a slice of a tuple that is itself read off -/
theorem etu_takeP {xs : List V} {n : Nat} (ha : EvTu ta σ H xs) (hb : ∀ H1, Ex H H1 → Ev tb σ H1 (vi n)) : EvTu (tSl (rSlA K) ta tNoPart (tPart tb)) σ H (xs.take n) := fun H1 e Q q =>
  ha H1 e _ fun w H2 e2 ⟨a, ew, h⟩ => by
    subst ew
    exact hb H2 (e.trans e2) H2 (Ex.refl H2) _ fun H3 e3 => ⟨(n : Int), rfl, a, xs, rfl, st_of (e3 _ _ h), fun hf => by
      refine q _ H3 (e2.trans e3) ⟨a, rfl, ?_⟩
      have hl : n ≥ xs.length := by
        have h2 := hf.2
        rw [HT.sIx_nat] at h2
        omega
      rw [List.take_of_length_le hl]
      exact e3 _ _ h, fun _ p hp => by
      refine q _ _ ((e2.trans e3).trans (Ex.new hp)) ⟨p, rfl, ?_⟩
      rw [cutV_take]
      exact upd_same⟩
theorem el_lcTu {xs : List V} {j : Nat} {vs : List Nat} (f : Nat → Bool) (v : Nat → V) (h : EvTu tl σ H xs) (hz : xs.length ≤ 40000) (hw : ∀ x, wipe ((wipe σ vs).set j (some x)) vs = wipe σ vs)
    (ht : ∀ (i : Nat) (x : V) H1, Ex H H1 → xs[i]? = some x → EvT t ((wipe σ vs).set j (some x)) H1 (f i)) (he : ∀ (i : Nat) (x : V) H1, Ex H H1 → xs[i]? = some x → f i = true → Ev te ((wipe σ vs).set j (some x)) H1 (v i)) :
    EvL (tLc (iTup K tl) (gName j) t te vs) σ H (given xs.length f v) := fun H0 e Q q => h H0 e _ fun w H1 e1 ⟨a, ew, hx⟩ => by
  subst ew
  exact ⟨a, rfl, ⟨xs, st_of hx⟩, fun Dl hD =>
  lc_it walk_tup (Cw H1 f v Dl) ⟨hD, Ex.new hD, upd_same⟩ (fun i H' _ p => st_of (p.2.1 a _ hx)) (fun i x H' H2 hi p ⟨e2, hxi⟩ => by
    subst e2
    exact ⟨hw x, cw_turn p (by omega) (ht i x H1 (e.trans e1) hxi) (fun hf => he i x H1 (e.trans e1) hxi hf)⟩)
    (fun H' p => q Dl H' (fresh_back e1 p.1) (e1.trans p.2.1) p.2.2)⟩
theorem given_list (l : List Nat) (p : Nat → Bool) (r : Nat → V) : given l.length (fun i => p (Ma.g l i)) (fun i => r (Ma.g l i)) = (l.filter p).map r := by
  unfold given
  have e : l = (List.range l.length).map (Ma.g l) := by
    have := Ma.take_map l.length l (Nat.le_refl _)
    rwa [List.take_length] at this
  conv => rhs; rw [e, List.filter_map, List.map_map]
  rfl
theorem given_all (n : Nat) (v : Nat → V) : given n (fun _ => true) v = (List.range n).map v := by
  unfold given
  rw [List.filter_eq_self.mpr (fun _ _ => rfl)]
theorem el_listTu {xs : List V} (h : EvTu ta σ H xs) : EvL (tCB (rListS K) (tCons ta tNil)) σ H xs := fun H1 e Q q =>
  h H1 e _ fun w H2 e2 ⟨p, ew, hp⟩ => by
    subst ew
    exact ⟨p, xs, rfl, Or.inr (st_of hp), fun l hl => q l _ (fresh_back e2 hl) (e2.trans (Ex.new hl)) upd_same⟩
/-- tuple(a list) -/
def rTupS (K : PySem.W.Frag) : List V → Hp → VK → Prop := fun xs H Q => ∃ p ys, xs = [.ref p] ∧ ((SqL K H p ys ∧ ∀ l, H l = none → Q (.ref l) (upd H l (.tup ys))) ∨ (SqT K H p ys ∧ Q (.ref p) H))
theorem eu_tupL {p : Addr} {xs : List V} (h : Ev ta σ H (.ref p)) (hp : H p = some (.lst xs)) : EvU (tCB (rTupS K) (tCons ta tNil)) σ H xs := fun H1 e Q q =>
  h H1 e _ fun H2 e2 => ⟨p, xs, rfl, .inl ⟨sq_of ((e.trans e2) _ _ hp), fun l hl => q l _ (fresh_back e2 hl) (e2.trans (Ex.new hl)) upd_same⟩⟩
theorem eu_tupNL {xs : List V} (h : EvL ta σ H xs) : EvU (tCB (rTupS K) (tCons ta tNil)) σ H xs := fun H1 e Q q =>
  h H1 e _ fun p H2 _ e2 hp => ⟨p, xs, rfl, .inl ⟨sq_of hp, fun l hl => q l _ (fresh_back e2 hl) (e2.trans (Ex.new hl)) upd_same⟩⟩
/-- (n, m, a tuple) -/
theorem ep_mat {n m : Nat} {ms : List Nat} (ha : Ev ta σ H (vi n)) (hb : Ev tb σ H (vi m)) (hc : EvTu tc σ H (vl ms)) : EvP (tTup (tCons ta (tCons tb (tCons tc tNil)))) σ H fun v H' => ∃ p, v = .ref p ∧ MatAt H' p n m ms := fun H1 e Q q =>
  ha H1 e _ fun H2 e2 => hb H2 (e.trans e2) _ fun H3 e3 => hc H3 ((e.trans e2).trans e3) _ fun w H4 e4 ⟨r, ew, hr⟩ => by
    subst ew
    exact ⟨by show 3 ≤ sizeLine; decide, fun p hp => q _ _ (((e2.trans e3).trans e4).trans (Ex.new hp)) ⟨p, rfl, r, upd_same, (Ex.new hp) _ _ hr⟩⟩
theorem ep_callL4 {sp : Sp} {E : XK} {t1 t2 t3 t4 : TE} {xs : List V} {P : V → Hp → Prop} (h1 : Ev t1 σ H x) (h2 : Ev t2 σ H y) (h3 : Ev t3 σ H z) (h4 : EvL t4 σ H xs)
    (hs : ∀ p H1, Ex H H1 → H1 p = some (.lst xs) → ∀ Q : VK, (∀ v H2, Ex H1 H2 → P v H2 → Q v H2) → sp [x, y, z, .ref p] H1 Q E) : EvP (tCall sp [] E (tCons t1 (tCons t2 (tCons t3 (tCons t4 tNil))))) σ H P := fun H1 e Q q =>
  h1 H1 e _ fun H2 e2 => h2 H2 (e.trans e2) _ fun H3 e3 => h3 H3 ((e.trans e2).trans e3) _ fun H4 e4 => h4 H4 (((e.trans e2).trans e3).trans e4) _ fun p H5 _ e5 hp =>
    hs p H5 ((((e.trans e2).trans e3).trans e4).trans e5) hp Q fun v H6 e6 hv => q v H6 ((((e2.trans e3).trans e4).trans e5).trans e6) hv
/-- .. with the walked tuple in the word -/
theorem q_forETp {xs : List V} {i1 i2 : Nat} (h : EvTu ta σ H xs) (Pv : Addr → Nat → L2.St → Hp → Prop) (h0 : ∀ a H1, Ex H H1 → H1 a = some (.tup xs) → Pv a 0 σ H1) (hl : ∀ a i σ' H', i ≤ xs.length → Pv a i σ' H' → H' a = some (.tup xs))
    (hs : ∀ a i x σ' H' H2, xs[i]? = some x → Pv a i σ' H' → Ex H' H2 → tu { D with nx := Pv a (i + 1), ct := Pv a (i + 1), bk := tz D } ((σ'.set i1 (some (vi i))).set i2 (some x)) H2) (hd : ∀ a σ' H', Pv a xs.length σ' H' → tz D σ' H') : tSeq (tFor (iEnumT K (tCons ta tNil)) (g2 K i1 i2) tu) tz D σ H :=
  h H (Ex.refl H) _ fun w H1 e ⟨a, ew, hx⟩ => by
    subst ew
    exact ⟨a, xs, rfl, st_of hx, for_it (D := { D with nx := tz D }) walk_enumT (Pv a) (h0 a H1 e hx) (fun i σ' H' hi p => st_of (hl a i σ' H' hi p)) (fun i x σ' H' H2 hi p y => by
      obtain ⟨T, x1, x2, rfl, nT, rfl, f1, f2⟩ := y
      cases f1
      exact g2_new upd_same (hs a i x2 σ' H' _ f2 p (Ex.new nT))) (hd a)⟩
theorem vl_set (l : List Nat) (i x : Nat) : (vl l).set i (vi x) = vl (l.set i x) := by unfold vl; rw [List.map_set]
theorem vl_app (l r : List Nat) : vl l ++ vl r = vl (l ++ r) := by unfold vl; rw [List.map_append]
theorem vl_one (l : List Nat) (x : Nat) : vl l ++ [vi x] = vl (l ++ [x]) := by unfold vl; rw [List.map_append]; rfl
theorem vl_rep (n x : Nat) : List.replicate n (vi x) = vl (List.replicate n x) := by unfold vl; rw [List.map_replicate]
theorem vl_take (l : List Nat) (n : Nat) : (vl l).take n = vl (l.take n) := by unfold vl; rw [List.map_take]
end
end HM
namespace HM
open PySem PySem.Spec PyProof.Rows L2 Evl
section
variable {P : Program} {w : World} {K : PySem.W.Frag} {mg : Str → Option Value} {base : Heap}
def rpL (n m : Nat) : List Nat := (List.range (n + m)).map (Ma.rp n m)
theorem rpL_eq (n m : Nat) : vl (List.range n) ++ ((List.range m).map fun t => V.int ((n : Int) + (m : Int) - 1 + (t : Nat) * (-1))) = vl (rpL n m) := by
  unfold rpL vl
  rw [List.range_add, List.map_append, List.map_append, List.map_map, List.map_map, List.map_map]
  congr 1
  · refine List.map_congr_left fun x hx => ?_
    have := List.mem_range.mp hx
    show V.int _ = V.int ((Ma.rp n m x : Nat) : Int)
    unfold Ma.rp
    rw [if_pos this]
  · refine List.map_congr_left fun x hx => ?_
    have := List.mem_range.mp hx
    show V.int _ = V.int ((Ma.rp n m (n + x) : Nat) : Int)
    unfold Ma.rp
    rw [if_neg (by omega)]
    congr 1
    omega
def spRoundOf : Sp := fun vs H Q _ => ∃ n m : Nat, vs = [vi n, vi m] ∧ n + m ≤ 1000 ∧ ∀ p H', H p = none → Ex H H' → H' p = some (.lst (vl (rpL n m))) → Q (.ref p) H'
theorem ok_round_of (B : Bt mg) (D : DefOk K mg "round_of" s_round_of) : Cal P w K mg base 1 "round_of" spRoundOf := by
  refine cal_of D sc_round_of (fun _ _ _ _ _ _ us hl => match us, hl with | [_, _], _ => rfl) (fun vs H Q E h => ?_) (fun f cdv A outer s H vs Q E hr h => ?_)
  · obtain ⟨n, m, rfl, _⟩ := h; rfl
  · obtain ⟨n, m, rfl, hz, k⟩ := h
    refine ⟨_, (pss_one (ps_ret (pe_op op_cat (pe_listRg rfl (by rfl) B.list_ (prg_1 (by rfl) B.range_ (pv 0))) (pe_listRg3 rfl (by rfl) B.list_ (by rfl) B.range_ (pa_cons (pe_op op_sub (pe_op op_add (pv 0) (pv 1)) pe_int) (pa_cons (pe_op op_sub (pv 0) pe_int) (pa_cons (pe_un un_neg pe_int) pa_nil))))))), ?_⟩
    refine s_retL (el_is (el_cat (el_rg1 (n := n) (ev_var rfl) (by omega)) (el_rg3 (n := m) (ea_cons (ev_op (ev_op (ev_var rfl) (ev_var rfl) rv_I0) ev_c rv_I0) (ea_cons (ev_op (ev_var rfl) ev_c rv_I0) (ea_cons (ev_un ev_c ru_neg) ea_nil))) ?_ (by omega)) (by simp; omega)) (rpL_eq n m)) k
    have := RgC.neg (i := (n : Int) + (m : Int) - 1) (j := (n : Int) - 1) (by omega) (by omega) (by omega) (by omega)
    rwa [show ((n : Int) + (m : Int) - 1 - ((n : Int) - 1)).toNat = m by omega] at this
def spCheckSize : Sp := fun vs H Q _ => ∃ n : Nat, vs = [vi n] ∧ 1 ≤ n ∧ ∀ H', Ex H H' → Q .non H'
theorem ok_check_size (B : Bt mg) (D : DefOk K mg "check_size" s_check_size) : Cal P w K mg base 1 "check_size" spCheckSize := by
  refine cal_of D sc_check_size (fun _ _ _ _ _ _ us hl => match us, hl with | [_], _ => rfl) (fun vs H Q E h => ?_) (fun f cdv A outer s H vs Q E hr h => ?_)
  · obtain ⟨n, rfl, _⟩ := h; rfl
  · obtain ⟨n, rfl, hz, k⟩ := h
    refine ⟨_, (pss_one (ps_if (pt_cmpR op_lt (pv 0) pe_int (nomark _)) pss_never pss_nil)), ?_⟩
    exact s_ifF (et_lt (ev_var rfl) ev_c (decide_eq_false (by omega))) k
def spCheckPair : Sp := fun vs H Q _ => ∃ n : Nat, vs = [vi n, vi n] ∧ ∀ H', Ex H H' → Q .non H'
theorem ok_check_pair (B : Bt mg) (D : DefOk K mg "check_pair" s_check_pair) : Cal P w K mg base 1 "check_pair" spCheckPair := by
  refine cal_of D sc_check_pair (fun _ _ _ _ _ _ us hl => match us, hl with | [_, _], _ => rfl) (fun vs H Q E h => ?_) (fun f cdv A outer s H vs Q E hr h => ?_)
  · obtain ⟨n, rfl, _⟩ := h; rfl
  · obtain ⟨n, rfl, k⟩ := h
    refine ⟨_, (pss_one (ps_if (pt_cmpR op_ne (pv 0) (pv 1) (nomark _)) pss_never pss_nil)), ?_⟩
    exact s_ifF (et_neq (ev_var rfl) (ev_var rfl) (by simp)) k
def spIsMat : Sp := fun vs H Q _ => ∃ (a : Addr) (n m : Nat) (ms : List Nat), vs = [.ref a] ∧ MatAt H a n m ms ∧ Ma.Mat n m ms ∧ n + m ≤ 1000 ∧ ∀ H', Ex H H' → Q (.bl true) H'
theorem ok_is_mat (B : Bt mg) (D : DefOk K mg "is_mat" s_is_mat) (C_round_of : Cal P w K mg base 1 "round_of" spRoundOf) : Cal P w K mg base 2 "is_mat" spIsMat := by
  refine cal_of D sc_is_mat (fun _ _ _ _ _ _ us hl => match us, hl with | [_], _ => rfl) (fun vs H Q E h => ?_) (fun f cdv A outer s H vs Q E hr h => ?_)
  · obtain ⟨a, n, m, ms, rfl, _⟩ := h; rfl
  · have hu64 := hu64_of hr
    obtain ⟨a, n, m, ms, rfl, ⟨q, ha, hq⟩, M, hz, k⟩ := h
    have hl := M.len
    have hp0 := M.some_
    refine ⟨_, (pss_cons (ps_asg (pv 0) (pg_tup rfl (pgs_cons (pg_name (i := 1) sc_is_mat.nd rfl (.inl rfl)) (pgs_cons (pg_name (i := 2) sc_is_mat.nd rfl (.inl rfl)) (pgs_cons (pg_name (i := 3) sc_is_mat.nd rfl (.inl rfl)) pgs_nil)))))
  (pss_cons (ps_set (i := 4) sc_is_mat.nd rfl (.inl rfl) (pe_callB call_len_seq (by rfl) B.len_ PySem.boot_len (pa_cons (pv 3) pa_nil)))
  (pss_cons (ps_if (PW.pt (pw_or (pt_cmpR op_lt (pv 1) pe_int (nomark _)) (pw_or (pt_cmpR op_lt (pv 2) pe_int (nomark _)) (pw_or (pt_cmpR op_ne (pe_op op_add (pv 1) (pv 2)) (pv 4) (nomark _)) (pw_or1 (pt_cmpR op_eq (pv 4) pe_int (nomark _))))))) (pss_one (ps_ret pe_bl)) pss_nil)
  (pss_cons (ps_for PassesOwn.never rfl (pi_enumT (by rfl) B.enumerate_ (pa_cons (pv 3) pa_nil)) (pg_tup rfl (pgs_cons (pg_name (i := 5) sc_is_mat.nd rfl (.inl rfl)) (pgs_cons (pg_name (i := 6) sc_is_mat.nd rfl (.inl rfl)) pgs_nil)))
  (pss_one (ps_if (PW.pt (pw_or (pt_cmpR op_lt (pv 6) pe_int (nomark _)) (pw_or (pt_cmpR op_ge (pv 6) (pv 4) (nomark _)) (pw_or (pt_cmpR op_eq (pv 6) (pv 5) (nomark _)) (pw_or1 (pt_cmpR op_ne (pe_ix ix_seq (pv 3) (pv 6) (fun _ _ => rfl)) (pv 5) (nomark _))))))) (pss_one (ps_ret pe_bl)) pss_nil)))
  (pss_cons (ps_set (i := 7) sc_is_mat.nd rfl (.inl rfl) (pe_lst pa_nil))
  (pss_cons (ps_for PassesOwn.never rfl (pi_list (pe_c C_round_of hr (by decide) (by rfl) (pa_cons (pv 1) (pa_cons (pv 2) pa_nil)))) (pg_name (i := 5) sc_is_mat.nd rfl (.inl rfl))
  (pss_one (ps_if (PW.pt (pw_and (pt_cmpR (op_neD hu64) (pv 7) (pe_lst pa_nil) (nomark _)) (pw_and1 (pt_cmpR op_eq (pe_ix ix_seq (pv 7) (pe_un un_neg pe_int) (fun _ _ => rfl)) (pe_ix ix_seq (pv 3) (pv 5) (fun _ _ => rfl)) (nomark _))))) (pss_one (ps_expr (pe_bm0 PySem.F.plainAttrs_list PySem.F.slot_list_pop PySem.F.type_list_pop mt_pop (pv 7)))) (pss_one (ps_expr (pe_bm PySem.F.plainAttrs_list PySem.F.slot_list_append PySem.F.type_list_append mt_append (pv 7) (pa_cons (pv 5) pa_nil)))))))
  (pss_one (ps_ret (pe_cmpR (op_eqD hu64) (pv 7) (pe_lst pa_nil) (nomark _)))))))))), ?_⟩
    refine q_un3 (ev_var rfl) ha fun H1 e1 => ?_
    refine q_asg (ev_lenT (n := n + m) (ev_var rfl) (e1 _ _ hq) (by simp [hl])) fun H2 e2 => ?_
    refine q_ifF ?_ fun H3 e3 => ?_
    · refine et_orF (et_lt (ev_var rfl) ev_c (decide_eq_false (by omega))) (et_orF (et_lt (ev_var rfl) ev_c (decide_eq_false (by omega))) (et_orF (et_neq (ev_op (ev_var rfl) (ev_var rfl) rv_I0) (ev_var rfl) ?_) (et_eq (ev_var rfl) ev_c (decide_eq_false (by omega)))))
      simp
    have e13 := (e1.trans e2).trans e3
    have hq3 := e13 _ _ hq
    refine q_forET (ea_cons (ev_var rfl) ea_nil) hq3 (fun i σ' H' => Ex H H' ∧ ∃ v5 v6, σ' = [some (.ref a), some (vi n), some (vi m), some (.ref q), some (vi (n + m)), v5, v6, none]) (fun H1 e => ⟨e13.trans e, none, none, rfl⟩) (fun i σ' H' _ ⟨e, _⟩ => e _ _ hq) ?_ ?_
    · rintro i x σ' H' H2 hx ⟨eH, v5, v6, rfl⟩ e2
      obtain ⟨hi, rfl⟩ := vl_get hx
      have hq2 := e2 _ _ (eH _ _ hq)
      have l1 := M.lt i (by omega)
      have l2 := M.ne i (by omega)
      have l3 := M.inv i (by omega)
      refine s_ifF ?_ fun H3 e3 => ⟨(eH.trans e2).trans e3, _, _, rfl⟩
      refine et_orF (et_lt (ev_var rfl) ev_c (decide_eq_false (by omega))) (et_orF (et_ge (ev_var rfl) (ev_var rfl) (decide_eq_false (by omega))) (et_orF (et_eq (ev_var rfl) (ev_var rfl) (decide_eq_false (by omega))) (et_neq (ev_op (ev_var rfl) (ev_var rfl) (rv_ixt hq2 (at_vl (by omega)))) (ev_var rfl) ?_)))
      rw [l3]
      simp
    rintro σ' H' ⟨eH, v5, v6, rfl⟩
    refine q_asgL (el_lst ea_nil (by decide)) fun pw H4 nw e4 hw => ?_
    refine q_forNLn (xs := vl (rpL n m)) (el_call (vs := [vi n, vi m]) (ea_cons (ev_var rfl) (ea_cons (ev_var rfl) ea_nil)) fun H5 e5 Q' q' E' => ⟨n, m, rfl, hz, q'⟩)
      (fun pr i σ' H' => Ex H H' ∧ H pw = none ∧ pr ≠ pw ∧ H' pr = some (.lst (vl (rpL n m))) ∧ H' pw = some (.lst (vl (Ma.wt n m ms i))) ∧ ∃ v5 v6, σ' = [some (.ref a), some (vi n), some (vi m), some (.ref q), some (vi (n + m)), v5, v6, some (.ref pw)])
      (fun pr H5 nr e5 h5 => ⟨(eH.trans e4).trans e5, fresh_back eH nw, (ne_of_none hw nr).symm, h5, e5 _ _ hw, v5, v6, rfl⟩) (fun pr i σ' H' _ ⟨_, _, _, h, _⟩ => sq_of h) ?_ ?_
    · rintro pr i x σ' H' hx ⟨eH, nw, npr, hpr, hw, v5, v6, rfl⟩
      obtain ⟨hi, rfl⟩ := vl_get hx
      have hi' : i < n + m := by simpa [rpL] using hi
      have eg : Ma.g (rpL n m) i = Ma.rp n m i := Ma.g_map hi'
      rw [eg]
      have rl := Ma.rp_lt (n := n) (m := m) hi'
      have hq' := eH _ _ hq
      have fin : ∀ (H2 : Hp) (ys : List Nat), Ex H' H2 → Ma.wt n m ms (i + 1) = ys → Ex H (upd H2 pw (.lst (vl ys))) ∧ H pw = none ∧ pr ≠ pw ∧ (upd H2 pw (.lst (vl ys))) pr = some (.lst (vl (rpL n m))) ∧ (upd H2 pw (.lst (vl ys))) pw = some (.lst (vl (Ma.wt n m ms (i + 1)))) := fun H2 ys e2 ey =>
        ⟨Ex.mut (eH.trans e2) nw, nw, npr, by rw [upd_ne npr]; exact e2 _ _ hpr, by rw [upd_same, ey]⟩
      by_cases hb : Ma.mu n m ms i < i
      · have ew := Ma.wt_pop M hi' hb
        have hne : vl (Ma.wt n m ms i) = vl (Ma.wt n m ms (i + 1)) ++ [vi (Ma.g ms (Ma.rp n m i))] := by rw [ew]; simp
        refine s_if (b := true) ?_ (fun _ H2 e2 => ?_) (fun z => by cases z)
        · refine et_andB (a := true) (b := true) (et_test (ev_neNil (ev_var rfl) hw (vl_vz _) ?_)) (fun _ => et_eq (ev_op (ev_var rfl) (ev_un ev_c ru_neg) (rv_ixl hw (by rw [hne]; exact atI_last _ _))) (ev_op (ev_var rfl) (ev_var rfl) (rv_ixt hq' (at_vl (by omega)))) (by simp)) rfl
          rw [ew]
          simp
        · have hw2 := e2 _ _ hw
          rw [hne] at hw2
          refine dr_pop (ev_var rfl) hw2 fun H3 e3 => ?_
          obtain ⟨f1, f2, f3, f4, f5⟩ := fin H3 (Ma.wt n m ms (i + 1)) (e2.trans e3) rfl
          exact ⟨f1, f2, f3, f4, f5, _, _, rfl⟩
      · have ew := Ma.wt_push M hi' (by omega)
        refine s_if (b := false) ?_ (fun z => by cases z) (fun _ H2 e2 => ?_)
        · rcases List.eq_nil_or_concat (Ma.wt n m ms i) with z | ⟨ys, y, z⟩
          · exact et_andF (et_test (ev_neNil (ev_var rfl) hw (vl_vz _) (by rw [z]; simp)))
          · rw [List.concat_eq_append] at z
            have hy := Ma.wt_last M hi' (by omega) z
            have hne : vl (Ma.wt n m ms i) = vl ys ++ [vi y] := by rw [z]; simp
            refine et_andB (a := true) (b := false) (et_test (ev_neNil (ev_var rfl) hw (vl_vz _) (by rw [z]; simp))) (fun _ => et_eq (ev_op (ev_var rfl) (ev_un ev_c ru_neg) (rv_ixl hw (by rw [hne]; exact atI_last _ _))) (ev_op (ev_var rfl) (ev_var rfl) (rv_ixt hq' (at_vl (by omega)))) (decide_eq_false (by omega))) rfl
        · have hlen : (Ma.wt n m ms i).length ≤ n + m := by
            unfold Ma.wt Ma.op
            rw [List.length_map]
            have := List.length_filter_le (fun q => decide (i ≤ Ma.mu n m ms q)) (List.range i)
            rw [List.length_range] at this
            omega
          refine s_app (e2 _ _ hw) (ev_var rfl) (ev_var rfl) (by simp; omega) fun H3 e3 => ?_
          have ev : vl (Ma.wt n m ms i) ++ [vi (Ma.rp n m i)] = vl (Ma.wt n m ms (i + 1)) := by rw [ew]; simp
          rw [ev]
          obtain ⟨f1, f2, f3, f4, f5⟩ := fin H3 (Ma.wt n m ms (i + 1)) (e2.trans e3) rfl
          exact ⟨f1, f2, f3, f4, f5, _, _, rfl⟩
    · rintro pr σ' H' ⟨eH, nw, npr, hpr, hw, v5, v6, rfl⟩
      have hlr : (vl (rpL n m)).length = n + m := by simp [rpL]
      rw [hlr, Ma.wt_end M] at hw
      refine s_ret (v := .bl true) ?_ fun H1 e1 => k H1 (eH.trans e1)
      exact ev_eqNil (zs := []) (ev_var rfl) hw rfl rfl
def spChecked : Sp := fun vs H Q _ => ∃ (a : Addr) (n m : Nat) (ms : List Nat), vs = [.ref a] ∧ MatAt H a n m ms ∧ Ma.Mat n m ms ∧ n + m ≤ 1000 ∧ ∀ H', Ex H H' → Q (.ref a) H'
theorem ok_checked_mat (B : Bt mg) (D : DefOk K mg "checked_mat" s_checked_mat) (C_is_mat : Cal P w K mg base 2 "is_mat" spIsMat) : Cal P w K mg base 3 "checked_mat" spChecked := by
  refine cal_of D sc_checked_mat (fun _ _ _ _ _ _ us hl => match us, hl with | [_], _ => rfl) (fun vs H Q E h => ?_) (fun f cdv A outer s H vs Q E hr h => ?_)
  · obtain ⟨a, n, m, ms, rfl, _⟩ := h; rfl
  · obtain ⟨a, n, m, ms, rfl, hA, M, hz, k⟩ := h
    refine ⟨_, (pss_cons (ps_if (pt_not (pt_val (pe_c C_is_mat hr (by decide) (by rfl) (pa_cons (pv 0) pa_nil)))) pss_never pss_nil)
  (pss_one (ps_ret (pv 0)))), ?_⟩
    refine q_ifF (et_is (et_not (et_B (ev_callV (z := .bl true) (ea_cons (ev_var rfl) ea_nil) fun H1 e1 Q q => ⟨a, n, m, ms, rfl, hA.ex e1, M, hz, q⟩))) rfl) fun H1 e1 => ?_
    exact s_ret (ev_var rfl) fun H2 e2 => k H2 (e1.trans e2)
end
end HM
namespace HM
open PySem PySem.Spec PyProof.Rows L2 Evl
section
variable {P : Program} {w : World} {K : PySem.W.Frag} {mg : Str → Option Value} {base : Heap}
def spRemade : Sp := fun vs H Q _ => ∃ (n m : Nat) (aM aP : Addr) (ms pl res : List Nat), vs = [vi n, vi m, .ref aM, .ref aP] ∧ H aM = some (.tup (vl ms)) ∧ H aP = some (.lst (vl pl)) ∧ n + m ≤ 1000 ∧
  (ms.length = n + m ∧ pl.length = n + m ∧ res.length = n + m) ∧ (∀ i, i < n + m → Ma.g ms i < n + m ∧ Ma.g pl i < n + m) ∧ (∀ i, i < n + m → Ma.g res (Ma.g pl i) = Ma.g pl (Ma.g ms i)) ∧ (∀ q, q < n + m → ∃ i, i < n + m ∧ Ma.g pl i = q) ∧
  ∀ v H', Ex H H' → (∃ p, v = .ref p ∧ MatAt H' p n m res) → Q v H'
theorem ok_remade (B : Bt mg) (D : DefOk K mg "remade" s_remade) : Cal P w K mg base 1 "remade" spRemade := by
  refine cal_of D sc_remade (fun _ _ _ _ _ _ us hl => match us, hl with | [_, _, _, _], _ => rfl) (fun vs H Q E h => ?_) (fun f cdv A outer s H vs Q E hr h => ?_)
  · obtain ⟨n, m, aM, aP, ms, pl, res, rfl, _⟩ := h; rfl
  · obtain ⟨n, m, aM, aP, ms, pl, res, rfl, hM, hP, hz, ⟨l1, l2, l3⟩, lt, eq, all, k⟩ := h
    refine ⟨_, (pss_cons (ps_set (i := 4) sc_remade.nd rfl (.inl rfl) (pe_op op_rep (pe_lst (pa_cons pe_int pa_nil)) (pe_op op_add (pv 0) (pv 1))))
  (pss_cons (ps_for PassesOwn.never rfl (pi_enumT (by rfl) B.enumerate_ (pa_cons (pv 2) pa_nil)) (pg_tup rfl (pgs_cons (pg_name (i := 5) sc_remade.nd rfl (.inl rfl)) (pgs_cons (pg_name (i := 6) sc_remade.nd rfl (.inl rfl)) pgs_nil)))
  (pss_one (ps_asg (pe_ix ix_seq (pv 3) (pv 6) (fun _ _ => rfl)) (pg_sub (pv 4) (pe_ix ix_seq (pv 3) (pv 5) (fun _ _ => rfl)) set_list))))
  (pss_one (ps_ret (pe_tup (pa_cons (pv 0) (pa_cons (pv 1) (pa_cons (pe_callTy call_tuple_of (by rfl) B.tuple_ (by decide +kernel) (pa_cons (pv 4) pa_nil)) pa_nil)))))))), ?_⟩
    refine q_asgL (el_rep1 (k := n + m) (x := vi 0) (el_lst (ea_cons ev_c ea_nil) (by decide)) (ev_op (ev_var rfl) (ev_var rfl) rv_I0) (by omega)) fun pr H1 nr e1 h1 => ?_
    refine q_forET (ea_cons (ev_var rfl) ea_nil) (e1 _ _ hM) (fun i σ' H' => Ex H H' ∧ H pr = none ∧ (∃ rl : List Nat, rl.length = n + m ∧ H' pr = some (.lst (vl rl)) ∧ ∀ j, j < i → Ma.g rl (Ma.g pl j) = Ma.g res (Ma.g pl j)) ∧ ∃ v5 v6, σ' = [some (vi n), some (vi m), some (.ref aM), some (.ref aP), some (.ref pr), v5, v6])
      (fun H2 e2 => ⟨e1.trans e2, nr, ⟨List.replicate (n + m) 0, by simp, by rw [← vl_rep]; exact e2 _ _ h1, fun j h => by omega⟩, none, none, rfl⟩) (fun i σ' H' _ ⟨e, _⟩ => e _ _ hM) ?_ ?_
    · rintro i x σ' H' H2 hx ⟨eH, nr, ⟨rl, hl, hr, hg⟩, v5, v6, rfl⟩ e2
      obtain ⟨hi, rfl⟩ := vl_get hx
      obtain ⟨t1, t2⟩ := lt i (by omega)
      have hP2 := (eH.trans e2) _ _ hP
      refine s_setL (j := Ma.g pl i) (v := vi (Ma.g pl (Ma.g ms i))) (e2 _ _ hr) (ev_op (ev_var rfl) (ev_var rfl) (rv_ixl hP2 (at_vl (by omega)))) (ev_var rfl) (ev_op (ev_var rfl) (ev_var rfl) (rv_ixl hP2 (at_vl (by omega)))) (by rw [List.length_map]; omega) fun H3 e3 => ?_
      refine ⟨Ex.mut ((eH.trans e2).trans e3) nr, nr, ⟨rl.set (Ma.g pl i) (Ma.g pl (Ma.g ms i)), by simpa using hl, by rw [upd_same, vl_set], fun j hj => ?_⟩, _, _, rfl⟩
      rw [Ma.g_set (by omega)]
      by_cases z : Ma.g pl i = Ma.g pl j
      · rw [if_pos z, ← z, eq i (by omega)]
      · rw [if_neg z]
        exact hg j (by
          have : j ≠ i := fun e => z (by rw [e])
          omega)
    · rintro σ' H' ⟨eH, nr, ⟨rl, hl, hr, hg⟩, v5, v6, rfl⟩
      have er : rl = res := Ma.g_ext (by omega) fun q hq => by
        obtain ⟨i, hi, e⟩ := all q (by omega)
        rw [← e]
        exact hg i (by simp; omega)
      subst er
      exact s_retP (ep_mat (ev_var rfl) (ev_var rfl) (etu_new (eu_tupL (ev_var rfl) hr))) fun v H2 e2 hv => k v H2 (eH.trans e2) hv
def spUpside : Sp := fun vs H Q _ => ∃ (a : Addr) (n m : Nat) (ms : List Nat), vs = [.ref a] ∧ MatAt H a n m ms ∧ Ma.Mat n m ms ∧ n + m ≤ 1000 ∧ ∀ v H', Ex H H' → (∃ p, v = .ref p ∧ MatAt H' p m n (Ma.flp n m ms)) → Q v H'
theorem ok_upside_down (B : Bt mg) (D : DefOk K mg "upside_down" s_upside_down) (C_checked_mat : Cal P w K mg base 3 "checked_mat" spChecked) (C_remade : Cal P w K mg base 1 "remade" spRemade) : Cal P w K mg base 4 "upside_down" spUpside := by
  refine cal_of D sc_upside_down (fun _ _ _ _ _ _ us hl => match us, hl with | [_], _ => rfl) (fun vs H Q E h => ?_) (fun f cdv A outer s H vs Q E hr h => ?_)
  · obtain ⟨a, n, m, ms, rfl, _⟩ := h; rfl
  · obtain ⟨a, n, m, ms, rfl, hA, M, hz, k⟩ := h
    have hA' := hA
    obtain ⟨q, ha, hq⟩ := hA'
    refine ⟨_, (pss_cons (ps_asg (pe_c C_checked_mat hr (by decide) (by rfl) (pa_cons (pv 0) pa_nil)) (pg_tup rfl (pgs_cons (pg_name (i := 1) sc_upside_down.nd rfl (.inl rfl)) (pgs_cons (pg_name (i := 2) sc_upside_down.nd rfl (.inl rfl)) (pgs_cons (pg_name (i := 3) sc_upside_down.nd rfl (.inl rfl)) pgs_nil)))))
  (pss_one (ps_ret (pe_c C_remade hr (by decide) (by rfl) (pa_cons (pv 2) (pa_cons (pv 1) (pa_cons (pv 3) (pa_cons (pe_op op_cat (pe_listRg rfl (by rfl) B.list_ (prg_2 (by rfl) B.range_ (pv 2) (pe_op op_add (pv 2) (pv 1)))) (pe_listRg rfl (by rfl) B.list_ (prg_1 (by rfl) B.range_ (pv 2)))) pa_nil)))))))), ?_⟩
    refine q_un3 (ev_callV (z := .ref a) (ea_cons (ev_var rfl) ea_nil) fun H1 e1 Q q => ⟨a, n, m, ms, rfl, hA.ex e1, M, hz, q⟩) ha fun H1 e1 => ?_
    refine s_retP (ep_callL4 (ev_var rfl) (ev_var rfl) (ev_var rfl) (xs := vl ((List.range n).map (m + ·)) ++ vl (List.range m)) ?_ fun p H2 e2 hp Q q' => ?_) fun v H2 e2 hv => k v H2 (e1.trans e2) hv
    · refine el_cat (el_is (el_rg2 (a := m) (b := m + n) (ev_var rfl) (ev_op (ev_var rfl) (ev_var rfl) rv_I0) (by omega) (by omega)) ?_) (el_rg1 (ev_var rfl) (by omega)) (by simp; omega)
      rw [show m + n - m = n by omega]
    · rw [vl_app] at hp
      have F := Ma.flp_of n m ms
      have l1 : ((List.range n).map (m + ·)).length = n := by simp
      have gp : ∀ i, i < n + m → Ma.g ((List.range n).map (m + ·) ++ List.range m) i = Ma.pl n m i := fun i hi => by
        unfold Ma.pl
        by_cases z : i < n
        · rw [if_pos z, Ma.g_app1 (by omega), Ma.g_map z, Nat.add_comm]
        · rw [if_neg z]
          have := Ma.g_app2 (l := (List.range n).map (m + ·)) (r := List.range m) (i := i - n)
          rw [l1, show n + (i - n) = i by omega] at this
          rw [this, Ma.g_range (by omega)]
      refine ⟨m, n, q, p, ms, _, Ma.flp n m ms, rfl, (e1.trans e2) _ _ hq, hp, by omega, ⟨by rw [M.len]; omega, by simp; omega, F.len⟩, fun i hi => ?_, fun i hi => ?_, fun x hx => ?_, q'⟩
      · have := M.lt i (by omega)
        rw [gp i (by omega)]
        refine ⟨by omega, ?_⟩
        unfold Ma.pl
        split <;> omega
      · rw [gp i (by omega), gp _ (M.lt i (by omega))]
        by_cases z : i < n
        · have e : Ma.pl n m i = m + i := by unfold Ma.pl; rw [if_pos z]; omega
          rw [e, F.low i z]
        · have e : Ma.pl n m i = i - n := by unfold Ma.pl; rw [if_neg z]
          rw [e, F.top (i - n) (by omega), show n + (i - n) = i by omega]
      · by_cases z : x < m
        · refine ⟨n + x, by omega, ?_⟩
          rw [gp _ (by omega)]
          unfold Ma.pl
          rw [if_neg (by omega)]
          omega
        · refine ⟨x - m, by omega, ?_⟩
          rw [gp _ (by omega)]
          unfold Ma.pl
          rw [if_pos (by omega)]
          omega
def spThrough : Sp := fun vs H Q _ => ∃ (a : Addr) (n m : Nat) (ms : List Nat), vs = [.ref a] ∧ MatAt H a n m ms ∧ Ma.Mat n m ms ∧ n + m ≤ 1000 ∧ ∀ H', Ex H H' → Q (vi (Ma.thr n ms)) H'
theorem ok_through (B : Bt mg) (D : DefOk K mg "through" s_through) (C_checked_mat : Cal P w K mg base 3 "checked_mat" spChecked) : Cal P w K mg base 4 "through" spThrough := by
  refine cal_of D sc_through (fun _ _ _ _ _ _ us hl => match us, hl with | [_], _ => rfl) (fun vs H Q E h => ?_) (fun f cdv A outer s H vs Q E hr h => ?_)
  · obtain ⟨a, n, m, ms, rfl, _⟩ := h; rfl
  · obtain ⟨a, n, m, ms, rfl, hA, M, hz, k⟩ := h
    have hA' := hA
    obtain ⟨q, ha, hq⟩ := hA'
    have hl := M.len
    refine ⟨_, (pss_cons (ps_asg (pe_c C_checked_mat hr (by decide) (by rfl) (pa_cons (pv 0) pa_nil)) (pg_tup rfl (pgs_cons (pg_name (i := 1) sc_through.nd rfl (.inr rfl)) (pgs_cons (pg_name (i := 2) sc_through.nd rfl (.inl rfl)) (pgs_cons (pg_name (i := 3) sc_through.nd rfl (.inl rfl)) pgs_nil)))))
  (pss_one (ps_ret (pe_callB call_len_seq (by rfl) B.len_ PySem.boot_len (pa_cons (pe_lc (own := [("mate", 4)]) (g := gName 4) (tt := (tTest (tOp rGe (tVar 4) (tVar 1)))) (te := (tVar 4)) rfl sc_through.nd (pi_tup (pe_slice sl_tupA (pv 3) po_none (po_some (pv 1)))) (blkOk_by (N := N_through) (sc := defScope s_through) (by decide +kernel)) (fun _ _ _ _ _ => (pg_name (i := 4) sc_through.nd rfl (.inl rfl))) (fun _ _ _ _ _ => pts_one (pt_cmpR op_ge (pv 4) (pv 1) (nomark _))) (fun _ _ _ _ _ => (pv 4))) pa_nil))))), ?_⟩
    refine q_un3 (ev_callV (z := .ref a) (ea_cons (ev_var rfl) ea_nil) fun H1 e1 Q q => ⟨a, n, m, ms, rfl, hA.ex e1, M, hz, q⟩) ha fun H1 e1 => ?_
    have lt : (ms.take n).length = n := by simp; omega
    refine s_ret (v := vi (Ma.thr n ms)) (ev_is (ev_lenN (xs := vl ((ms.take n).filter fun x => decide (n ≤ x))) ?_) (by unfold Ma.thr; simp)) fun H2 e2 => k H2 (e1.trans e2)
    refine el_is (el_lcTu (xs := vl (ms.take n)) (j := 4) (fun i => decide (n ≤ Ma.g (ms.take n) i)) (fun i => vi (Ma.g (ms.take n) i)) (by rw [← vl_take]; exact etu_take (ev_var rfl) (ev_var rfl) (e1 _ _ hq)) (by simp; omega) (fun _ => rfl) (fun i x H2 e2 hx => ?_) (fun i x H2 e2 hx _ => ?_)) ?_
    · obtain ⟨hi, rfl⟩ := vl_get hx
      exact et_ge (ev_var rfl) (ev_var rfl) (by simp only [decide_eq_decide]; omega)
    · obtain ⟨hi, rfl⟩ := vl_get hx
      exact ev_var rfl
    · rw [List.length_map]
      exact given_list (ms.take n) (fun x => decide (n ≤ x)) vi
def spUpper : Sp := fun vs H Q _ => ∃ (a : Addr) (n m : Nat) (ms : List Nat), vs = [.ref a] ∧ MatAt H a n m ms ∧ Ma.Mat n m ms ∧ n + m ≤ 1000 ∧ ∀ v H', Ex H H' → (∃ p, v = .ref p ∧ MatAt H' p n (Ma.upRow n ms n).2.length (Ma.upL n ms)) → Q v H'
theorem ok_upper_half (B : Bt mg) (D : DefOk K mg "upper_half" s_upper_half) (C_checked_mat : Cal P w K mg base 3 "checked_mat" spChecked) : Cal P w K mg base 4 "upper_half" spUpper := by
  refine cal_of D sc_upper_half (fun _ _ _ _ _ _ us hl => match us, hl with | [_], _ => rfl) (fun vs H Q E h => ?_) (fun f cdv A outer s H vs Q E hr h => ?_)
  · obtain ⟨a, n, m, ms, rfl, _⟩ := h; rfl
  · obtain ⟨a, n, m, ms, rfl, hA, M, hz, k⟩ := h
    have hA' := hA
    obtain ⟨q, ha, hq⟩ := hA'
    have hl := M.len
    refine ⟨_, (pss_cons (ps_asg (pe_c C_checked_mat hr (by decide) (by rfl) (pa_cons (pv 0) pa_nil)) (pg_tup rfl (pgs_cons (pg_name (i := 1) sc_upper_half.nd rfl (.inl rfl)) (pgs_cons (pg_name (i := 2) sc_upper_half.nd rfl (.inl rfl)) (pgs_cons (pg_name (i := 3) sc_upper_half.nd rfl (.inl rfl)) pgs_nil)))))
  (pss_cons (ps_set (i := 4) sc_upper_half.nd rfl (.inl rfl) (pe_callTy call_list_of (by rfl) B.list_ (by decide +kernel) (pa_cons (pe_slice sl_tupA (pv 3) po_none (po_some (pv 1))) pa_nil)))
  (pss_cons (ps_set (i := 5) sc_upper_half.nd rfl (.inl rfl) (pe_lst pa_nil))
  (pss_cons (ps_for PassesOwn.never rfl (pi_enumT (by rfl) B.enumerate_ (pa_cons (pe_slice sl_tupA (pv 3) po_none (po_some (pv 1))) pa_nil)) (pg_tup rfl (pgs_cons (pg_name (i := 6) sc_upper_half.nd rfl (.inl rfl)) (pgs_cons (pg_name (i := 7) sc_upper_half.nd rfl (.inl rfl)) pgs_nil)))
  (pss_one (ps_if (pt_cmpR op_ge (pv 7) (pv 1) (nomark _)) (pss_cons (ps_asg (pe_op op_add (pv 1) (pe_callB call_len_seq (by rfl) B.len_ PySem.boot_len (pa_cons (pv 5) pa_nil))) (pg_sub (pv 4) (pv 6) set_list))
  (pss_one (ps_expr (pe_bm PySem.F.plainAttrs_list PySem.F.slot_list_append PySem.F.type_list_append mt_append (pv 5) (pa_cons (pv 6) pa_nil))))) pss_nil)))
  (pss_one (ps_ret (pe_tup (pa_cons (pv 1) (pa_cons (pe_callB call_len_seq (by rfl) B.len_ PySem.boot_len (pa_cons (pv 5) pa_nil)) (pa_cons (pe_callTy call_tuple_of (by rfl) B.tuple_ (by decide +kernel) (pa_cons (pe_op op_cat (pv 4) (pv 5)) pa_nil)) pa_nil)))))))))), ?_⟩
    refine q_un3 (ev_callV (z := .ref a) (ea_cons (ev_var rfl) ea_nil) fun H1 e1 Q q => ⟨a, n, m, ms, rfl, hA.ex e1, M, hz, q⟩) ha fun H1 e1 => ?_
    have lt : (ms.take n).length = n := by simp; omega
    refine q_asgL (el_listTu (xs := vl (ms.take n)) (by rw [← vl_take]; exact etu_take (ev_var rfl) (ev_var rfl) (e1 _ _ hq))) fun pr H2 nr e2 hr2 => ?_
    refine q_asgL (el_lst ea_nil (by decide)) fun pb H3 nb e3 hb3 => ?_
    have e13 := (e1.trans e2).trans e3
    have nr' := fresh_back e1 nr
    have nb' := fresh_back (e1.trans e2) nb
    have nrb : pr ≠ pb := ne_of_none hr2 nb
    refine q_forETp (xs := vl (ms.take n)) (by rw [← vl_take]; exact etu_take (ev_var rfl) (ev_var rfl) (e13 _ _ hq)) (fun a' i σ' H' => Ex H H' ∧ H' a' = some (.tup (vl (ms.take n))) ∧ H' pr = some (.lst (vl (Ma.upRow n ms i).1)) ∧ H' pb = some (.lst (vl (Ma.upRow n ms i).2)) ∧ ∃ v6 v7, σ' = [some (.ref a), some (vi n), some (vi m), some (.ref q), some (.ref pr), some (.ref pb), v6, v7])
      (fun a' H4 e4 h4 => ⟨e13.trans e4, h4, e4 _ _ (e3 _ _ hr2), e4 _ _ hb3, none, none, rfl⟩) (fun a' i σ' H' _ ⟨_, h, _⟩ => h) ?_ ?_
    · rintro a' i x σ' H' H4 hx ⟨eH, ha', hr', hb', v6, v7, rfl⟩ e4
      obtain ⟨hi, rfl⟩ := vl_get hx
      have hin : i < n := by omega
      have eg : Ma.g (ms.take n) i = Ma.g ms i := by rw [Ma.take_map n ms (by omega), Ma.g_map hin]
      rw [eg]
      obtain ⟨u1, u2, u3, u4⟩ := Ma.upRow_ok (n := n) (a := ms) (by omega) i (by omega)
      have hlb : (Ma.upRow n ms i).2.length ≤ n := by
        rw [u1]
        have := List.length_filter_le (fun x => decide (n ≤ Ma.g ms x)) (List.range i)
        rw [List.length_range] at this
        omega
      have nap : a' ≠ pr := ne_of ha' hr' (by intro z; cases z)
      have nab : a' ≠ pb := ne_of ha' hb' (by intro z; cases z)
      by_cases hc : n ≤ Ma.g ms i
      · have eu : Ma.upRow n ms (i + 1) = ((Ma.upRow n ms i).1.set i (n + (Ma.upRow n ms i).2.length), (Ma.upRow n ms i).2 ++ [i]) := if_pos hc
        refine s_when (b := true) (et_ge (ev_var rfl) (ev_var rfl) (decide_eq_true (by omega))) (fun _ H5 e5 => ?_) (fun z => by cases z)
        refine q_setL (j := i) (v := vi (n + (Ma.upRow n ms i).2.length)) (e5 _ _ (e4 _ _ hr')) (ev_op (ev_var rfl) (ev_lenL (n := (Ma.upRow n ms i).2.length) (ev_var rfl) (e5 _ _ (e4 _ _ hb')) (by simp)) rv_I0) (ev_var rfl) (ev_var rfl) (by simp; omega) fun H6 e6 => ?_
        refine s_app (xs := vl (Ma.upRow n ms i).2) (by rw [upd_ne nrb.symm]; exact e6 _ _ (e5 _ _ (e4 _ _ hb'))) (ev_var rfl) (ev_var rfl) (by simp; omega) fun H7 e7 => ?_
        have eall := ((eH.trans e4).trans e5).trans e6
        refine ⟨Ex.mut ((Ex.mut eall nr').trans e7) nb', ?_, ?_, ?_, _, _, rfl⟩
        · rw [upd_ne nab]
          refine e7 _ _ ?_
          rw [upd_ne nap]
          exact e6 _ _ (e5 _ _ (e4 _ _ ha'))
        · rw [upd_ne nrb, eu]
          refine e7 _ _ ?_
          rw [upd_same, vl_set]
        · rw [upd_same, eu, vl_one]
      · have eu : Ma.upRow n ms (i + 1) = Ma.upRow n ms i := if_neg hc
        refine s_when (b := false) (et_ge (ev_var rfl) (ev_var rfl) (decide_eq_false (by omega))) (fun z => by cases z) fun _ H5 e5 => ?_
        rw [← eu] at hr' hb'
        exact ⟨(eH.trans e4).trans e5, e5 _ _ (e4 _ _ ha'), e5 _ _ (e4 _ _ hr'), e5 _ _ (e4 _ _ hb'), _, _, rfl⟩
    · rintro a' σ' H' ⟨eH, ha', hr', hb', v6, v7, rfl⟩
      rw [List.length_map, lt] at hr' hb'
      obtain ⟨u1, u2, u3, u4⟩ := Ma.upRow_ok (n := n) (a := ms) (by omega) n (by omega)
      have hlb : (Ma.upRow n ms n).2.length ≤ n := by
        rw [u1]
        have := List.length_filter_le (fun x => decide (n ≤ Ma.g ms x)) (List.range n)
        rw [List.length_range] at this
        omega
      refine s_retP (ep_mat (ev_var rfl) (ev_lenL (ev_var rfl) hb' (by simp)) (etu_new (eu_tupNL (el_is (el_catV (ev_var rfl) (ev_var rfl) hr' hb' (by simp; omega)) (by rw [vl_app]; rfl))))) fun v H2 e2 hv => k v H2 (eH.trans e2) hv
end
end HM
namespace HM
open PySem PySem.Spec PyProof.Rows L2 Evl
/-- all but the object at p is as it was -/
def Fr1 (p : Addr) (H H' : Hp) : Prop := ∀ b o, H b = some o → b ≠ p → H' b = some o
theorem Fr1.refl (p : Addr) (H : Hp) : Fr1 p H H := fun _ _ h _ => h
theorem Fr1.trans {p : Addr} {H H1 H2 : Hp} (a : Fr1 p H H1) (b : Fr1 p H1 H2) : Fr1 p H H2 := fun c o h n => b c o (a c o h n) n
theorem Fr1.of {p : Addr} {H H' : Hp} (e : Ex H H') : Fr1 p H H' := fun b o h _ => e b o h
theorem Fr1.upd {p : Addr} {H H' : Hp} {o : HO} (e : Fr1 p H H') : Fr1 p H (upd H' p o) := fun b u h n => by rw [upd_ne n]; exact e b u h n
theorem Fr1.ex {p : Addr} {H0 H H' : Hp} (e : Ex H0 H) (n : H0 p = none) (f : Fr1 p H H') : Ex H0 H' := fun b o h => f b o (e b o h) (ne_of_none h n)
theorem MatAt.fr {p : Addr} {H H' : Hp} {a : Addr} {n m : Nat} {ms : List Nat} {xs : List V} (h : MatAt H a n m ms) (hp : H p = some (.lst xs)) (f : Fr1 p H H') : MatAt H' a n m ms := by
  obtain ⟨q, h1, h2⟩ := h
  exact ⟨q, f _ _ h1 (ne_of h1 hp (by intro z; cases z)), f _ _ h2 (ne_of h2 hp (by intro z; cases z))⟩
/-- the bools that tell S -/
def Rep (n : Nat) (bs : List Bool) (S : Nat → Prop) : Prop := bs.length = n ∧ ∀ x, x < n → (bs.getD x false = true ↔ S x)
theorem Rep.set {n : Nat} {bs : List Bool} {S : Nat → Prop} (R : Rep n bs S) {y : Nat} (hy : y < n) : Rep n (bs.set y true) (fun x => S x ∨ x = y) := by
  obtain ⟨hl, h⟩ := R
  refine ⟨by simpa using hl, fun x hx => ?_⟩
  rw [List.getD_eq_getElem?_getD, List.getElem?_set]
  by_cases e : y = x
  · subst e
    rw [if_pos rfl, if_pos (by omega)]
    simp
  · rw [if_neg e, ← List.getD_eq_getElem?_getD, h x hx]
    constructor
    · exact .inl
    · rintro (z | z)
      · exact z
      · exact absurd z.symm e
theorem Rep.iff {n : Nat} {bs : List Bool} {S T : Nat → Prop} (R : Rep n bs S) (h : ∀ x, x < n → (S x ↔ T x)) : Rep n bs T := ⟨R.1, fun x hx => (R.2 x hx).trans (h x hx)⟩
theorem Rep.start (n : Nat) : Rep n (List.replicate n false) (fun _ => False) := ⟨by simp, fun x hx => by simp [List.getD_eq_getElem?_getD, hx]⟩
theorem vb_set (l : List Bool) (i : Nat) (x : Bool) : (vb l).set i (.bl x) = vb (l.set i x) := by unfold vb; rw [List.map_set]
theorem at_vb {l : List Bool} {i : Nat} (h : i < l.length) : atI (vb l) (i : Int) = some (.bl (l.getD i false)) := by
  refine atI_nat ?_
  rw [List.getElem?_map, List.getD_eq_getElem?_getD, List.getElem?_eq_getElem h]
  rfl
theorem at_vbI {l : List Bool} {z : Int} {i : Nat} (e : z = (i : Int)) (h : i < l.length) : atI (vb l) z = some (.bl (l.getD i false)) := by rw [e]; exact at_vb h
section
variable {K : PySem.W.Frag} {σ : L2.St} {H : Hp} {ta te : TE} {D : Ends} {tz : TS}
/-- xs.append(f(..)) where f writes; R tells what stands behind the call -/
theorem s_appCall {sp : Sp} {E : XK} {targs : TA} {vs xs : List V} {l : Addr} (R : V → Hp → Prop) (ha : Ev ta σ H (.ref l)) (hl : H l = some (.lst xs)) (h : EvA targs σ H vs) (hs : ∀ H1, Ex H H1 → ∀ Q : VK, (∀ v H2, R v H2 → Q v H2) → sp vs H1 Q E)
    (k : ∀ v H2, R v H2 → ∃ ys, H2 l = some (.lst ys) ∧ ys.length < 100000 ∧ D.nx σ (upd H2 l (.lst (ys ++ [v])))) :
    tDrop (tBM K "list" rAppend ta (tCons (tCall sp [] E targs) tNil)) D σ H := ha H (Ex.refl H) _ fun H1 e1 => ⟨.inl ⟨rfl, xs, sq_of (e1 _ _ hl)⟩, h H1 e1 _ fun H2 e2 => by
  show sp (vs ++ []) H2 _ E
  rw [List.append_nil]
  exact hs H2 (e1.trans e2) _ fun v H3 r => by
    obtain ⟨ys, h1, h2, h3⟩ := k v H3 r
    exact ⟨l, ys, v, rfl, rfl, h1, sz_lt h2, h3⟩⟩
end
section
variable {P : Program} {w : World} {K : PySem.W.Frag} {mg : Str → Option Value} {base : Heap}
/-- one, upside down, and the other one, as put takes them -/
structure Two (H : Hp) (aO aB : Addr) (n k1 k2 : Nat) (A al bl : List Nat) : Prop where
  one : MatAt H aO k1 n A
  oth : MatAt H aB n k2 bl
  flip : Ma.FlipOf n k1 A al
  ia : Ma.Inv (n + k1) (Ma.g al)
  ib : Ma.Inv (n + k2) (Ma.g bl)
  lb : bl.length = n + k2
  sz : n + k1 + k2 ≤ 1000
theorem Two.ex {H H' : Hp} {aO aB : Addr} {n k1 k2 : Nat} {A al bl : List Nat} (T : Two H aO aB n k1 k2 A al bl) (e : Ex H H') : Two H' aO aB n k1 k2 A al bl := ⟨T.one.ex e, T.oth.ex e, T.flip, T.ia, T.ib, T.lb, T.sz⟩
theorem Two.fr {p : Addr} {H H' : Hp} {aO aB : Addr} {n k1 k2 : Nat} {A al bl : List Nat} {xs : List V} (T : Two H aO aB n k1 k2 A al bl) (hp : H p = some (.lst xs)) (f : Fr1 p H H') : Two H' aO aB n k1 k2 A al bl := ⟨T.one.fr hp f, T.oth.fr hp f, T.flip, T.ia, T.ib, T.lb, T.sz⟩
/-- what a read off one's mates is: A at a top peg, at a peg between -/
theorem flip_top {n k1 : Nat} {A al : List Nat} (F : Ma.FlipOf n k1 A al) {y t : Nat} (h : t < k1) (e : Ma.g al (n + t) = y) : Ma.g A t = Ma.pl n k1 y := by rw [F.top t h, e]
def spFarEnd : Sp := fun vs H Q _ => ∃ (aO aB pp : Addr) (n k1 k2 q : Nat) (A al bl : List Nat) (bs : List Bool) (S : Nat → Prop), vs = [.ref aO, .ref aB, vi q, .ref pp] ∧ Two H aO aB n k1 k2 A al bl ∧ q < k1 + k2 ∧
  H pp = some (.lst (vb bs)) ∧ Rep n bs S ∧
  ∀ H' bs', Fr1 pp H H' → H' pp = some (.lst (vb bs')) → Rep n bs' (fun x => S x ∨ ∃ i, 1 ≤ i ∧ i < Ma.wf (Ma.g al) (Ma.g bl) n k1 q ∧ Ma.wk (Ma.g al) (Ma.g bl) n k1 q i = x) → Q (vi (Ma.we (Ma.g al) (Ma.g bl) n k1 q)) H'
theorem ok_far_end (B : Bt mg) (D : DefOk K mg "far_end" s_far_end) : Cal P w K mg base 1 "far_end" spFarEnd := by
  refine cal_of D sc_far_end (fun _ _ _ _ _ _ us hl => match us, hl with | [_, _, _, _], _ => rfl) (fun vs H Q E h => ?_) (fun f cdv A outer s H vs Q E hr h => ?_)
  · obtain ⟨aO, aB, pp, n, k1, k2, q, A, al, bl, bs, S, rfl, _⟩ := h; rfl
  · obtain ⟨aO, aB, pp, n, k1, k2, q, Al, al, bl, bs, S, rfl, T, hq, hpp, R, k⟩ := h
    have T' := T
    obtain ⟨⟨qO, hO, hOq⟩, ⟨qB, hB, hBq⟩, F, ia, ib, lb, sz⟩ := T'
    have lA := F.len
    have wp := Ma.wk_pos ia ib (k1 := k1) (k2 := k2) hq
    have wl1 := Ma.wk_lt ia ib (k1 := k1) (k2 := k2) (i := 0) hq (by omega)
    refine ⟨_, (pss_cons (ps_par (i := 4) (j := 5) rfl sc_far_end.nd rfl rfl (by decide) rfl rfl (pa_cons (pe_ix ix_seq (pv 0) pe_int (fun _ _ => rfl)) (pa_cons (pe_ix ix_seq (pv 0) pe_int (fun _ _ => rfl)) pa_nil)) rfl)
  (pss_cons (ps_set (i := 6) sc_far_end.nd rfl (.inl rfl) (pe_cmpR op_lt (pv 2) (pv 4) (nomark _)))
  (pss_cons (ps_set (i := 7) sc_far_end.nd rfl (.inl rfl) (pe_ifExp (pt_val (pv 6)) (pe_ix ix_seq (pe_ix ix_seq (pv 0) pe_int (fun _ _ => rfl)) (pv 2) (fun _ _ => rfl)) (pe_ix ix_seq (pe_ix ix_seq (pv 1) pe_int (fun _ _ => rfl)) (pe_op op_sub (pe_op op_add (pv 5) (pv 2)) (pv 4)) (fun _ _ => rfl))))
  (pss_one (ps_while PassesOwn.never (pt_val pe_bl)
  (pss_cons (ps_if (pt_val (pv 6)) (pss_cons (ps_if (pt_cmpR op_lt (pv 7) (pv 4) (nomark _)) (pss_one (ps_ret (pv 7))) pss_nil)
  (pss_cons (ps_aug (i := 7) sc_far_end.nd rfl (.inl rfl) (pv 4) ip_sub)
  (pss_cons (ps_asg pe_bl (pg_sub (pv 3) (pv 7) set_list))
  (pss_one (ps_set (i := 7) sc_far_end.nd rfl (.inl rfl) (pe_ix ix_seq (pe_ix ix_seq (pv 1) pe_int (fun _ _ => rfl)) (pv 7) (fun _ _ => rfl))))))) (pss_cons (ps_if (pt_cmpR op_ge (pv 7) (pv 5) (nomark _)) (pss_one (ps_ret (pe_op op_sub (pe_op op_add (pv 4) (pv 7)) (pv 5)))) pss_nil)
  (pss_cons (ps_asg pe_bl (pg_sub (pv 3) (pv 7) set_list))
  (pss_one (ps_set (i := 7) sc_far_end.nd rfl (.inl rfl) (pe_ix ix_seq (pe_ix ix_seq (pv 0) pe_int (fun _ _ => rfl)) (pe_op op_add (pv 4) (pv 7)) (fun _ _ => rfl)))))))
  (pss_one (ps_set (i := 6) sc_far_end.nd rfl (.inl rfl) (pe_not (pv 6)))))))))), ?_⟩
    refine q_par (ea_cons (ev_op (ev_var rfl) ev_c (rv_ixt hO (atI_nat (j := 0) rfl))) (ea_cons (ev_op (ev_var rfl) ev_c (rv_ixt hO (atI_nat (j := 1) rfl))) ea_nil)) fun H1 e1 => ?_
    refine q_asg (v := .bl (decide (q < k1))) (ev_is (ev_op (ev_var rfl) (ev_var rfl) rv_I0) (by simp)) fun H2 e2 => ?_
    have e12 := e1.trans e2
    -- the value at: of the i-th turn
    have atv : ∀ i, (if Ma.onA k1 q i then Ma.pl n k1 (Ma.wk (Ma.g al) (Ma.g bl) n k1 q i) else Ma.wk (Ma.g al) (Ma.g bl) n k1 q i) = (if Ma.onA k1 q i then Ma.pl n k1 (Ma.wk (Ma.g al) (Ma.g bl) n k1 q i) else Ma.wk (Ma.g al) (Ma.g bl) n k1 q i) := fun _ => rfl
    have w1 : Ma.wk (Ma.g al) (Ma.g bl) n k1 q 1 = if Ma.onA k1 q 1 then Ma.g al (Ma.ss n k1 q) else Ma.g bl (Ma.ss n k1 q) := Ma.wk_succ q 0
    refine q_asg (v := vi (if Ma.onA k1 q 1 then Ma.pl n k1 (Ma.wk (Ma.g al) (Ma.g bl) n k1 q 1) else Ma.wk (Ma.g al) (Ma.g bl) n k1 q 1)) (ev_if (b := decide (q < k1)) (et_B (ev_var rfl)) (fun z => ?_) (fun z => ?_)) fun H3 e3 => ?_
    · have z := of_decide_eq_true z
      have o1 : Ma.onA k1 q 1 := (Ma.onA_t z).mpr rfl
      have es : Ma.ss n k1 q = n + q := by unfold Ma.ss; rw [if_pos z]
      refine ev_is (ev_op (ev_op (ev_var rfl) ev_c (rv_ixt (e12 _ _ hO) (atI_nat (j := 2) rfl))) (ev_var rfl) (rv_ixt (e12 _ _ hOq) (at_vl (by omega)))) ?_
      rw [if_pos o1, w1, if_pos o1, es, F.top q z]
    · have z := of_decide_eq_false z
      have o1 : ¬ Ma.onA k1 q 1 := fun y => (Ma.onA_f z).mp y rfl
      have es : Ma.ss n k1 q = n + (q - k1) := by unfold Ma.ss; rw [if_neg z]
      refine ev_is (ev_op (ev_op (ev_var rfl) ev_c (rv_ixt (e12 _ _ hB) (atI_nat (j := 2) rfl))) (ev_op (ev_op (ev_var rfl) (ev_var rfl) rv_I0) (ev_var rfl) rv_I0) (rv_ixt (e12 _ _ hBq) (at_vlI (i := n + (q - k1)) (by omega) (by omega)))) ?_
      rw [if_neg o1, w1, if_neg o1, es]
    have e13 := e12.trans e3
    refine s_while (fun m σ' H' => ∃ i bs', m = Ma.wf (Ma.g al) (Ma.g bl) n k1 q - i ∧ 1 ≤ i ∧ i ≤ Ma.wf (Ma.g al) (Ma.g bl) n k1 q ∧ Fr1 pp H H' ∧ H' pp = some (.lst (vb bs')) ∧ Rep n bs' (fun x => S x ∨ ∃ j, 1 ≤ j ∧ j < i ∧ Ma.wk (Ma.g al) (Ma.g bl) n k1 q j = x) ∧
      σ' = [some (.ref aO), some (.ref aB), some (vi q), some (.ref pp), some (vi k1), some (vi n), some (.bl (decide (Ma.onA k1 q i))), some (vi (if Ma.onA k1 q i then Ma.pl n k1 (Ma.wk (Ma.g al) (Ma.g bl) n k1 q i) else Ma.wk (Ma.g al) (Ma.g bl) n k1 q i))])
      (Ma.wf (Ma.g al) (Ma.g bl) n k1 q - 1) ⟨1, bs, rfl, Nat.le_refl _, wp, .of e13, e13 _ _ hpp, R.iff fun x _ => ⟨.inl, fun h => h.elim id fun ⟨j, h1, h2, _⟩ => by omega⟩, ?_⟩ ?_
    · have : decide (q < k1) = decide (Ma.onA k1 q 1) := by
        by_cases z : q < k1
        · rw [decide_eq_true z, decide_eq_true ((Ma.onA_t z).mpr rfl)]
        · rw [decide_eq_false z, decide_eq_false (fun y => (Ma.onA_f z).mp y rfl)]
      rw [← this]
      rfl
    rintro m σ' H' ⟨i, bs', rfl, i1, i2, fr, hp', R', rfl⟩
    refine ⟨true, et_B ev_c, fun _ H4 e4 => ?_, fun z => by cases z⟩
    refine ⟨_, fun σ2 H2 h => h, ?_⟩
    have T4 := (T.fr hpp fr).ex e4
    obtain ⟨⟨qO4, hO4, hOq4⟩, ⟨qB4, hB4, hBq4⟩, _⟩ := T4
    have hp4 := e4 _ _ hp'
    -- in, out
    have sin : ∀ j, j < Ma.wf (Ma.g al) (Ma.g bl) n k1 q → 1 ≤ j → Ma.wk (Ma.g al) (Ma.g bl) n k1 q j < n := fun j h1 h2 => Ma.wk_in ia ib hq h2 h1
    have out := Ma.wk_out ia ib (k1 := k1) (k2 := k2) hq
    have endl := Ma.wk_end_lt ia ib (k1 := k1) (k2 := k2) hq
    have nxt := Ma.wk_succ (a := Ma.g al) (b := Ma.g bl) (n := n) (k1 := k1) q i
    have alt : Ma.onA k1 q (i + 1) ↔ ¬ Ma.onA k1 q i := by
      by_cases z : q < k1
      · rw [Ma.onA_t z, Ma.onA_t z]; omega
      · rw [Ma.onA_f z, Ma.onA_f z]; omega
    -- the turn's end
    have fin : ∀ H5 : Hp, Fr1 pp H H5 → i < Ma.wf (Ma.g al) (Ma.g bl) n k1 q → Ma.wk (Ma.g al) (Ma.g bl) n k1 q i < n → H5 pp = some (.lst (vb (bs'.set (Ma.wk (Ma.g al) (Ma.g bl) n k1 q i) true))) →
        ∃ m', m' < Ma.wf (Ma.g al) (Ma.g bl) n k1 q - i ∧ ∃ i_1 bs'_1, m' = Ma.wf (Ma.g al) (Ma.g bl) n k1 q - i_1 ∧ 1 ≤ i_1 ∧ i_1 ≤ Ma.wf (Ma.g al) (Ma.g bl) n k1 q ∧ Fr1 pp H H5 ∧ H5 pp = some (.lst (vb bs'_1)) ∧ Rep n bs'_1 (fun x => S x ∨ ∃ j, 1 ≤ j ∧ j < i_1 ∧ Ma.wk (Ma.g al) (Ma.g bl) n k1 q j = x) ∧
          [some (.ref aO), some (.ref aB), some (vi q), some (.ref pp), some (vi k1), some (vi n), some (.bl (!decide (Ma.onA k1 q i))), some (vi (if Ma.onA k1 q (i + 1) then Ma.pl n k1 (Ma.wk (Ma.g al) (Ma.g bl) n k1 q (i + 1)) else Ma.wk (Ma.g al) (Ma.g bl) n k1 q (i + 1)))] =
          [some (.ref aO), some (.ref aB), some (vi q), some (.ref pp), some (vi k1), some (vi n), some (.bl (decide (Ma.onA k1 q i_1))), some (vi (if Ma.onA k1 q i_1 then Ma.pl n k1 (Ma.wk (Ma.g al) (Ma.g bl) n k1 q i_1) else Ma.wk (Ma.g al) (Ma.g bl) n k1 q i_1))] := fun H5 f5 h1 h2 h5 => by
      refine ⟨Ma.wf (Ma.g al) (Ma.g bl) n k1 q - (i + 1), by omega, i + 1, _, rfl, by omega, by omega, f5, h5, (R'.set h2).iff fun x _ => ?_, ?_⟩
      · constructor
        · rintro ((h | ⟨j, j1, j2, j3⟩) | h)
          · exact .inl h
          · exact .inr ⟨j, j1, by omega, j3⟩
          · exact .inr ⟨i, i1, by omega, h.symm⟩
        · rintro (h | ⟨j, j1, j2, j3⟩)
          · exact .inl (.inl h)
          · by_cases z : j = i
            · subst z; exact .inr j3.symm
            · exact .inl (.inr ⟨j, j1, by omega, j3⟩)
      · have : (!decide (Ma.onA k1 q i)) = decide (Ma.onA k1 q (i + 1)) := by
          by_cases z : Ma.onA k1 q i
          · rw [decide_eq_true z, decide_eq_false (fun y => alt.mp y z)]; rfl
          · rw [decide_eq_false z, decide_eq_true (alt.mpr z)]; rfl
        rw [this]
    by_cases o : Ma.onA k1 q i
    · refine q_if (b := true) (et_B (ev_is (ev_var rfl) (by rw [decide_eq_true o]))) (fun _ H5 e5 => ?_) (fun z => by cases z)
      by_cases lo : n ≤ Ma.wk (Ma.g al) (Ma.g bl) n k1 q i
      · -- it comes out above
        have ei : i = Ma.wf (Ma.g al) (Ma.g bl) n k1 q := by
          by_cases z : i < Ma.wf (Ma.g al) (Ma.g bl) n k1 q
          · have := sin i z i1; omega
          · omega
        rw [← ei, if_pos o] at endl
        have ep : Ma.pl n k1 (Ma.wk (Ma.g al) (Ma.g bl) n k1 q i) = Ma.wk (Ma.g al) (Ma.g bl) n k1 q i - n := by unfold Ma.pl; rw [if_neg (by omega)]
        refine q_when (b := true) (et_lt (ev_var rfl) (ev_var rfl) ?_) (fun _ H6 e6 => ?_) (fun z => by cases z)
        · rw [if_pos o, ep]
          exact decide_eq_true (by omega)
        · refine s_ret (ev_var rfl) fun H7 e7 => ?_
          have ew : Ma.we (Ma.g al) (Ma.g bl) n k1 q = Ma.wk (Ma.g al) (Ma.g bl) n k1 q i - n := by unfold Ma.we; rw [← ei, if_pos o]
          have := k H7 bs' (fr.trans (.of (((e4.trans e5).trans e6).trans e7))) (((e4.trans e5).trans e6).trans e7 _ _ hp') (by rw [← ei]; exact R')
          rw [ew] at this
          rw [if_pos o, ep]
          exact this
      · have z : i < Ma.wf (Ma.g al) (Ma.g bl) n k1 q := by
          by_cases z : i = Ma.wf (Ma.g al) (Ma.g bl) n k1 q
          · rw [← z] at out; omega
          · omega
        have ep : Ma.pl n k1 (Ma.wk (Ma.g al) (Ma.g bl) n k1 q i) = Ma.wk (Ma.g al) (Ma.g bl) n k1 q i + k1 := by unfold Ma.pl; rw [if_pos (by omega)]
        refine q_when (b := false) (et_lt (ev_var rfl) (ev_var rfl) ?_) (fun z => by cases z) (fun _ H6 e6 => ?_)
        · rw [if_pos o, ep]
          exact decide_eq_false (by omega)
        refine q_aug (f := fun i j => i - j) (a := ((if Ma.onA k1 q i then Ma.pl n k1 (Ma.wk (Ma.g al) (Ma.g bl) n k1 q i) else Ma.wk (Ma.g al) (Ma.g bl) n k1 q i : Nat) : Int)) (b := (k1 : Int)) rfl (ev_var rfl) fun H7 e7 => ?_
        have ea : ((if Ma.onA k1 q i then Ma.pl n k1 (Ma.wk (Ma.g al) (Ma.g bl) n k1 q i) else Ma.wk (Ma.g al) (Ma.g bl) n k1 q i : Nat) : Int) - (k1 : Int) = ((Ma.wk (Ma.g al) (Ma.g bl) n k1 q i : Nat) : Int) := by rw [if_pos o, ep]; omega
        have e47 := ((e4.trans e5).trans e6).trans e7
        have e57 := (e5.trans e6).trans e7
        refine q_setL (j := Ma.wk (Ma.g al) (Ma.g bl) n k1 q i) (v := .bl true) (e47 _ _ hp') ev_c (ev_var rfl) (ev_isI (ev_var rfl) ea) (by rw [List.length_map, R'.1]; omega) fun H8 e8 => ?_
        have e48 := e47.trans e8
        have hB8 : (upd H8 pp (.lst ((vb bs').set (Ma.wk (Ma.g al) (Ma.g bl) n k1 q i) (.bl true)))) aB = some (.tup [vi n, vi k2, .ref qB4]) := by
          rw [upd_ne (ne_of (e48 _ _ (by exact (T.fr hpp fr).oth.choose_spec.1)) (e48 _ _ hp') (by intro z; cases z))]
          exact (e57.trans e8) _ _ hB4
        have hBq8 : (upd H8 pp (.lst ((vb bs').set (Ma.wk (Ma.g al) (Ma.g bl) n k1 q i) (.bl true)))) qB4 = some (.tup (vl bl)) := by
          have h := (e57.trans e8) _ _ hBq4
          rw [upd_ne (ne_of h (e48 _ _ hp') (by intro z; cases z))]
          exact h
        refine s_asg (v := vi (if Ma.onA k1 q (i + 1) then Ma.pl n k1 (Ma.wk (Ma.g al) (Ma.g bl) n k1 q (i + 1)) else Ma.wk (Ma.g al) (Ma.g bl) n k1 q (i + 1))) (ev_is (ev_op (ev_op (ev_var rfl) ev_c (rv_ixt hB8 (atI_nat (j := 2) rfl))) (ev_isI (ev_var rfl) ea) (rv_ixt hBq8 (at_vl (by omega)))) ?_) fun H9 e9 => ?_
        · rw [if_neg (fun y => alt.mp y o), nxt, if_neg (fun y => alt.mp y o)]
        refine s_asg (ev_notV (ev_var rfl)) fun H10 e10 => ?_
        refine fin H10 ((((fr.trans (.of e48)).upd).trans (.of e9)).trans (.of e10)) z (by omega) ?_
        refine e10 _ _ (e9 _ _ ?_)
        rw [upd_same, vb_set]
    · refine q_if (b := false) (et_B (ev_is (ev_var rfl) (by rw [decide_eq_false o]))) (fun z => by cases z) (fun _ H5 e5 => ?_)
      by_cases lo : n ≤ Ma.wk (Ma.g al) (Ma.g bl) n k1 q i
      · have ei : i = Ma.wf (Ma.g al) (Ma.g bl) n k1 q := by
          by_cases z : i < Ma.wf (Ma.g al) (Ma.g bl) n k1 q
          · have := sin i z i1; omega
          · omega
        refine q_when (b := true) (et_ge (ev_var rfl) (ev_var rfl) ?_) (fun _ H6 e6 => ?_) (fun z => by cases z)
        · rw [if_neg o]
          exact decide_eq_true (by omega)
        · refine s_ret (v := vi (Ma.we (Ma.g al) (Ma.g bl) n k1 q)) (ev_is (ev_op (ev_op (ev_var rfl) (ev_var rfl) rv_I0) (ev_var rfl) rv_I0) ?_) fun H7 e7 => ?_
          · have ew : Ma.we (Ma.g al) (Ma.g bl) n k1 q = k1 + (Ma.wk (Ma.g al) (Ma.g bl) n k1 q i - n) := by unfold Ma.we; rw [← ei, if_neg o]
            rw [if_neg o, ew]
            congr 1
            omega
          · exact k H7 bs' (fr.trans (.of (((e4.trans e5).trans e6).trans e7))) (((e4.trans e5).trans e6).trans e7 _ _ hp') (by rw [← ei]; exact R')
      · have z : i < Ma.wf (Ma.g al) (Ma.g bl) n k1 q := by
          by_cases z : i = Ma.wf (Ma.g al) (Ma.g bl) n k1 q
          · rw [← z] at out; omega
          · omega
        refine q_when (b := false) (et_ge (ev_var rfl) (ev_var rfl) ?_) (fun z => by cases z) (fun _ H6 e6 => ?_)
        · rw [if_neg o]
          exact decide_eq_false (by omega)
        have ea : ((if Ma.onA k1 q i then Ma.pl n k1 (Ma.wk (Ma.g al) (Ma.g bl) n k1 q i) else Ma.wk (Ma.g al) (Ma.g bl) n k1 q i : Nat) : Int) = ((Ma.wk (Ma.g al) (Ma.g bl) n k1 q i : Nat) : Int) := by rw [if_neg o]
        have e46 := (e4.trans e5).trans e6
        have e56 := e5.trans e6
        refine q_setL (j := Ma.wk (Ma.g al) (Ma.g bl) n k1 q i) (v := .bl true) (e46 _ _ hp') ev_c (ev_var rfl) (ev_isI (ev_var rfl) ea) (by rw [List.length_map, R'.1]; omega) fun H8 e8 => ?_
        have e48 := e46.trans e8
        have hO8 : (upd H8 pp (.lst ((vb bs').set (Ma.wk (Ma.g al) (Ma.g bl) n k1 q i) (.bl true)))) aO = some (.tup [vi k1, vi n, .ref qO4]) := by
          have h := (e56.trans e8) _ _ hO4
          rw [upd_ne (ne_of h (e48 _ _ hp') (by intro z; cases z))]
          exact h
        have hOq8 : (upd H8 pp (.lst ((vb bs').set (Ma.wk (Ma.g al) (Ma.g bl) n k1 q i) (.bl true)))) qO4 = some (.tup (vl Al)) := by
          have h := (e56.trans e8) _ _ hOq4
          rw [upd_ne (ne_of h (e48 _ _ hp') (by intro z; cases z))]
          exact h
        refine s_asg (v := vi (if Ma.onA k1 q (i + 1) then Ma.pl n k1 (Ma.wk (Ma.g al) (Ma.g bl) n k1 q (i + 1)) else Ma.wk (Ma.g al) (Ma.g bl) n k1 q (i + 1))) (ev_is (ev_op (ev_op (ev_var rfl) ev_c (rv_ixt hO8 (atI_nat (j := 2) rfl))) (ev_op (ev_var rfl) (ev_isI (ev_var rfl) ea) rv_I0) (rv_ixt hOq8 (at_vlI (i := k1 + Ma.wk (Ma.g al) (Ma.g bl) n k1 q i) (by omega) (by omega)))) ?_) fun H9 e9 => ?_
        · rw [if_pos (alt.mpr o), nxt, if_pos (alt.mpr o), F.low _ (by omega)]
        refine s_asg (ev_notV (ev_var rfl)) fun H10 e10 => ?_
        refine fin H10 ((((fr.trans (.of e48)).upd).trans (.of e9)).trans (.of e10)) z (by omega) ?_
        refine e10 _ _ (e9 _ _ ?_)
        rw [upd_same, vb_set]
end
end HM
namespace HM
open PySem PySem.Spec PyProof.Rows L2 Evl
section
variable {P : Program} {w : World} {K : PySem.W.Frag} {mg : Str → Option Value} {base : Heap}
theorem rep_bool {n : Nat} {bs : List Bool} {S : Nat → Prop} (R : Rep n bs S) {x : Nat} (hx : x < n) : (S x ∧ bs.getD x false = true) ∨ (¬ S x ∧ bs.getD x false = false) := by
  have h := R.2 x hx
  cases e : bs.getD x false with
  | true => exact .inl ⟨h.mp e, rfl⟩
  | false => exact .inr ⟨fun z => (by rw [h.mpr z] at e; cases e), rfl⟩
def spLoose : Sp := fun vs H Q _ => ∃ (aO aB pp : Addr) (n k1 k2 : Nat) (A al bl : List Nat) (bs : List Bool), vs = [.ref aO, .ref aB, .ref pp] ∧ Two H aO aB n k1 k2 A al bl ∧
  H pp = some (.lst (vb bs)) ∧ Rep n bs (Ma.S0 (Ma.g al) (Ma.g bl) n) ∧ ∀ H', Fr1 pp H H' → (∃ bs', H' pp = some (.lst (vb bs'))) → Q (vi (Ma.rgs (Ma.g al) (Ma.g bl) n n)) H'
theorem ok_loose_rings (B : Bt mg) (D : DefOk K mg "loose_rings" s_loose_rings) : Cal P w K mg base 1 "loose_rings" spLoose := by
  refine cal_of D sc_loose_rings (fun _ _ _ _ _ _ us hl => match us, hl with | [_, _, _], _ => rfl) (fun vs H Q E h => ?_) (fun f cdv A outer s H vs Q E hr h => ?_)
  · obtain ⟨aO, aB, pp, n, k1, k2, Al, al, bl, bs, rfl, _⟩ := h; rfl
  · obtain ⟨aO, aB, pp, n, k1, k2, Al, al, bl, bs, rfl, T, hpp, R, k⟩ := h
    have T' := T
    obtain ⟨⟨qO, hO, hOq⟩, ⟨qB, hB, hBq⟩, F, ia, ib, lb, sz⟩ := T'
    have lA := F.len
    refine ⟨_, (pss_cons (ps_set (i := 3) sc_loose_rings.nd rfl (.inl rfl) (pe_ix ix_seq (pv 0) pe_int (fun _ _ => rfl)))
  (pss_cons (ps_set (i := 4) sc_loose_rings.nd rfl (.inl rfl) pe_int)
  (pss_cons (ps_for PassesOwn.never rfl (pi_range1 (by rfl) B.range_ (pa_cons (pe_ix ix_seq (pv 0) pe_int (fun _ _ => rfl)) pa_nil)) (pg_name (i := 5) sc_loose_rings.nd rfl (.inl rfl))
  (pss_one (ps_if (pt_not (pt_val (pe_ix ix_seq (pv 2) (pv 5) (fun _ _ => rfl)))) (pss_cons (ps_aug (i := 4) sc_loose_rings.nd rfl (.inl rfl) pe_int ip_add)
  (pss_cons (ps_set (i := 6) sc_loose_rings.nd rfl (.inl rfl) (pv 5))
  (pss_one (ps_while PassesOwn.never (pt_not (pt_val (pe_ix ix_seq (pv 2) (pv 6) (fun _ _ => rfl))))
  (pss_cons (ps_asg pe_bl (pg_sub (pv 2) (pv 6) set_list))
  (pss_cons (ps_set (i := 6) sc_loose_rings.nd rfl (.inl rfl) (pe_op op_sub (pe_ix ix_seq (pe_ix ix_seq (pv 0) pe_int (fun _ _ => rfl)) (pe_op op_add (pv 3) (pv 6)) (fun _ _ => rfl)) (pv 3)))
  (pss_cons (ps_asg pe_bl (pg_sub (pv 2) (pv 6) set_list))
  (pss_one (ps_set (i := 6) sc_loose_rings.nd rfl (.inl rfl) (pe_ix ix_seq (pe_ix ix_seq (pv 1) pe_int (fun _ _ => rfl)) (pv 6) (fun _ _ => rfl))))))))))) pss_nil)))
  (pss_one (ps_ret (pv 4)))))), ?_⟩
    refine q_asg (ev_op (ev_var rfl) ev_c (rv_ixt hO (atI_nat (j := 0) rfl))) fun H1 e1 => ?_
    refine q_asg ev_c fun H2 e2 => ?_
    refine q_forR1 (n := (n : Int)) (ea_cons (ev_op (ev_var rfl) ev_c (rv_ixt ((e1.trans e2) _ _ hO) (atI_nat (j := 1) rfl))) ea_nil) ⟨by omega, by omega⟩
      (fun s σ' H' => Fr1 pp H H' ∧ (∃ bs', H' pp = some (.lst (vb bs')) ∧ Rep n bs' (Ma.Sat (Ma.g al) (Ma.g bl) n s)) ∧ ∃ v5 v6, σ' = [some (.ref aO), some (.ref aB), some (.ref pp), some (vi k1), some (vi (Ma.rgs (Ma.g al) (Ma.g bl) n s)), v5, v6])
      (fun H3 e3 => ⟨.of ((e1.trans e2).trans e3), ⟨bs, ((e1.trans e2).trans e3) _ _ hpp, R.iff fun x _ => ⟨.inl, fun h => h.elim id fun ⟨t, h1, _⟩ => by omega⟩⟩, none, none, rfl⟩) ?_ ?_
    · rintro s' σ' H' hs ⟨fr, ⟨bs', hp', R'⟩, v5, v6, rfl⟩
      have hs' : s' < n := by omega
      rcases rep_bool R' hs' with ⟨hS, hb⟩ | ⟨hS, hb⟩
      · refine s_when (b := false) (et_is (et_not (et_B (ev_op (ev_var rfl) (ev_var rfl) (rv_ixl hp' (at_vb (by rw [R'.1]; exact hs')))))) (by rw [hb]; rfl)) (fun z => by cases z) (fun _ H3 e3 => ?_)
        refine ⟨fr.trans (.of e3), ⟨bs', e3 _ _ hp', R'.iff fun x hx => ⟨fun h => ?_, fun h => ?_⟩⟩, _, _, by rw [Ma.rgs_yes hS]; rfl⟩
        · rcases h with h | ⟨t, h1, h2, h3⟩
          · exact .inl h
          · exact .inr ⟨t, by omega, h2, h3⟩
        · rcases h with h | ⟨t, h1, h2, h3⟩
          · exact .inl h
          · by_cases z : t = s'
            · subst z
              exact (hS.resolve_left h2).elim fun u ⟨u1, u2, u3⟩ => .inr ⟨u, u1, u2, u3.trans h3⟩
            · exact .inr ⟨t, by omega, h2, h3⟩
      · refine s_when (b := true) (et_is (et_not (et_B (ev_op (ev_var rfl) (ev_var rfl) (rv_ixl hp' (at_vb (by rw [R'.1]; exact hs')))))) (by rw [hb]; rfl)) (fun _ H3 e3 => ?_) (fun z => by cases z)
        refine q_aug (f := fun i j => i + j) rfl ev_c fun H4 e4 => ?_
        refine q_asg (v := vi s') (ev_var rfl) fun H5 e5 => ?_
        have e35 := (e3.trans e4).trans e5
        refine s_while (fun m σ2 H2 => ∃ i bs2, m = n - i ∧ Ma.Cy (Ma.g al) (Ma.g bl) n s' i ∧ Fr1 pp H H2 ∧ H2 pp = some (.lst (vb bs2)) ∧ Rep n bs2 (fun x => Ma.Sat (Ma.g al) (Ma.g bl) n s' x ∨ Ma.cyV (Ma.g al) (Ma.g bl) s' i x) ∧
          σ2 = [some (.ref aO), some (.ref aB), some (.ref pp), some (vi k1), some (vi (Ma.rgs (Ma.g al) (Ma.g bl) n s' + 1)), some (vi s'), some (vi (Ma.zo (Ma.g al) (Ma.g bl) s' i))])
          n ⟨0, bs', by omega, fun j h => by omega, fr.trans (.of e35), e35 _ _ hp', R'.iff fun x _ => ⟨.inl, fun h => h.elim id fun ⟨j, h1, _⟩ => by omega⟩, rfl⟩ ?_
        rintro m σ2 H2 ⟨i, bs2, rfl, cy, fr2, hp2, R2, rfl⟩
        have zf := Ma.zo_free ia ib (by omega) (by omega) hs' hS i
        have za := Ma.sat_a ia ib (by omega) (by omega) zf.1 zf.2
        have zb := Ma.sat_b ia ib (by omega) (by omega) za.1 za.2
        have T2 := T.fr hpp fr2
        obtain ⟨⟨qO4, hO4, hOq4⟩, ⟨qB4, hB4, hBq4⟩, _⟩ := T2
        rcases rep_bool R2 zf.1 with ⟨hY, hb2⟩ | ⟨hY, hb2⟩
        · refine ⟨false, et_is (et_not (et_B (ev_op (ev_var rfl) (ev_var rfl) (rv_ixl hp2 (at_vb (by rw [R2.1]; exact zf.1)))))) (by rw [hb2]; rfl), (fun z => by cases z), fun _ H6 e6 => ?_⟩
          have i1 : 1 ≤ i := by
            apply Classical.byContradiction
            intro z
            have : i = 0 := by omega
            subst this
            exact hY.elim hS fun ⟨j, h1, _⟩ => by omega
          have ce := Ma.cy_end ia ib (by omega) (by omega) hs' cy i1 hY
          exact ⟨fr2.trans (.of e6), ⟨bs2, e6 _ _ hp2, R2.iff fun x _ => ce x⟩, _, _, by rw [Ma.rgs_no hS]⟩
        · refine ⟨true, et_is (et_not (et_B (ev_op (ev_var rfl) (ev_var rfl) (rv_ixl hp2 (at_vb (by rw [R2.1]; exact zf.1)))))) (by rw [hb2]; rfl), (fun _ H6 e6 => ?_), fun z => by cases z⟩
          have cy' : Ma.Cy (Ma.g al) (Ma.g bl) n s' (i + 1) := fun j hj => by
            by_cases z : j = i
            · subst z; exact hY
            · exact cy j (by omega)
          have cb := Ma.cy_bound ia ib (by omega) (by omega) hs' cy'
          refine ⟨_, fun σ3 H3 h => h, ?_⟩
          refine q_setL (j := Ma.zo (Ma.g al) (Ma.g bl) s' i) (v := .bl true) (e6 _ _ hp2) ev_c (ev_var rfl) (ev_var rfl) (by rw [List.length_map, R2.1]; exact zf.1) fun H7 e7 => ?_
          have e67 := e6.trans e7
          have hp7 := e67 _ _ hp2
          have old : ∀ {b : Addr} {xs : List V}, H2 b = some (.tup xs) → (upd H7 pp (.lst ((vb bs2).set (Ma.zo (Ma.g al) (Ma.g bl) s' i) (.bl true)))) b = some (.tup xs) := fun h => by
            rw [upd_ne (ne_of h hp2 (by intro z; cases z))]
            exact e67 _ _ h
          refine q_asg (v := vi (Ma.g al (Ma.zo (Ma.g al) (Ma.g bl) s' i))) (ev_is (ev_op (ev_op (ev_op (ev_var rfl) ev_c (rv_ixt (old hO4) (atI_nat (j := 2) rfl))) (ev_op (ev_var rfl) (ev_var rfl) rv_I0) (rv_ixt (old hOq4) (at_vlI (i := k1 + Ma.zo (Ma.g al) (Ma.g bl) s' i) (by omega) (by omega)))) (ev_var rfl) rv_I0) ?_) fun H8 e8 => ?_
          · rw [F.low _ zf.1]
            unfold Ma.pl
            rw [if_pos za.1]
            congr 1
            omega
          have hp8 : H8 pp = some (.lst (vb (bs2.set (Ma.zo (Ma.g al) (Ma.g bl) s' i) true))) := e8 _ _ (by rw [upd_same, vb_set])
          refine q_setL (j := Ma.g al (Ma.zo (Ma.g al) (Ma.g bl) s' i)) (v := .bl true) hp8 ev_c (ev_var rfl) (ev_var rfl) (by rw [List.length_map, List.length_set, R2.1]; exact za.1) fun H9 e9 => ?_
          have old2 : ∀ {b : Addr} {xs : List V}, H2 b = some (.tup xs) → (upd H9 pp (.lst ((vb (bs2.set (Ma.zo (Ma.g al) (Ma.g bl) s' i) true)).set (Ma.g al (Ma.zo (Ma.g al) (Ma.g bl) s' i)) (.bl true)))) b = some (.tup xs) := fun h => by
            rw [upd_ne (ne_of h hp2 (by intro z; cases z))]
            exact e9 _ _ (e8 _ _ (old h))
          refine s_asg (v := vi (Ma.zo (Ma.g al) (Ma.g bl) s' (i + 1))) (ev_op (ev_op (ev_var rfl) ev_c (rv_ixt (old2 hB4) (atI_nat (j := 2) rfl))) (ev_var rfl) (rv_ixt (old2 hBq4) (at_vl (by omega)))) fun H10 e10 => ?_
          refine ⟨n - (i + 1), by omega, i + 1, _, rfl, cy', (((((fr2.trans (.of e67)).upd).trans (.of e8)).trans (.of e9)).upd).trans (.of e10), e10 _ _ (by rw [upd_same, vb_set]), ((R2.set zf.1).set za.1).iff fun x _ => ?_, rfl⟩
          constructor
          · rintro ((( h | ⟨j, h1, h2⟩) | h) | h)
            · exact .inl h
            · exact .inr ⟨j, by omega, h2⟩
            · exact .inr ⟨i, by omega, .inl h⟩
            · exact .inr ⟨i, by omega, .inr h⟩
          · rintro (h | ⟨j, h1, h2⟩)
            · exact .inl (.inl (.inl h))
            · by_cases z : j = i
              · subst z
                rcases h2 with h2 | h2
                · exact .inl (.inr h2)
                · exact .inr h2
              · exact .inl (.inl (.inr ⟨j, by omega, h2⟩))
    · rintro σ' H' ⟨fr, ⟨bs', hp', R'⟩, v5, v6, rfl⟩
      rw [show ((n : Int)).toNat = n by omega]
      exact s_ret (ev_var rfl) fun H3 e3 => k H3 (fr.trans (.of e3)) ⟨bs', e3 _ _ hp'⟩
def PutAt (H : Hp) (a : Addr) (r n k : Nat) (ms : List Nat) : Prop := ∃ q, H a = some (.tup [vi r, vi n, vi k, .ref q]) ∧ H q = some (.tup (vl ms))
def spPut : Sp := fun vs H Q _ => ∃ (aO aB : Addr) (n k1 k2 : Nat) (A al bl : List Nat), vs = [.ref aO, .ref aB] ∧ Two H aO aB n k1 k2 A al bl ∧
  ∀ v H', Ex H H' → (∃ p, v = .ref p ∧ PutAt H' p (Ma.rgs (Ma.g al) (Ma.g bl) n n) k1 k2 (Ma.putM (Ma.g al) (Ma.g bl) n k1 k2)) → Q v H'
theorem putM_take {a b : Nat → Nat} {n k1 k2 i : Nat} (hi : i < k1 + k2) : (Ma.putM a b n k1 k2).take (i + 1) = (Ma.putM a b n k1 k2).take i ++ [Ma.we a b n k1 i] := by
  rw [List.take_add_one]
  congr 1
  unfold Ma.putM
  simp [hi]
theorem s_retCall {σ : L2.St} {H : Hp} {D : Ends} {sp : Sp} {E : XK} {targs ts : TA} {vs : List V} (R : V → Hp → Prop) (h : EvA targs σ H vs) (hs : ∀ H1, Ex H H1 → ∀ Q : VK, (∀ v H2, R v H2 → Q v H2) → sp vs H1 Q E)
    (k : ∀ v H2, R v H2 → ts σ H2 fun xs H3 => xs.length + 1 ≤ sizeLine ∧ ∀ p, H3 p = none → D.rt (.ref p) (upd H3 p (.tup (v :: xs)))) : tRet (tTup (tCons (tCall sp [] E targs) ts)) D σ H :=
  h H (Ex.refl H) _ fun H1 e1 => by
    show sp (vs ++ []) H1 _ E
    rw [List.append_nil]
    exact hs H1 e1 _ fun v H2 r => k v H2 r
theorem ok_put_behind (B : Bt mg) (D : DefOk K mg "put_behind" s_put_behind) (C_far_end : Cal P w K mg base 1 "far_end" spFarEnd) (C_loose_rings : Cal P w K mg base 1 "loose_rings" spLoose) : Cal P w K mg base 2 "put_behind" spPut := by
  refine cal_of D sc_put_behind (fun _ _ _ _ _ _ us hl => match us, hl with | [_, _], _ => rfl) (fun vs H Q E h => ?_) (fun f cdv A outer s H vs Q E hr h => ?_)
  · obtain ⟨aO, aB, n, k1, k2, Al, al, bl, rfl, _⟩ := h; rfl
  · obtain ⟨aO, aB, n, k1, k2, Al, al, bl, rfl, T, k⟩ := h
    have T' := T
    obtain ⟨⟨qO, hO, hOq⟩, ⟨qB, hB, hBq⟩, F, ia, ib, lb, sz⟩ := T'
    refine ⟨_, (pss_cons (ps_par (i := 2) (j := 3) rfl sc_put_behind.nd rfl rfl (by decide) rfl rfl (pa_cons (pe_ix ix_seq (pv 0) pe_int (fun _ _ => rfl)) (pa_cons (pe_ix ix_seq (pv 1) pe_int (fun _ _ => rfl)) pa_nil)) rfl)
  (pss_cons (ps_set (i := 4) sc_put_behind.nd rfl (.inl rfl) (pe_op op_rep (pe_lst (pa_cons pe_bl pa_nil)) (pe_ix ix_seq (pv 0) pe_int (fun _ _ => rfl))))
  (pss_cons (ps_set (i := 5) sc_put_behind.nd rfl (.inl rfl) (pe_lst pa_nil))
  (pss_cons (ps_for PassesOwn.never rfl (pi_range1 (by rfl) B.range_ (pa_cons (pe_op op_add (pv 2) (pv 3)) pa_nil)) (pg_name (i := 6) sc_put_behind.nd rfl (.inl rfl))
  (pss_one (ps_expr (pe_bm PySem.F.plainAttrs_list PySem.F.slot_list_append PySem.F.type_list_append mt_append (pv 5) (pa_cons (pe_c C_far_end hr (by decide) (by rfl) (pa_cons (pv 0) (pa_cons (pv 1) (pa_cons (pv 6) (pa_cons (pv 4) pa_nil))))) pa_nil)))))
  (pss_one (ps_ret (pe_tup (pa_cons (pe_c C_loose_rings hr (by decide) (by rfl) (pa_cons (pv 0) (pa_cons (pv 1) (pa_cons (pv 4) pa_nil)))) (pa_cons (pv 2) (pa_cons (pv 3) (pa_cons (pe_callTy call_tuple_of (by rfl) B.tuple_ (by decide +kernel) (pa_cons (pv 5) pa_nil)) pa_nil))))))))))), ?_⟩
    refine q_par (ea_cons (ev_op (ev_var rfl) ev_c (rv_ixt hO (atI_nat (j := 0) rfl))) (ea_cons (ev_op (ev_var rfl) ev_c (rv_ixt hB (atI_nat (j := 1) rfl))) ea_nil)) fun H1 e1 => ?_
    refine q_asgL (el_rep1 (k := n) (x := .bl false) (el_lst (ea_cons ev_c ea_nil) (by decide)) (ev_op (ev_var rfl) ev_c (rv_ixt (e1 _ _ hO) (atI_nat (j := 1) rfl))) (by omega)) fun pp H2 np e2 hp => ?_
    refine q_asgL (el_lst ea_nil (by decide)) fun pm H3 nm e3 hm => ?_
    have np' := fresh_back e1 np
    have nm' := fresh_back (e1.trans e2) nm
    have npm : pp ≠ pm := ne_of_none hp nm
    have hp3 := e3 _ _ hp
    have erep : List.replicate n (V.bl false) = vb (List.replicate n false) := by unfold vb; rw [List.map_replicate]
    rw [erep] at hp3
    have e13 := (e1.trans e2).trans e3
    refine q_forR1 (n := ((k1 + k2 : Nat) : Int)) (ea_cons (ev_is (ev_op (ev_var rfl) (ev_var rfl) rv_I0) (by simp)) ea_nil) ⟨by omega, by omega⟩
      (fun q σ' H' => Ex H H' ∧ (∃ bs', H' pp = some (.lst (vb bs')) ∧ Rep n bs' (Ma.Vp (Ma.g al) (Ma.g bl) n k1 q)) ∧ H' pm = some (.lst (vl ((Ma.putM (Ma.g al) (Ma.g bl) n k1 k2).take q))) ∧ ∃ v6, σ' = [some (.ref aO), some (.ref aB), some (vi k1), some (vi k2), some (.ref pp), some (.ref pm), v6])
      (fun H4 e4 => ⟨e13.trans e4, ⟨_, e4 _ _ hp3, (Rep.start n).iff fun x _ => ⟨fun h => h.elim, fun h => Ma.vp_zero h⟩⟩, e4 _ _ hm, none, rfl⟩) ?_ ?_
    · rintro q σ' H' hq ⟨eH, ⟨bs', hp', R'⟩, hm', v6, rfl⟩
      have hq' : q < k1 + k2 := by omega
      refine s_appCall (vs := [.ref aO, .ref aB, vi q, .ref pp]) (fun v H5 => v = vi (Ma.we (Ma.g al) (Ma.g bl) n k1 q) ∧ Ex H H5 ∧ (∃ bs2, H5 pp = some (.lst (vb bs2)) ∧ Rep n bs2 (Ma.Vp (Ma.g al) (Ma.g bl) n k1 (q + 1))) ∧ H5 pm = some (.lst (vl ((Ma.putM (Ma.g al) (Ma.g bl) n k1 k2).take q)))) (ev_var rfl) hm' (ea_cons (ev_var rfl) (ea_cons (ev_var rfl) (ea_cons (ev_var rfl) (ea_cons (ev_var rfl) ea_nil)))) (fun H4 e4 Q' q' => ?_) (fun v H5 h => ?_)
      · refine ⟨aO, aB, pp, n, k1, k2, q, Al, al, bl, bs', _, rfl, T.ex (eH.trans e4), hq', e4 _ _ hp', R', fun H5 bs2 f5 h5 R5 => q' _ _ ⟨rfl, f5.ex (eH.trans e4) np', ⟨bs2, h5, R5.iff fun x _ => Ma.vp_succ.symm⟩, f5 _ _ (e4 _ _ hm') npm.symm⟩⟩
      · obtain ⟨rfl, e5, ⟨bs2, h5, R5⟩, hm5⟩ := h
        refine ⟨_, hm5, by simp; omega, Ex.mut e5 nm', ⟨bs2, by rw [upd_ne npm]; exact h5, R5⟩, ?_, _, rfl⟩
        rw [upd_same, putM_take hq', vl_one]
    · rintro σ' H' ⟨eH, ⟨bs', hp', R'⟩, hm', v6, rfl⟩
      rw [show (((k1 + k2 : Nat) : Int)).toNat = k1 + k2 by omega] at R' hm'
      have et : (Ma.putM (Ma.g al) (Ma.g bl) n k1 k2).take (k1 + k2) = Ma.putM (Ma.g al) (Ma.g bl) n k1 k2 := List.take_of_length_le (by rw [Ma.putM_len]; exact Nat.le_refl _)
      rw [et] at hm'
      -- (loose_rings(..), n, k, tuple(mates))
      refine s_retCall (vs := [.ref aO, .ref aB, .ref pp]) (fun v H5 => v = vi (Ma.rgs (Ma.g al) (Ma.g bl) n n) ∧ Ex H H5 ∧ H5 pm = some (.lst (vl (Ma.putM (Ma.g al) (Ma.g bl) n k1 k2)))) (ea_cons (ev_var rfl) (ea_cons (ev_var rfl) (ea_cons (ev_var rfl) ea_nil))) (fun H4 e4 Q' q' => ?_) (fun v H5 h => ?_)
      · refine ⟨aO, aB, pp, n, k1, k2, Al, al, bl, bs', rfl, T.ex (eH.trans e4), e4 _ _ hp', R'.iff fun x hx => Ma.vp_iff ia ib hx, fun H5 f5 _ => ?_⟩
        exact q' _ _ ⟨rfl, f5.ex (eH.trans e4) np', f5 _ _ (e4 _ _ hm') npm.symm⟩
      · obtain ⟨rfl, e5, hm5⟩ := h
        refine ⟨_, rfl, _, rfl, ?_⟩
        refine eu_tupL (σ := [some (.ref aO), some (.ref aB), some (vi k1), some (vi k2), some (.ref pp), some (.ref pm), v6]) (ev_var (i := 5) rfl) hm5 H5 (Ex.refl _) _ fun r H6 _ e6 hr' => ?_
        refine ⟨by show 4 ≤ sizeLine; decide, fun p hp => ?_⟩
        exact k _ _ ((e5.trans e6).trans (Ex.new hp)) ⟨p, rfl, r, upd_same, (Ex.new hp) _ _ hr'⟩
end
end HM
namespace HM
open PySem PySem.Spec PyProof.Rows L2 Evl
section
variable {K : PySem.W.Frag} {σ : L2.St} {H H' : Hp} {ta tb tc te tx tl : TE} {t u tt : TT} {x y z v : V} {D : Ends} {tu tw tz : TS} {g : TG}
/-! ### two or three names at once, new lists among them -/
theorem q_parLL {i j : Nat} {xs ys : List V} (h1 : EvL ta σ H xs) (h2 : EvL tb σ H ys) (k : ∀ p q H1, H p = none → H q = none → p ≠ q → Ex H H1 → H1 p = some (.lst xs) → H1 q = some (.lst ys) → tz D ((σ.set i (some (.ref p))).set j (some (.ref q))) H1) : tSeq (tPar i j (tCons ta (tCons tb tNil))) tz D σ H :=
  h1 H (Ex.refl H) _ fun p H1 np e1 hp => h2 H1 e1 _ fun q H2 nq e2 hq => ⟨_, _, rfl, k p q H2 np (fresh_back e1 nq) (ne_of_none hp nq) (e1.trans e2) (e2 _ _ hp) hq⟩
theorem q_parLV {i j : Nat} {xs : List V} (h1 : EvL ta σ H xs) (h2 : Ev tb σ H y) (k : ∀ p H1, H p = none → Ex H H1 → H1 p = some (.lst xs) → tz D ((σ.set i (some (.ref p))).set j (some y)) H1) : tSeq (tPar i j (tCons ta (tCons tb tNil))) tz D σ H :=
  h1 H (Ex.refl H) _ fun p H1 np e1 hp => h2 H1 e1 _ fun H2 e2 => ⟨_, _, rfl, k p H2 np (e1.trans e2) (e2 _ _ hp)⟩
theorem q_parVL {i j : Nat} {ys : List V} (h1 : Ev ta σ H x) (h2 : EvL tb σ H ys) (k : ∀ q H1, H q = none → Ex H H1 → H1 q = some (.lst ys) → tz D ((σ.set i (some x)).set j (some (.ref q))) H1) : tSeq (tPar i j (tCons ta (tCons tb tNil))) tz D σ H :=
  h1 H (Ex.refl H) _ fun H1 e1 => h2 H1 e1 _ fun q H2 nq e2 hq => ⟨_, _, rfl, k q H2 (fresh_back e1 nq) (e1.trans e2) hq⟩
theorem q_par3VLL {i j l : Nat} {xs ys : List V} (h0 : Ev ta σ H x) (h1 : EvL tb σ H xs) (h2 : EvL tc σ H ys) (k : ∀ p q H1, H p = none → H q = none → p ≠ q → Ex H H1 → H1 p = some (.lst xs) → H1 q = some (.lst ys) → tz D (((σ.set i (some x)).set j (some (.ref p))).set l (some (.ref q))) H1) : tSeq (tPar3 i j l (tCons ta (tCons tb (tCons tc tNil)))) tz D σ H :=
  h0 H (Ex.refl H) _ fun H0 e0 => h1 H0 e0 _ fun p H1 np e1 hp => h2 H1 (e0.trans e1) _ fun q H2 nq e2 hq => ⟨_, _, _, rfl, k p q H2 (fresh_back e0 np) (fresh_back (e0.trans e1) nq) (ne_of_none hp nq) ((e0.trans e1).trans e2) (e2 _ _ hp) hq⟩
/-- a, b, c, d = a tuple of four, new -/
theorem q_un4 {i j l m : Nat} {a b c d : V} {P : V → Hp → Prop} (h : EvP te σ H P) (hp : ∀ v H1, Ex H H1 → P v H1 → ∃ p, v = .ref p ∧ H1 p = some (.tup [a, b, c, d])) (k : ∀ v H1, Ex H H1 → P v H1 → tz D ((((σ.set i (some a)).set j (some b)).set l (some c)).set m (some d)) H1) : tSeq (tAsg te (gTup K 4 (gCons (gName i) (gCons (gName j) (gCons (gName l) (gCons (gName m) gNil)))))) tz D σ H :=
  h H (Ex.refl H) _ fun v H1 e hv => by
    obtain ⟨p, rfl, h2⟩ := hp v H1 e hv
    exact ⟨p, _, rfl, st_of h2, rfl, a, [b, c, d], rfl, b, [c, d], rfl, c, [d], rfl, d, [], rfl, rfl, k _ H1 e hv⟩
/-! ### stores -/
theorem g_setL {l : Addr} {xs : List V} {j : Nat} {R : L2.St → Hp → Prop} (hl : H l = some (.lst xs)) (ho : Ev ta σ H (.ref l)) (hi : Ev tb σ H (.int (j : Int))) (hj : j < xs.length) (k : ∀ H1, Ex H H1 → R σ (upd H1 l (.lst (xs.set j v)))) : gSub ta tb rSetL v σ H R :=
  ho H (Ex.refl H) _ fun H2 e2 => hi H2 e2 _ fun H3 e3 => ⟨l, xs, (j : Int), j, rfl, rfl, (e2.trans e3) l _ hl, ixN_nat hj, k H3 (e2.trans e3)⟩
theorem q_popG {l : Addr} {xs : List V} (ha : Ev ta σ H (.ref l)) (hl : H l = some (.lst (xs ++ [x]))) (k : ∀ H1, Ex H H1 → g x σ (upd H1 l (.lst xs)) (tz D)) : tSeq (tAsg (tBM0 K "list" rPop ta) g) tz D σ H := dr_pop ha hl k
theorem s_appP {l : Addr} {xs : List V} {P : V → Hp → Prop} (hl : H l = some (.lst xs)) (ha : Ev ta σ H (.ref l)) (h : EvP te σ H P) (hz : xs.length < 100000) (k : ∀ v H1, Ex H H1 → P v H1 → D.nx σ (upd H1 l (.lst (xs ++ [v])))) :
    tDrop (tBM K "list" rAppend ta (tCons te tNil)) D σ H := ha H (Ex.refl H) _ fun H1 e1 =>
  ⟨Or.inl ⟨rfl, xs, sq_of (e1 l _ hl)⟩, h H1 e1 _ fun v H2 e2 h2 => ⟨l, xs, v, rfl, rfl, e2 l _ (e1 l _ hl), sz_lt hz, k v H2 (e1.trans e2) h2⟩⟩
/-! ### tuples -/
theorem cat_go {a b : Addr} {xs ys : List V} {Q : VK} (h1 : H a = some (.tup xs)) (h2 : H b = some (.tup ys)) (hz : xs.length + ys.length ≤ 100000) (q : ∀ v H2, Ex H H2 → (∃ p, v = .ref p ∧ H2 p = some (.tup (xs ++ ys))) → Q v H2) : rCatA K (.ref a) (.ref b) H Q :=
  ⟨a, b, xs, ys, rfl, rfl, st_of h1, st_of h2, sz_of hz, fun e => q _ _ (Ex.refl H) ⟨b, rfl, by rw [e]; exact h2⟩, fun _ e => q _ _ (Ex.refl H) ⟨a, rfl, by rw [e, List.append_nil]; exact h1⟩, fun _ _ p hp => q _ _ (Ex.new hp) ⟨p, rfl, upd_same⟩⟩
theorem etu_cat {xs ys : List V} (h1 : EvTu ta σ H xs) (h2 : ∀ H1, Ex H H1 → EvTu tb σ H1 ys) (hz : xs.length + ys.length ≤ 100000) : EvTu (tOp (rCatA K) ta tb) σ H (xs ++ ys) := fun H1 e Q q =>
  h1 H1 e _ fun w H2 e2 ⟨a, ew, ha⟩ => by
    subst ew
    exact h2 H2 (e.trans e2) H2 (Ex.refl H2) _ fun w H3 e3 ⟨b, ew, hb⟩ => by
      subst ew
      exact cat_go (e3 _ _ ha) hb hz fun v H4 e4 h => q v H4 ((e2.trans e3).trans e4) h
theorem etu_tup {ta : TA} {vs : List V} (h : EvA ta σ H vs) (hl : vs.length ≤ 100000) : EvTu (tTup ta) σ H vs := etu_new (eu_tup h hl)
/-! ### loops -/
theorem walk_listG {a : Addr} {xs : List V} : Walk (Itl K a) xs.length (fun H => SqL K H a xs) (YAt xs) := walk_list
/-- for a, b in xs: pairs -/
theorem q_forL2 {a : Addr} {xs : List V} {i1 i2 : Nat} (h : Ev tl σ H (.ref a)) (hx : H a = some (.lst xs)) (Pv : Nat → L2.St → Hp → Prop) (h0 : ∀ H1, Ex H H1 → Pv 0 σ H1) (hl : ∀ i σ' H', i ≤ xs.length → Pv i σ' H' → H' a = some (.lst xs))
    (hs : ∀ i x σ' H', xs[i]? = some x → Pv i σ' H' → ∃ p u w, x = .ref p ∧ H' p = some (.tup [u, w]) ∧ tu { D with nx := Pv (i + 1), ct := Pv (i + 1), bk := tz D } ((σ'.set i1 (some u)).set i2 (some w)) H') (hd : ∀ σ' H', Pv xs.length σ' H' → tz D σ' H') : tSeq (tFor (iList K tl) (g2 K i1 i2) tu) tz D σ H :=
  h H (Ex.refl H) _ fun H1 e => ⟨a, rfl, ⟨xs, sq_of (e _ _ hx)⟩, for_it (D := { D with nx := tz D }) walk_list Pv (h0 H1 e) (fun i σ' H' hi p => sq_of (hl i σ' H' hi p)) (fun i x σ' H' H2 hi p y => by
    obtain ⟨rfl, y2⟩ := y
    obtain ⟨p', u, w, rfl, hp, k⟩ := hs i x σ' _ y2 p
    exact g2_new hp k) hd⟩
/-- for x in a tuple that is laid for it -/
theorem s_forNT {xs : List V} {j : Nat} (h : EvTu tl σ H xs) (Pv : Nat → L2.St → Hp → Prop) (h0 : ∀ H1, Ex H H1 → Pv 0 σ H1) (hl : ∀ a H1, Ex H H1 → H1 a = some (.tup xs) → ∀ i σ' H', i ≤ xs.length → Pv i σ' H' → H' a = some (.tup xs))
    (hs : ∀ i x σ' H', xs[i]? = some x → Pv i σ' H' → tu { D with nx := Pv (i + 1), ct := Pv (i + 1), bk := D.nx } (σ'.set j (some x)) H') (hd : ∀ σ' H', Pv xs.length σ' H' → D.nx σ' H') : tFor (iTup K tl) (gName j) tu D σ H :=
  h H (Ex.refl H) _ fun w H1 e ⟨a, ew, hx⟩ => by
    subst ew
    exact ⟨a, rfl, ⟨xs, st_of hx⟩, for_it walk_tup Pv (h0 H1 e) (fun i σ' H' hi p => st_of (hl a H1 e hx i σ' H' hi p)) (fun i x σ' H' H2 hi p y => by
      obtain ⟨rfl, y2⟩ := y
      exact hs i x σ' _ y2 p) hd⟩
/-- .. the tuple's address in the word -/
theorem s_forNTa {xs : List V} {j : Nat} (h : EvTu tl σ H xs) (Pv : Addr → Nat → L2.St → Hp → Prop) (h0 : ∀ a H1, Ex H H1 → H1 a = some (.tup xs) → Pv a 0 σ H1) (hl : ∀ a i σ' H', i ≤ xs.length → Pv a i σ' H' → H' a = some (.tup xs))
    (hs : ∀ a i x σ' H', xs[i]? = some x → Pv a i σ' H' → tu { D with nx := Pv a (i + 1), ct := Pv a (i + 1), bk := D.nx } (σ'.set j (some x)) H') (hd : ∀ a σ' H', Pv a xs.length σ' H' → D.nx σ' H') : tFor (iTup K tl) (gName j) tu D σ H :=
  h H (Ex.refl H) _ fun w H1 e ⟨a, ew, hx⟩ => by
    subst ew
    exact ⟨a, rfl, ⟨xs, st_of hx⟩, for_it walk_tup (Pv a) (h0 a H1 e hx) (fun i σ' H' hi p => st_of (hl a i σ' H' hi p)) (fun i x σ' H' H2 hi p y => by
      obtain ⟨rfl, y2⟩ := y
      exact hs a i x σ' _ y2 p) (hd a)⟩
/-- for i in range(a, b, c) -/
theorem q_forR3 {ta : TA} {j : Nat} {lo hi c : Int} {n : Nat} (h : EvA ta σ H [.int lo, .int hi, .int c]) (hc : RgC lo hi c n) (Pv : Nat → L2.St → Hp → Prop) (h0 : ∀ H1, Ex H H1 → Pv 0 σ H1)
    (hs : ∀ i σ' H', i < n → Pv i σ' H' → tu { D with nx := Pv (i + 1), ct := Pv (i + 1), bk := tz D } (σ'.set j (some (.int (lo + (i : Nat) * c)))) H') (hd : ∀ σ' H', Pv n σ' H' → tz D σ' H') : tSeq (tFor (iRng3 ta) (gName j) tu) tz D σ H :=
  h H (Ex.refl H) _ fun H1 e => ⟨lo, hi, c, n, rfl, hc, for_it (D := { D with nx := tz D }) walk_rangeC Pv (h0 H1 e) (fun _ _ _ _ _ => trivial) (fun i x σ' H' H2 hi p y => by
    obtain ⟨rfl, rfl⟩ := y
    exact hs i σ' _ hi p) hd⟩
/-! ### lists told item by item -/
/-- what is told of an item stands while lists alone are written to -/
structure Sta {α : Type} (B : Hp → V → α → Prop) : Prop where
  ex : ∀ {H H' v d}, B H v d → Ex H H' → B H' v d
  fr : ∀ {H H' v d p xs}, B H v d → H p = some (.lst xs) → Fr1 p H H' → B H' v d
theorem Sta.exs {α : Type} {B : Hp → V → α → Prop} (S : Sta B) {ys : List V} {ds : List α} (h : Paired (B H) ys ds) (e : Ex H H') : Paired (B H') ys ds := L2.Paired.mapP h fun _ _ b => S.ex b e
theorem Sta.frs {α : Type} {B : Hp → V → α → Prop} (S : Sta B) {ys xs : List V} {p : Addr} {ds : List α} (h : Paired (B H) ys ds) (hp : H p = some (.lst xs)) (f : Fr1 p H H') : Paired (B H') ys ds := L2.Paired.mapP h fun _ _ b => S.fr b hp f
theorem paired_len {α β : Type} {F : α → β → Prop} : ∀ {l₁ : List α} {l₂ : List β}, Paired F l₁ l₂ → l₁.length = l₂.length
  | _, _, .nil => rfl
  | _, _, .cons _ t => by rw [List.length_cons, List.length_cons, paired_len t]
theorem paired_app {α β : Type} {F : α → β → Prop} : ∀ {l₁ : List α} {l₂ : List β} {m₁ : List α} {m₂ : List β}, Paired F l₁ l₂ → Paired F m₁ m₂ → Paired F (l₁ ++ m₁) (l₂ ++ m₂)
  | _, _, _, _, .nil, h => h
  | _, _, _, _, .cons a t, h => .cons a (paired_app t h)
theorem paired_at {α β : Type} {F : α → β → Prop} : ∀ {l₁ : List α} {l₂ : List β}, Paired F l₁ l₂ → ∀ {i : Nat} {x : α}, l₁[i]? = some x → ∃ d, l₂[i]? = some d ∧ F x d
  | _, _, .nil, i, _, h => by simp at h
  | _, _, .cons a t, 0, _, h => by
    simp at h
    subst h
    exact ⟨_, rfl, a⟩
  | _, _, .cons a t, i + 1, _, h => by
    rw [List.getElem?_cons_succ] at h
    obtain ⟨d, h1, h2⟩ := paired_at t h
    exact ⟨d, by rw [List.getElem?_cons_succ]; exact h1, h2⟩
/-- a new list, its items told by P -/
def EvLP (te : TE) (σ : L2.St) (H : Hp) (P : List V → Hp → Prop) : Prop := ∀ H1, Ex H H1 → ∀ Q : VK, (∀ p H2 ys, H1 p = none → Ex H1 H2 → H2 p = some (.lst ys) → P ys H2 → Q (.ref p) H2) → te σ H1 Q
theorem q_asgLP {i : Nat} {P : List V → Hp → Prop} (h : EvLP te σ H P) (k : ∀ p ys H1, H p = none → Ex H H1 → H1 p = some (.lst ys) → P ys H1 → tz D (σ.set i (some (.ref p))) H1) : tSeq (tAsg te (gName i)) tz D σ H := h H (Ex.refl H) _ fun p H1 ys hp e h1 h2 => k p ys H1 hp e h1 h2
theorem s_asgLP {i : Nat} {P : List V → Hp → Prop} (h : EvLP te σ H P) (k : ∀ p ys H1, H p = none → Ex H H1 → H1 p = some (.lst ys) → P ys H1 → D.nx (σ.set i (some (.ref p))) H1) : tAsg te (gName i) D σ H := h H (Ex.refl H) _ fun p H1 ys hp e h1 h2 => k p ys H1 hp e h1 h2
theorem s_retLP {P : List V → Hp → Prop} (h : EvLP te σ H P) (k : ∀ p ys H1, H p = none → Ex H H1 → H1 p = some (.lst ys) → P ys H1 → D.rt (.ref p) H1) : tRet te D σ H := h H (Ex.refl H) _ fun p H1 ys hp e h1 h2 => k p ys H1 hp e h1 h2
theorem elp_mono {P : List V → Hp → Prop} (e : Ex H H') (h : EvLP te σ H P) : EvLP te σ H' P := fun H1 a Q q => h H1 (e.trans a) Q q
theorem elp_imp {P R : List V → Hp → Prop} (h : EvLP te σ H P) (i : ∀ ys H1, P ys H1 → R ys H1) : EvLP te σ H R := fun H1 e Q q => h H1 e Q fun p H2 ys a b c d => q p H2 ys a b c (i _ _ d)
theorem elp_of {xs : List V} {P : List V → Hp → Prop} (h : EvL te σ H xs) (hp : ∀ H1, Ex H H1 → P xs H1) : EvLP te σ H P := fun H1 e Q q => h H1 e Q fun p H2 a b c => q p H2 xs a b c (hp H2 (e.trans b))
theorem elp_call {sp : Sp} {E : XK} {ta : TA} {vs : List V} {P : List V → Hp → Prop} (h : EvA ta σ H vs) (hs : ∀ H1, Ex H H1 → ∀ Q : VK, (∀ p H2 ys, H1 p = none → Ex H1 H2 → H2 p = some (.lst ys) → P ys H2 → Q (.ref p) H2) → sp vs H1 Q E) : EvLP (tCall sp [] E ta) σ H P := fun H1 e Q q =>
  h H1 e _ fun H2 e2 => by
    show sp (vs ++ []) H2 Q E
    rw [List.append_nil]
    exact hs H2 (e.trans e2) Q fun p H3 ys a b c d => q p H3 ys (fresh_back e2 a) (e2.trans b) c d
/-- a comprehension over a list told item by item -/
theorem elp_lc {α β : Type} {A : Hp → V → α → Prop} {B : Hp → V → β → Prop} {ds : List α} {r : α → β} {F : α → Bool} {vs : List Nat} (SA : Sta A) (SB : Sta B) (hz : ds.length ≤ 40000)
    (h : EvP tl σ H fun v H' => ∃ a xs, v = .ref a ∧ H' a = some (.lst xs) ∧ Paired (A H') xs ds)
    (hs : ∀ x d H1, Ex H H1 → A H1 x d → d ∈ ds → ∃ σ2, (∀ R : L2.St → Hp → Prop, R σ2 H1 → g x (wipe σ vs) H1 R) ∧ wipe σ2 vs = wipe σ vs ∧ EvT tt σ2 H1 (F d) ∧ (F d = true → EvP te σ2 H1 fun v H' => B H' v (r d))) :
    EvLP (tLc (iList K tl) g tt te vs) σ H fun ys H' => Paired (B H') ys ((ds.filter F).map r) := fun H0 e0 Q q => h H0 e0 _ fun w H1 e1 ⟨a, xs, ew, hx, pa⟩ => by
  subst ew
  have hl := paired_len pa
  refine ⟨a, rfl, ⟨xs, sq_of hx⟩, fun Dl hD => ?_⟩
  refine lc_it walk_list (fun i H' => H1 Dl = none ∧ Ex H1 H' ∧ ∃ ys, H' Dl = some (.lst ys) ∧ ys.length ≤ i ∧ Paired (B H') ys (((ds.take i).filter F).map r)) ⟨hD, Ex.new hD, [], upd_same, Nat.le_refl _, .nil⟩ (fun i H' _ p => sq_of (p.2.1 a _ hx)) (fun i x H' H2 hi p y => ?_) (fun H' p => ?_)
  · obtain ⟨rfl, hxi⟩ := y
    obtain ⟨_, eH, ys, hy, hyl, py⟩ := p
    obtain ⟨d, hd, ad⟩ := paired_at pa hxi
    obtain ⟨σ2, h1, h2, h3, h4⟩ := hs x d _ ((e0.trans e1).trans eH) (SA.ex ad eH) (List.mem_of_getElem? hd)
    refine h1 _ ⟨h2, ?_⟩
    refine h3 _ (Ex.refl _) _ fun H3 e3 => ?_
    have ht : ds.take (i + 1) = ds.take i ++ [d] := by rw [List.take_add_one, hd]; rfl
    cases hf : F d with
    | true =>
      rw [if_pos rfl]
      refine h4 hf H3 e3 _ fun y H4 e4 hb => ⟨ys, e4 _ _ (e3 _ _ hy), sz_lt (by omega), hD, Ex.mut ((eH.trans e3).trans e4) hD, ys ++ [y], upd_same, by simp; omega, ?_⟩
      rw [ht, List.filter_append, List.map_append]
      have e5 : [d].filter F = [d] := by simp [hf]
      rw [e5]
      have hy4 := e4 _ _ (e3 _ _ hy)
      exact (SB.frs (SB.exs py (e3.trans e4)) hy4 (Fr1.refl Dl H4).upd).snoc (SB.fr hb hy4 (Fr1.refl Dl H4).upd)
    | false =>
      rw [if_neg (by simp)]
      refine ⟨hD, eH.trans e3, ys, e3 _ _ hy, by omega, ?_⟩
      rw [ht, List.filter_append]
      have e5 : [d].filter F = [] := by simp [hf]
      rw [e5, List.append_nil]
      exact SB.exs py e3
  · obtain ⟨_, eH, ys, hy, hyl, py⟩ := p
    rw [hl, List.take_length] at py
    exact q Dl H' ys (fresh_back e1 hD) (e1.trans eH) hy py
theorem et_yes : EvT tYes σ H true := fun H1 _ _ q => q H1 (Ex.refl H1)
/-! ### mats in a list -/
def MatV (n k : Nat) : Hp → V → List Nat → Prop := fun H v d => ∃ p, v = .ref p ∧ MatAt H p n k d
theorem matV_sta (n k : Nat) : Sta (MatV n k) := ⟨fun ⟨p, e, h⟩ x => ⟨p, e, h.ex x⟩, fun ⟨p, e, h⟩ hp f => ⟨p, e, h.fr hp f⟩⟩
def toN : V → Nat
  | .int i => i.toNat
  | _ => 0
def datN (H : Hp) (t : Addr) : List Nat := match H t with
  | some (.tup [_, _, .ref q]) => match H q with
    | some (.tup xs) => xs.map toN
    | _ => []
  | _ => []
theorem datN_eq {n k : Nat} {t : Addr} {d : List Nat} (h : MatAt H t n k d) : datN H t = d := by
  obtain ⟨q, h1, h2⟩ := h
  unfold datN
  rw [h1]
  simp only [h2]
  rw [List.map_map]
  have : (toN ∘ vi) = id := by funext x; simp [toN, vi]
  rw [this, List.map_id]
theorem addrs_of {n k : Nat} : ∀ {xs : List V} {ds : List (List Nat)}, Paired (MatV n k H) xs ds → ∃ as : List Addr, xs = as.map V.ref ∧ ds = as.map (datN H) ∧ ∀ t ∈ as, MatAt H t n k (datN H t)
  | _, _, .nil => ⟨[], rfl, rfl, fun _ h => by simp at h⟩
  | _, _, .cons ⟨p, e, h⟩ t => by
    obtain ⟨as, rfl, rfl, h3⟩ := addrs_of t
    subst e
    refine ⟨p :: as, rfl, by rw [List.map_cons, datN_eq h], fun t ht => ?_⟩
    rcases List.mem_cons.mp ht with rfl | ht
    · rw [datN_eq h]; exact h
    · exact h3 t ht
theorem paired_refs {n k : Nat} {f : Addr → List Nat} : ∀ {as : List Addr}, (∀ t ∈ as, MatAt H t n k (f t)) → Paired (MatV n k H) (as.map V.ref) (as.map f)
  | [], _ => .nil
  | t :: as, h => .cons ⟨t, rfl, h t (List.mem_cons_self ..)⟩ (paired_refs fun t ht => h t (List.mem_cons_of_mem _ ht))
abbrev zl (l : List Nat) : List Int := l.map fun n : Nat => (n : Int)
def Srt (ds : List (List Nat)) : Prop := ds.Pairwise fun a b => HT.lexLt (zl b) (zl a) = false
theorem elp_sorted {n k : Nat} {ds : List (List Nat)} (h : EvLP te σ H fun ys H' => Paired (MatV n k H') ys ds) : EvLP (tCB (rSortM K) (tCons te tNil)) σ H fun ys H' => ∃ es, Paired (MatV n k H') ys es ∧ es.Perm ds ∧ Srt es := fun H1 e Q q =>
  h H1 e _ fun p H2 ys _ e2 hp py => by
    obtain ⟨as, rfl, rfl, hm⟩ := addrs_of py
    refine ⟨p, as, (n : Int), (k : Int), fun t => zl (datN H2 t), rfl, sq_of hp, fun t ht => ?_, fun bs l pm ps nl => ?_⟩
    · obtain ⟨q', h1, h2⟩ := hm t ht
      refine ⟨q', h1, ?_⟩
      rw [h2, List.map_map]
      unfold vl
      rfl
    · refine q l _ _ (fresh_back e2 nl) (e2.trans (Ex.new nl)) upd_same ⟨bs.map (datN H2), paired_refs fun t ht => (hm t (pm.mem_iff.mp ht)).ex (Ex.new nl), pm.map _, ?_⟩
      exact List.pairwise_map.mpr ps
theorem lex_antisym : ∀ xs ys : List Int, HT.lexLt xs ys = false → HT.lexLt ys xs = false → xs.length = ys.length → xs = ys
  | [], [], _, _, _ => rfl
  | [], _ :: _, _, _, h => by simp at h
  | _ :: _, [], _, _, h => by simp at h
  | x :: r, y :: s, h1, h2, h => by
    rw [HT.lexLt_cons] at h1 h2
    by_cases e : x = y
    · subst e
      rw [if_pos rfl] at h1 h2
      rw [lex_antisym r s h1 h2 (by simpa using h)]
    · rw [if_neg e] at h1
      rw [if_neg (Ne.symm e)] at h2
      have a := of_decide_eq_false h1
      have b := of_decide_eq_false h2
      omega
theorem zl_inj {a b : List Nat} (h : zl a = zl b) : a = b := by
  have := congrArg (List.map Int.toNat) h
  simpa [zl, List.map_map, Function.comp_def] using this
theorem srt_uniq {N : Nat} {ds es : List (List Nat)} (h1 : Srt ds) (h2 : Srt es) (p : ds.Perm es) (hl : ∀ d ∈ ds, d.length = N) : ds = es := by
  refine List.Perm.eq_of_pairwise (le := fun a b => HT.lexLt (zl b) (zl a) = false) ?_ h1 h2 p
  intro a b ha hb x y
  refine zl_inj (lex_antisym _ _ y x ?_)
  simp [hl a ha, hl b (p.mem_iff.mpr hb)]
end
/-! ### a def by its object: with the words of keywords too -/
def gRev : List V → List V → List V
  | [], [y, x] => [x, y]
  | _, _ => []
def gRevU : List Value → List Value → List Value
  | [], [y, x] => [x, y]
  | _, _ => []
section
variable {P : Program} {w : World} {K : PySem.W.Frag} {mg : Str → Option Value} {base : Heap}
structure FnFor (P : Program) (w : World) (K : PySem.W.Frag) (mg : Str → Option Value) (base : Heap) (k : Nat) (x : Str) (st : Stmt) (ps : List Str) (sp : Sp) : Prop where
  ex : ∃ (f : Addr) (fd : FuncData), Fun K x x st f fd ∧ mg x = some (.ref f) ∧ FnOk P w K mg base CX0 k f fd ps sp
theorem fnfor_of {x : Str} {st : Stmt} {N ps : List Str} {k : Nat} {sp : Sp} (D : DefOk K mg x st) (S : FnScope N ps (defScope st)) (len : ∀ vs H Q E, sp vs H Q E → vs.length = ps.length)
    (hbody : ∀ (f : Addr) (cdv : Value) (A : Around) (outer : List Env) (s : Shared) (H : Hp) (vs : List V) (Q : VK) (E : XK), Room k (A.deeper (envOfC x (defScope st) s.heap.objs.size f cdv)) → sp vs H Q E →
      ∃ t, PSs (cxOf CX0 P w K mg base N x (defScope st) f cdv A outer s H E).nox (defBody st) t ∧ t { nx := fun _ H' => Q .non H', rt := Q } (start N vs) H) : FnFor P w K mg base (k + 1) x st ps sp := by
  obtain ⟨f, fd, F, hm⟩ := D.ex
  exact ⟨f, fd, F, hm, F.ok S len (fun cdv A outer s H vs Q E hr h => hbody f cdv A outer s H vs Q E hr h)⟩
theorem FnFor.cal {x : Str} {st : Stmt} {ps : List Str} {k : Nat} {sp : Sp} (h : FnFor P w K mg base k x st ps sp) (hb : BindsBy x st ps) : Cal P w K mg base k x sp := by
  obtain ⟨f, fd, F, hm, ok⟩ := h.ex
  exact ⟨f, fd, ps, ok, hm, F.kp, F.binds hb⟩
theorem FnFor.calK {x p1 p2 : Str} {st : Stmt} {k : Nat} {sp : Sp} (h : FnFor P w K mg base k x st [p1, p2] sp) (hb : ∀ (kV doc pm : Value) (an : Option Addr) (cdv ct : Value) (u v : Value), bindArgs (PySem.W.fnOf x x (defArgs st) (defBody st) (defScope st) .none kV doc pm an cdv ct) ⟨[], [(p2, v), (p1, u)]⟩ = pure [(p1, u), (p2, v)]) : CalK P w K mg base k x sp [p2, p1] gRev := by
  obtain ⟨f, fd, F, hm, ok⟩ := h.ex
  obtain ⟨oc, od, kV, doc, pm, an, cdv, ct, osl, rfl, lk, hcd⟩ := F.ex
  refine ⟨f, _, [p1, p2], gRevU, ok, hm, F.kp, fun s us ws X hl => ?_, fun {vs us zs ws} r1 r2 => ?_⟩
  · match us, ws, hl with
    | [], [v, u], _ => exact BindsTo.of_eq (hb kV doc pm an cdv ct u v)
    | [], [], hl => exact absurd hl (by simp [gRevU])
    | [], [_], hl => exact absurd hl (by simp [gRevU])
    | [], _ :: _ :: _ :: _, hl => exact absurd hl (by simp [gRevU])
    | _ :: _, _, hl => exact absurd hl (by simp [gRevU])
  · cases r1 with
    | nil =>
      cases r2 with
      | nil => exact .nil
      | cons a r2 =>
        cases r2 with
        | nil => exact .nil
        | cons b r2 =>
          cases r2 with
          | nil => exact .cons b (.cons a .nil)
          | cons c r2 => exact .nil
    | cons a r1 => cases r2 <;> exact .nil
end
end HM
namespace HM
open PySem PySem.Spec PyProof.Rows L2 Evl
section
variable {K : PySem.W.Frag} {σ : L2.St} {H H' : Hp} {ta tb tc te tx tl : TE} {t u tt : TT} {x y z v : V} {D : Ends} {tu tw tz : TS} {g : TG}
theorem ev_all {bs : List Bool} {c : Bool} (h : EvL te σ H (vb bs)) (e : bs.all id = c) : Ev (tCB (rAll K) (tCons te tNil)) σ H (.bl c) := fun H1 e1 Q q =>
  h H1 e1 _ fun p H2 _ e2 hp => ⟨p, bs, rfl, sq_of hp, by rw [e]; exact q H2 e2⟩
theorem etu_rep1 {k : Nat} (h : EvTu ta σ H [x]) (hb : ∀ H1, Ex H H1 → Ev tb σ H1 (vi k)) (hz : k ≤ 1000) : EvTu (tOp (rRepTA K) ta tb) σ H (List.replicate k x) := fun H1 e Q q =>
  h H1 e _ fun w H2 e2 ⟨p, ew, hp⟩ => by
    subst ew
    refine hb H2 (e.trans e2) H2 (Ex.refl H2) _ fun H3 e3 => ⟨p, (k : Int), [x], rfl, rfl, e3 _ _ hp, List.cons_ne_nil _ _, by omega, by omega, (by simp : [x].length ≤ 1000), fun v H4 e4 hv => ?_⟩
    refine q v H4 ((e2.trans e3).trans e4) ?_
    obtain ⟨p', rfl, h⟩ := hv
    rw [show ((k : Int)).toNat = k by omega, rep_one] at h
    exact ⟨p', rfl, h⟩
theorem q_unPut {i j l m r n k : Nat} {ms : List Nat} (h : EvP te σ H fun v H' => ∃ p, v = .ref p ∧ PutAt H' p r n k ms) (q : ∀ p a H1, Ex H H1 → H1 p = some (.tup [vi r, vi n, vi k, .ref a]) → H1 a = some (.tup (vl ms)) → tz D ((((σ.set i (some (vi r))).set j (some (vi n))).set l (some (vi k))).set m (some (.ref a))) H1) : tSeq (tAsg te (gTup K 4 (gCons (gName i) (gCons (gName j) (gCons (gName l) (gCons (gName m) gNil)))))) tz D σ H :=
  h H (Ex.refl H) _ fun v H1 e ⟨p, ev, a, h1, h2⟩ => by
    subst ev
    exact ⟨p, _, rfl, st_of h1, rfl, _, _, rfl, _, _, rfl, _, _, rfl, _, _, rfl, rfl, q p a H1 e h1 h2⟩
end
section
variable {P : Program} {w : World} {K : PySem.W.Frag} {mg : Str → Option Value} {base : Heap}
def spCheckHalves : Sp := fun vs H Q _ => ∃ n k : Nat, vs = [vi n, vi k] ∧ 1 ≤ n ∧ k ≤ n ∧ (n - k) % 2 = 0 ∧ ∀ H', Ex H H' → Q .non H'
theorem ok_check_halves (B : Bt mg) (D : DefOk K mg "check_halves" s_check_halves) (C_check_size : Cal P w K mg base 1 "check_size" spCheckSize) : Cal P w K mg base 2 "check_halves" spCheckHalves := by
  refine cal_of D sc_check_halves (fun _ _ _ _ _ _ us hl => match us, hl with | [_, _], _ => rfl) (fun vs H Q E h => ?_) (fun f cdv A outer s H vs Q E hr h => ?_)
  · obtain ⟨n, k, rfl, _⟩ := h; rfl
  · obtain ⟨n, k, rfl, h1, hk, hp, q⟩ := h
    refine ⟨_, (pss_cons (ps_expr (pe_c C_check_size hr (by decide) (by rfl) (pa_cons (pv 0) pa_nil)))
  (pss_one (ps_if (PW.pt (pw_or (pt_cmpR op_lt (pv 1) pe_int (nomark _)) (pw_or (pt_cmpR op_gt (pv 1) (pv 0) (nomark _)) (pw_or1 (pt_cmpR op_ne (pe_op op_mod (pe_op op_sub (pv 0) (pv 1)) pe_int) pe_int (nomark _)))))) pss_never pss_nil))), ?_⟩
    refine q_drop (v := .non) (ev_callV (ea_cons (ev_var rfl) ea_nil) fun H1 e1 Q q => ⟨n, rfl, h1, q⟩) fun H1 e1 => ?_
    refine s_ifF ?_ fun H2 e2 => q H2 (e1.trans e2)
    refine et_orF (et_lt (ev_var rfl) ev_c (decide_eq_false (by omega))) (et_orF (et_gt (ev_var rfl) (ev_var rfl) (decide_eq_false (by omega))) (et_neq (ev_op (ev_op (ev_var rfl) (ev_var rfl) rv_I0) ev_c (rv_I (by decide))) ev_c ?_))
    have : ((n : Int) - (k : Int)) % 2 = 0 := by omega
    simp [this]
def spCheckHalf : Sp := fun vs H Q _ => ∃ (a : Addr) (n m : Nat) (ms : List Nat), vs = [.ref a] ∧ MatAt H a n m ms ∧ Ma.Half n m ms ∧ n + m ≤ 1000 ∧ ∀ H', Ex H H' → Q .non H'
theorem ok_check_half (B : Bt mg) (D : DefOk K mg "check_half" s_check_half) (C_checked_mat : Cal P w K mg base 3 "checked_mat" spChecked) (C_through : Cal P w K mg base 4 "through" spThrough) : Cal P w K mg base 5 "check_half" spCheckHalf := by
  refine cal_of D sc_check_half (fun _ _ _ _ _ _ us hl => match us, hl with | [_], _ => rfl) (fun vs H Q E h => ?_) (fun f cdv A outer s H vs Q E hr h => ?_)
  · obtain ⟨a, n, m, ms, rfl, _⟩ := h; rfl
  · obtain ⟨a, n, m, ms, rfl, hA, M, hz, k⟩ := h
    have hA' := hA
    obtain ⟨q, ha, hq⟩ := hA'
    refine ⟨_, (pss_one (ps_if (pt_cmpR op_ne (pe_c C_through hr (by decide) (by rfl) (pa_cons (pe_c C_checked_mat hr (by decide) (by rfl) (pa_cons (pv 0) pa_nil)) pa_nil)) (pe_ix ix_seq (pv 0) pe_int (fun _ _ => rfl)) (nomark _)) pss_never pss_nil)), ?_⟩
    refine s_ifF (et_neq (a := (m : Int)) (b := (m : Int)) (ev_callV (z := vi m) (vs := [.ref a]) (ea_cons (ev_callV (z := .ref a) (ea_cons (ev_var rfl) ea_nil) fun H1 e1 Q q => ⟨a, n, m, ms, rfl, hA.ex e1, M.mat, hz, q⟩) ea_nil) fun H1 e1 Q q => ⟨a, n, m, ms, rfl, hA.ex e1, M.mat, hz, ?_⟩) (ev_op (ev_var rfl) ev_c (rv_ixt ha (atI_nat (j := 1) rfl))) (by simp)) k
    rw [M.thr]
    exact q
def spPaired : Sp := fun vs H Q _ => ∃ (aO aB : Addr) (n k : Nat) (A al bl : List Nat), vs = [.ref aO, .ref aB] ∧ Two H aO aB n k k A al bl ∧
  ∀ v H', Ex H H' → (∃ p, v = .ref p ∧ H' p = some (.tup (vz (Ma.prV al bl n k)))) → Q v H'
theorem vz_wpow (r : Nat) : List.replicate r (vi 0) ++ [vi 1] = vz (Ma.wpow r) := by
  unfold Ma.wpow vz
  rw [List.map_append, List.map_replicate]
  rfl
theorem ok_paired (B : Bt mg) (D : DefOk K mg "paired" s_paired) (C_put_behind : Cal P w K mg base 2 "put_behind" spPut) : Cal P w K mg base 3 "paired" spPaired := by
  refine cal_of D sc_paired (fun _ _ _ _ _ _ us hl => match us, hl with | [_, _], _ => rfl) (fun vs H Q E h => ?_) (fun f cdv A outer s H vs Q E hr h => ?_)
  · obtain ⟨aO, aB, n, k, A, al, bl, rfl, _⟩ := h; rfl
  · obtain ⟨aO, aB, n, k1, Al, al, bl, rfl, T, k⟩ := h
    have sz := T.sz
    have hrl := Ma.rgs_le (Ma.g al) (Ma.g bl) n n
    refine ⟨_, (pss_cons (ps_asg (pe_c C_put_behind hr (by decide) (by rfl) (pa_cons (pv 0) (pa_cons (pv 1) pa_nil))) (pg_tup rfl (pgs_cons (pg_name (i := 2) sc_paired.nd rfl (.inl rfl)) (pgs_cons (pg_name (i := 3) sc_paired.nd rfl (.inr rfl)) (pgs_cons (pg_name (i := 4) sc_paired.nd rfl (.inl rfl)) (pgs_cons (pg_name (i := 5) sc_paired.nd rfl (.inl rfl)) pgs_nil))))))
  (pss_cons (ps_if (pt_val (pe_callB (cr_all rfl) (by rfl) B.all_ (by decide +kernel) (pa_cons (pe_lc (own := [("mate", 6)]) (g := gName 6) (tt := tYes) (te := (tOp rGe (tVar 6) (tVar 3))) rfl sc_paired.nd (pi_tup (pe_slice sl_tupA (pv 5) po_none (po_some (pv 3)))) (blkOk_by (N := N_paired) (sc := defScope s_paired) (by decide +kernel)) (fun _ _ _ _ _ => (pg_name (i := 6) sc_paired.nd rfl (.inl rfl))) (fun _ _ _ _ _ => pts_nil) (fun _ _ _ _ _ => (pe_cmpR op_ge (pv 6) (pv 3) (nomark _)))) pa_nil))) (pss_one (ps_ret (pe_op op_catA (pe_op hm_op_repTA (pe_tup (pa_cons pe_int pa_nil)) (pv 2)) (pe_tup (pa_cons pe_int pa_nil))))) pss_nil)
  (pss_one (ps_ret (pe_tup pa_nil))))), ?_⟩
    refine q_unPut (ep_call (vs := [.ref aO, .ref aB]) (ea_cons (ev_var rfl) (ea_cons (ev_var rfl) ea_nil)) fun H1 e1 Q q => ⟨aO, aB, n, k1, k1, Al, al, bl, rfl, T.ex e1, q⟩) fun p qp H1 e1 hp hqp => ?_
    have hal : ∀ i x, (vl ((Ma.putM (Ma.g al) (Ma.g bl) n k1 k1).take k1))[i]? = some x → i < ((Ma.putM (Ma.g al) (Ma.g bl) n k1 k1).take k1).length ∧ x = vi (Ma.g ((Ma.putM (Ma.g al) (Ma.g bl) n k1 k1).take k1) i) := fun i x h => vl_get h
    refine q_when (b := Ma.allT k1 (Ma.putM (Ma.g al) (Ma.g bl) n k1 k1)) (et_B (ev_all (bs := ((Ma.putM (Ma.g al) (Ma.g bl) n k1 k1).take k1).map fun x => decide (k1 ≤ x)) (el_is (el_lcTu (xs := vl ((Ma.putM (Ma.g al) (Ma.g bl) n k1 k1).take k1)) (fun _ => true) (fun i => .bl (decide (k1 ≤ Ma.g ((Ma.putM (Ma.g al) (Ma.g bl) n k1 k1).take k1) i))) (by rw [← vl_take]; exact etu_take (a := qp) (ev_var rfl) (ev_var rfl) hqp) (by simp [Ma.putM_len]; omega) (fun x => rfl) (fun i x H1 e1 h => et_yes) (fun i x H1 e1 h _ => ?_)) ?_) ?_)) (fun hb H2 e2 => ?_) (fun hb H2 e2 => ?_)
    · obtain ⟨_, rfl⟩ := hal i x h
      exact ev_is (ev_op (ev_var rfl) (ev_var rfl) rv_I0) (by simp)
    · rw [List.length_map]
      have := given_list ((Ma.putM (Ma.g al) (Ma.g bl) n k1 k1).take k1) (fun _ => true) (fun x => .bl (decide (k1 ≤ x)))
      rw [this]
      unfold vb
      rw [List.map_map, List.filter_eq_self.mpr (fun _ _ => rfl)]
      rfl
    · unfold Ma.allT
      rw [List.all_map]
      rfl
    · refine s_retP (etu_cat (etu_rep1 (x := vi 0) (etu_tup (ea_cons ev_c ea_nil) (by decide)) (fun H3 e3 => ev_var (v := vi (Ma.rgs (Ma.g al) (Ma.g bl) n n)) rfl) (by omega)) (fun H3 e3 => etu_tup (vs := [vi 1]) (ea_cons ev_c ea_nil) (by decide)) (by simp; omega)) fun v H3 e3 hv => k v H3 ((e1.trans e2).trans e3) ?_
      unfold Ma.prV
      rw [if_pos hb, ← vz_wpow]
      exact hv
    · refine s_retP (etu_tup ea_nil (by decide)) fun v H3 e3 hv => k v H3 ((e1.trans e2).trans e3) ?_
      unfold Ma.prV
      rw [if_neg (by simp [hb])]
      exact hv
def spPairing : Sp := fun vs H Q _ => ∃ (a b : Addr) (n k : Nat) (al bl : List Nat), vs = [.ref a, .ref b] ∧ MatAt H a n k al ∧ MatAt H b n k bl ∧ Ma.Half n k al ∧ Ma.Half n k bl ∧ n ≤ 300 ∧
  ∀ v H', Ex H H' → (∃ p, v = .ref p ∧ H' p = some (.tup (vz (Ma.prV al bl n k)))) → Q v H'
theorem ok_pairing (B : Bt mg) (D : DefOk K mg "pairing" s_pairing) (C_check_half : Cal P w K mg base 5 "check_half" spCheckHalf) (C_check_pair : Cal P w K mg base 1 "check_pair" spCheckPair) (C_paired : Cal P w K mg base 3 "paired" spPaired) (C_upside_down : Cal P w K mg base 4 "upside_down" spUpside) : FnFor P w K mg base 6 "pairing" s_pairing ["one", "other"] spPairing := by
  refine fnfor_of D sc_pairing (fun vs H Q E h => ?_) (fun f cdv A outer s H vs Q E hr h => ?_)
  · obtain ⟨a, b, n, k, al, bl, rfl, _⟩ := h; rfl
  · obtain ⟨a, b, n, k1, al, bl, rfl, hA, hB, HA, HB, hn, k⟩ := h
    have hk := HA.le
    have hA' := hA
    have hB' := hB
    obtain ⟨qa, ha, hqa⟩ := hA'
    obtain ⟨qb, hb, hqb⟩ := hB'
    refine ⟨_, (pss_cons (ps_expr (pe_c C_check_half hr (by decide) (by rfl) (pa_cons (pv 0) pa_nil)))
  (pss_cons (ps_expr (pe_c C_check_half hr (by decide) (by rfl) (pa_cons (pv 1) pa_nil)))
  (pss_cons (ps_expr (pe_c C_check_pair hr (by decide) (by rfl) (pa_cons (pe_ix ix_seq (pv 0) pe_int (fun _ _ => rfl)) (pa_cons (pe_ix ix_seq (pv 1) pe_int (fun _ _ => rfl)) pa_nil))))
  (pss_cons (ps_expr (pe_c C_check_pair hr (by decide) (by rfl) (pa_cons (pe_ix ix_seq (pv 0) pe_int (fun _ _ => rfl)) (pa_cons (pe_ix ix_seq (pv 1) pe_int (fun _ _ => rfl)) pa_nil))))
  (pss_one (ps_ret (pe_c C_paired hr (by decide) (by rfl) (pa_cons (pe_c C_upside_down hr (by decide) (by rfl) (pa_cons (pv 0) pa_nil)) (pa_cons (pv 1) pa_nil))))))))), ?_⟩
    refine q_drop (v := .non) (ev_callV (ea_cons (ev_var rfl) ea_nil) fun H1 e1 Q q => ⟨a, n, k1, al, rfl, hA.ex e1, HA, by omega, q⟩) fun H1 e1 => ?_
    refine q_drop (v := .non) (ev_callV (ea_cons (ev_var rfl) ea_nil) fun H2 e2 Q q => ⟨b, n, k1, bl, rfl, hB.ex (e1.trans e2), HB, by omega, q⟩) fun H2 e2 => ?_
    have e12 := e1.trans e2
    refine q_drop (v := .non) (ev_callV (vs := [vi n, vi n]) (ea_cons (ev_op (ev_var rfl) ev_c (rv_ixt (e12 _ _ ha) (atI_nat (j := 0) rfl))) (ea_cons (ev_op (ev_var rfl) ev_c (rv_ixt (e12 _ _ hb) (atI_nat (j := 0) rfl))) ea_nil)) fun H3 e3 Q q => ⟨n, rfl, q⟩) fun H3 e3 => ?_
    have e13 := e12.trans e3
    refine q_drop (v := .non) (ev_callV (vs := [vi k1, vi k1]) (ea_cons (ev_op (ev_var rfl) ev_c (rv_ixt (e13 _ _ ha) (atI_nat (j := 1) rfl))) (ea_cons (ev_op (ev_var rfl) ev_c (rv_ixt (e13 _ _ hb) (atI_nat (j := 1) rfl))) ea_nil)) fun H4 e4 Q q => ⟨k1, rfl, q⟩) fun H4 e4 => ?_
    have e14 := e13.trans e4
    refine (ep_call (vs := [.ref a]) (P := fun v H' => ∃ p, v = .ref p ∧ MatAt H' p k1 n (Ma.flp n k1 al)) (ea_cons (ev_var rfl) ea_nil) fun H5 e5 Q q => ⟨a, n, k1, al, rfl, hA.ex (e14.trans e5), HA.mat, by omega, q⟩ : EvP _ _ _ _) H4 (Ex.refl H4) _ fun v H5 e5 hv => ?_
    obtain ⟨p, rfl, hp⟩ := hv
    refine ⟨.ref b, rfl, ?_⟩
    refine ⟨p, b, n, k1, Ma.flp n k1 al, al, bl, rfl, ⟨hp, hB.ex (e14.trans e5), Ma.flp_of n k1 al, HA.mat.inv_, HB.mat.inv_, HB.mat.len, by omega⟩, fun v H6 e6 hv => k v H6 ((e14.trans e5).trans e6) hv⟩
end
end HM
namespace HM
open PySem PySem.Spec PyProof.Rows L2 Evl
/-- a row of signs -/
def TupZ : Hp → V → List Int → Prop := fun H v d => ∃ t, v = .ref t ∧ H t = some (.tup (vz d))
theorem fr_tup {H H' : Hp} {a p : Addr} {xs ys : List V} (h : H a = some (.tup xs)) (hp : H p = some (.lst ys)) (f : Fr1 p H H') : H' a = some (.tup xs) := f _ _ h (ne_of h hp (by intro z; cases z))
theorem tupZ_sta : Sta TupZ := ⟨fun ⟨t, e, h⟩ x => ⟨t, e, x _ _ h⟩, fun ⟨t, e, h⟩ hp f => ⟨t, e, fr_tup h hp f⟩⟩
/-- .. and its height -/
def RowP : Hp → V → Ma.RH → Prop := fun H v r => ∃ q t, v = .ref q ∧ H q = some (.tup [.ref t, .int r.2]) ∧ H t = some (.tup (vz r.1))
theorem rowP_sta : Sta RowP := ⟨fun ⟨q, t, e, h, h2⟩ x => ⟨q, t, e, x _ _ h, x _ _ h2⟩, fun ⟨q, t, e, h, h2⟩ hp f => ⟨q, t, e, fr_tup h hp f, fr_tup h2 hp f⟩⟩
section
variable {K : PySem.W.Frag} {σ : L2.St} {H H' : Hp} {ta tb tc te tx tl : TE} {t u tt : TT} {x y z v : V} {D : Ends} {tu tw tz : TS} {g : TG}
theorem ep_row {row : List Int} {h : Int} (ha : EvTu ta σ H (vz row)) (hb : ∀ H1, Ex H H1 → Ev tb σ H1 (.int h)) : EvP (tTup (tCons ta (tCons tb tNil))) σ H fun v H' => RowP H' v (row, h) := fun H1 e Q q =>
  ha H1 e _ fun w H2 e2 ⟨t, ew, ht⟩ => by
    subst ew
    exact hb H2 (e.trans e2) H2 (Ex.refl H2) _ fun H3 e3 => ⟨by show 2 ≤ sizeLine; decide, fun p hp => q _ _ ((e2.trans e3).trans (Ex.new hp)) ⟨p, t, rfl, upd_same, (Ex.new hp) _ _ (e3 _ _ ht)⟩⟩
theorem vz_one (l : List Int) (x : Int) : vz l ++ [.int x] = vz (l ++ [x]) := by unfold vz; rw [List.map_append]; rfl
theorem elp_lst1 {α : Type} {B : Hp → V → α → Prop} {d : α} (S : Sta B) (h : EvP te σ H fun v H' => B H' v d) : EvLP (tLst (tCons te tNil)) σ H fun ys H' => Paired (B H') ys [d] := fun H1 e Q q =>
  h H1 e _ fun v H2 e2 hv => ⟨by show 1 ≤ sizeLine; decide, fun p hp => q p _ [v] (fresh_back e2 hp) (e2.trans (Ex.new hp)) upd_same (.cons (S.ex hv (Ex.new hp)) .nil)⟩
theorem el_cb1 {te : TE} {xs : List V} (h : EvL te σ H xs) : EvLP te σ H fun ys _ => ys = xs := elp_of h fun _ _ => rfl
end
section
variable {P : Program} {w : World} {K : PySem.W.Frag} {mg : Str → Option Value} {base : Heap}
theorem rows_at {qs : List V} {rs : List Ma.RH} {H : Hp} (h : Paired (RowP H) qs rs) {i : Nat} {x : V} (hx : qs[i]? = some x) : ∃ q t r, x = .ref q ∧ rs[i]? = some r ∧ H q = some (.tup [.ref t, .int r.2]) ∧ H t = some (.tup (vz r.1)) := by
  obtain ⟨r, h1, q, t, h2, h3, h4⟩ := paired_at h hx
  exact ⟨q, t, r, h2, h1, h3, h4⟩
def spRows : Sp := fun vs H Q _ => ∃ n k : Nat, vs = [vi n, vi k] ∧ n ≤ 8 ∧ ∀ p H' ys, H p = none → Ex H H' → H' p = some (.lst ys) → Paired (TupZ H') ys (Ma.psigns n k) → Q (.ref p) H'
theorem ok_rows_of_signs (B : Bt mg) (D : DefOk K mg "rows_of_signs" s_rows_of_signs) : Cal P w K mg base 1 "rows_of_signs" spRows := by
  refine cal_of D sc_rows_of_signs (fun _ _ _ _ _ _ us hl => match us, hl with | [_, _], _ => rfl) (fun vs H Q E h => ?_) (fun f cdv A outer s H vs Q E hr h => ?_)
  · obtain ⟨n, k, rfl, _⟩ := h; rfl
  · obtain ⟨n, k, rfl, hn, ret⟩ := h
    have hpow : ∀ j, j ≤ n → (Ma.prows n k j).length ≤ 256 := fun j hj => by
      have h1 := Ma.prows_len n k j
      have h2 : 2 ^ j ≤ 2 ^ 8 := Nat.pow_le_pow_right (by decide) (by omega)
      omega
    refine ⟨_, (pss_cons (ps_set (i := 2) sc_rows_of_signs.nd rfl (.inl rfl) (pe_lst (pa_cons (pe_tup (pa_cons (pe_tup pa_nil) (pa_cons pe_int pa_nil))) pa_nil)))
  (pss_cons (ps_for PassesOwn.never rfl (pi_range3 (by rfl) B.range_ (pa_cons (pe_op op_sub (pv 0) pe_int) (pa_cons (pe_un un_neg pe_int) (pa_cons (pe_un un_neg pe_int) pa_nil)))) (pg_name (i := 3) sc_rows_of_signs.nd rfl (.inl rfl))
  (pss_cons (ps_set (i := 4) sc_rows_of_signs.nd rfl (.inl rfl) (pe_lst pa_nil))
  (pss_cons (ps_for PassesOwn.never rfl (pi_list (pv 2)) (pg_tup rfl (pgs_cons (pg_name (i := 5) sc_rows_of_signs.nd rfl (.inl rfl)) (pgs_cons (pg_name (i := 6) sc_rows_of_signs.nd rfl (.inl rfl)) pgs_nil)))
  (pss_one (ps_for PassesOwn.never rfl (pi_tup (pe_tup (pa_cons pe_int (pa_cons (pe_un un_neg pe_int) pa_nil)))) (pg_name (i := 7) sc_rows_of_signs.nd rfl (.inl rfl))
  (pss_one (ps_if (PW.pt (pw_and (pt_cmpR op_ge (pe_op op_add (pv 6) (pv 7)) pe_int (nomark _)) (pw_and1 (pt_cmpR op_le (pe_callB call_abs (by rfl) B.abs_ (by decide +kernel) (pa_cons (pe_op op_sub (pe_op op_add (pv 6) (pv 7)) (pv 1)) pa_nil)) (pv 3) (nomark _))))) (pss_one (ps_expr (pe_bm PySem.F.plainAttrs_list PySem.F.slot_list_append PySem.F.type_list_append mt_append (pv 4) (pa_cons (pe_tup (pa_cons (pe_op op_catA (pv 5) (pe_tup (pa_cons (pv 7) pa_nil))) (pa_cons (pe_op op_add (pv 6) (pv 7)) pa_nil))) pa_nil)))) pss_nil)))))
  (pss_one (ps_set (i := 2) sc_rows_of_signs.nd rfl (.inl rfl) (pv 4))))))
  (pss_one (ps_ret (pe_lc (own := [("row", 5), ("_", 8)]) (g := gTup K 2 (gCons (gName 5) (gCons (gName 8) gNil))) (tt := tYes) (te := (tVar 5)) rfl sc_rows_of_signs.nd (pi_list (pv 2)) (blkOk_by (N := N_rows_of_signs) (sc := defScope s_rows_of_signs) (by decide +kernel)) (fun _ _ _ _ _ => (pg_tup rfl (pgs_cons (pg_name (i := 5) sc_rows_of_signs.nd rfl (.inl rfl)) (pgs_cons (pg_name (i := 8) sc_rows_of_signs.nd rfl (.inl rfl)) pgs_nil)))) (fun _ _ _ _ _ => pts_nil) (fun _ _ _ _ _ => (pv 5))))))), ?_⟩
    -- rows = [((), 0)]
    have first : EvLP (tLst (tCons (tTup (tCons (tTup tNil) (tCons (tC (.int 0)) tNil))) tNil)) (start N_rows_of_signs [vi n, vi k]) H fun ys H' => Paired (RowP H') ys (Ma.prows n k 0) := elp_lst1 rowP_sta (ep_row (row := []) (h := 0) (etu_tup ea_nil (by decide)) (fun H2 e2 => ev_c))
    refine q_asgLP first fun pr ys H1 nr e1 hr1 py => ?_
    refine q_forR3 (lo := (n : Int) - 1) (hi := -1) (c := -1) (n := n) (ea_cons (ev_op (ev_var rfl) ev_c rv_I0) (ea_cons (ev_un ev_c ru_neg) (ea_cons (ev_un ev_c ru_neg) ea_nil))) ?_
      (fun j σ' H' => Ex H H' ∧ ∃ pr ys v3 v4 v5 v6 v7, H' pr = some (.lst ys) ∧ Paired (RowP H') ys (Ma.prows n k j) ∧ σ' = [some (vi n), some (vi k), some (.ref pr), v3, v4, v5, v6, v7, none])
      (fun H2 e2 => ⟨e1.trans e2, pr, ys, none, none, none, none, none, e2 _ _ hr1, rowP_sta.exs py e2, rfl⟩) ?_ ?_
    · have := RgC.neg (i := (n : Int) - 1) (j := -1) (by omega) (by omega) (by omega) (by omega)
      rwa [show ((n : Int) - 1 - (-1)).toNat = n by omega] at this
    · rintro j σ' H' hj ⟨eH, pr, ys, v3, v4, v5, v6, v7, hpr, py, rfl⟩
      have hlen := paired_len py
      have hb := hpow j (by omega)
      refine q_asgL (el_lst ea_nil (by decide)) fun pl H2 nl e2 hl => ?_
      have nrl : pr ≠ pl := ne_of_none hpr nl
      have nl' := fresh_back eH nl
      refine q_forL2 (a := pr) (xs := ys) (ev_var rfl) (e2 _ _ hpr)
        (fun i σ' H' => Ex H H' ∧ ∃ zs v5 v6 v7, H' pr = some (.lst ys) ∧ Paired (RowP H') ys (Ma.prows n k j) ∧ H' pl = some (.lst zs) ∧ Paired (RowP H') zs (((Ma.prows n k j).take i).flatMap (Ma.ptwo k ((n : Int) - 1 - (j : Int)))) ∧ zs.length ≤ 2 * i ∧
          σ' = [some (vi n), some (vi k), some (.ref pr), some (.int ((n : Int) - 1 - (j : Int))), some (.ref pl), v5, v6, v7, none])
        (fun H3 e3 => ⟨(eH.trans e2).trans e3, [], v5, v6, v7, e3 _ _ (e2 _ _ hpr), rowP_sta.exs py (e2.trans e3), e3 _ _ hl, .nil, Nat.zero_le _, ?_⟩) (fun i σ' H' _ p => ?_) ?_ ?_
      · show [_, _, _, _, _, _, _, _, _] = _
        rw [show (n : Int) - 1 + (j : Nat) * (-1) = (n : Int) - 1 - (j : Int) by omega]
      · obtain ⟨_, zs, _, _, _, h, _⟩ := p
        exact h
      · rintro i x σ' H' hx ⟨eH, zs, v5, v6, v7, hpr, py, hpl, pz, lz, rfl⟩
        obtain ⟨q, t, r, rfl, hr, hq, ht⟩ := rows_at py hx
        have hi : i < ys.length := (List.getElem?_eq_some_iff.mp hx).1
        refine ⟨q, .ref t, .int r.2, rfl, hq, ?_⟩
        refine s_forNTa (xs := [.int 1, .int (-1)]) (etu_tup (ea_cons ev_c (ea_cons (ev_un ev_c ru_neg) ea_nil)) (by decide))
          (fun a s σ' H' => Ex H H' ∧ ∃ zs' v7, H' a = some (.tup [.int 1, .int (-1)]) ∧ H' pr = some (.lst ys) ∧ Paired (RowP H') ys (Ma.prows n k j) ∧ H' t = some (.tup (vz r.1)) ∧ H' pl = some (.lst zs') ∧
            Paired (RowP H') zs' (((Ma.prows n k j).take i).flatMap (Ma.ptwo k ((n : Int) - 1 - (j : Int))) ++ (([1, -1] : List Int).take s).flatMap (Ma.pone k ((n : Int) - 1 - (j : Int)) r)) ∧ zs'.length ≤ 2 * i + s ∧
            σ' = [some (vi n), some (vi k), some (.ref pr), some (.int ((n : Int) - 1 - (j : Int))), some (.ref pl), some (.ref t), some (.int r.2), v7, none])
          (fun a H3 e3 ha => ⟨eH.trans e3, zs, v7, ha, e3 _ _ hpr, rowP_sta.exs py e3, e3 _ _ ht, e3 _ _ hpl, by simpa using rowP_sta.exs pz e3, by omega, rfl⟩) (fun a s σ' H' _ p => ?_) ?_ ?_
        · obtain ⟨_, _, _, h, _⟩ := p
          exact h
        · rintro a s x σ' H' hx2 ⟨eH, zs', v7, ha, hpr, py, ht, hpl, pz, lz, rfl⟩
          have hs : ∃ c : Int, x = .int c ∧ ([1, -1] : List Int).take (s + 1) = ([1, -1] : List Int).take s ++ [c] := by
            match s, hx2 with
            | 0, h => exact ⟨1, by simpa using h.symm, rfl⟩
            | 1, h => exact ⟨-1, by simpa using h.symm, rfl⟩
            | s + 2, h => simp at h
          obtain ⟨c, rfl, htk⟩ := hs
          have step : ((Ma.prows n k j).take i).flatMap (Ma.ptwo k ((n : Int) - 1 - (j : Int))) ++ (([1, -1] : List Int).take (s + 1)).flatMap (Ma.pone k ((n : Int) - 1 - (j : Int)) r) = (((Ma.prows n k j).take i).flatMap (Ma.ptwo k ((n : Int) - 1 - (j : Int))) ++ (([1, -1] : List Int).take s).flatMap (Ma.pone k ((n : Int) - 1 - (j : Int)) r)) ++ Ma.pone k ((n : Int) - 1 - (j : Int)) r c := by
            rw [htk, List.flatMap_append, List.append_assoc]
            simp
          refine s_when (b := Ma.pok k ((n : Int) - 1 - (j : Int)) r.2 c) (et_andB (a := decide (0 ≤ r.2 + c)) (b := decide (Ma.iabs (r.2 + c - k) ≤ (n : Int) - 1 - (j : Int))) (et_ge (ev_op (ev_var rfl) (ev_var rfl) rv_I0) ev_c rfl) (fun _ => et_le (ev_cb (vs := [.int (r.2 + c - k)]) (ea_cons (ev_op (ev_op (ev_var rfl) (ev_var rfl) rv_I0) (ev_var rfl) rv_I0) ea_nil) fun H1 e Q q => ⟨_, rfl, q H1 (Ex.refl H1)⟩) (ev_var rfl) rfl) rfl) (fun hb H4 e4 => ?_) (fun hb H4 e4 => ?_)
          · have lr := (Ma.prows_ok n k j r (List.mem_of_getElem? hr)).len
            refine s_appP (l := pl) (xs := zs') (P := fun v H' => RowP H' v (r.1 ++ [c], r.2 + c)) (e4 _ _ hpl) (ev_var rfl) (ep_row (by rw [← vz_one]; exact etu_cat (etu_of (p := t) (ev_var rfl) (e4 _ _ ht)) (fun H5 e5 => etu_tup (vs := [.int c]) (ea_cons (ev_var rfl) ea_nil) (by simp)) (by simp; omega)) (fun H5 e5 => ev_op (ev_var rfl) (ev_var rfl) rv_I0)) ?_ fun v H5 e5 hv => ?_
            · have : s < 2 := by
                have := (List.getElem?_eq_some_iff.mp hx2).1
                simpa using this
              omega
            · have e45 := e4.trans e5
              have hpl5 := e45 _ _ hpl
              have f5 : Fr1 pl H5 (upd H5 pl (.lst (zs' ++ [v]))) := (Fr1.refl pl H5).upd
              refine ⟨Ex.mut (eH.trans e45) nl', zs' ++ [v], _, fr_tup (e45 _ _ ha) hpl5 f5, by rw [upd_ne nrl]; exact e45 _ _ hpr, rowP_sta.frs (rowP_sta.exs py e45) hpl5 f5, fr_tup (e45 _ _ ht) hpl5 f5, upd_same, ?_, by simp; omega, rfl⟩
              rw [step, show Ma.pone k ((n : Int) - 1 - (j : Int)) r c = [(r.1 ++ [c], r.2 + c)] by unfold Ma.pone; rw [if_pos hb]]
              exact (rowP_sta.frs (rowP_sta.exs pz e45) hpl5 f5).snoc (rowP_sta.fr hv hpl5 f5)
          · refine ⟨eH.trans e4, zs', _, e4 _ _ ha, e4 _ _ hpr, rowP_sta.exs py e4, e4 _ _ ht, e4 _ _ hpl, ?_, by omega, rfl⟩
            rw [step, show Ma.pone k ((n : Int) - 1 - (j : Int)) r c = [] by unfold Ma.pone; rw [if_neg (by simp [hb])], List.append_nil]
            exact rowP_sta.exs pz e4
        · rintro a σ' H' ⟨eH, zs', v7, ha, hpr, py, ht, hpl, pz, lz, rfl⟩
          refine ⟨eH, zs', _, _, _, hpr, py, hpl, ?_, ?_, rfl⟩
          · have e5 : (Ma.prows n k j).take (i + 1) = (Ma.prows n k j).take i ++ [r] := by rw [List.take_add_one, hr]; rfl
            rw [e5, List.flatMap_append]
            have e6 : [r].flatMap (Ma.ptwo k ((n : Int) - 1 - (j : Int))) = (([1, -1] : List Int).take ([V.int 1, V.int (-1)] : List V).length).flatMap (Ma.pone k ((n : Int) - 1 - (j : Int)) r) := by
              simp [Ma.ptwo]
            rw [e6]
            exact pz
          · have : ([V.int 1, V.int (-1)] : List V).length = 2 := rfl
            omega
      · rintro σ' H' ⟨eH, zs, v5, v6, v7, hpr, py, hpl, pz, lz, rfl⟩
        refine s_asg (v := .ref pl) (ev_var rfl) fun H3 e3 => ⟨eH.trans e3, pl, zs, _, _, _, _, _, e3 _ _ hpl, ?_, rfl⟩
        rw [hlen, List.take_length] at pz
        exact rowP_sta.exs pz e3
    · rintro σ' H' ⟨eH, pr, ys, v3, v4, v5, v6, v7, hpr, py, rfl⟩
      have hlen := paired_len py
      have hb := hpow n (Nat.le_refl _)
      refine s_retLP (elp_imp (elp_lc (A := RowP) (B := TupZ) (ds := Ma.prows n k n) (F := fun _ => true) (r := fun r => r.1) rowP_sta tupZ_sta (by omega) (ep_of (ev_var rfl) fun H1 e1 => ⟨pr, ys, rfl, e1 _ _ hpr, rowP_sta.exs py e1⟩) ?_) (R := fun ys H' => Paired (TupZ H') ys (Ma.psigns n k)) ?_) fun p ys H1 np e1 h1 py1 => ret p H1 ys (fresh_back eH np) (eH.trans e1) h1 py1
      · rintro x r H1 e1 ⟨q, t, rfl, hq, ht⟩ _
        exact ⟨_, fun R k => g2_new hq k, rfl, et_yes, fun _ => ep_of (ev_var (v := .ref t) rfl) fun H2 e2 => ⟨t, rfl, e2 _ _ ht⟩⟩
      · intro ys H1 h
        rw [List.filter_eq_self.mpr (fun _ _ => rfl)] at h
        exact h
end
end HM
namespace Ma
theorem mem_last {l d : List Nat} {x : Nat} (h : l = d ++ [x]) : x ∈ l := by rw [h]; simp
theorem hrun_step {n k i : Nat} {row : List Int} (R : OkRow n k row) (hi : i < n) : (gi row i = 1 ∧ hrun row (i + 1) = ((hrun row i).1 ++ [i], (hrun row i).2)) ∨
    (gi row i = -1 ∧ ∃ w t, (hrun row i).1 = w ++ [t] ∧ t < i ∧ hrun row (i + 1) = (w, ((hrun row i).2.set i t).set t i)) := by
  obtain ⟨B, e1, e2⟩ := hrun_ok R i (by omega)
  have ts := take_sum (row := row) (p := i) (by rw [R.len]; omega)
  have hh := R.high (i + 1) (by omega)
  rcases R.one i hi with e | e
  · exact .inl ⟨e, by show hstep _ _ _ = _; unfold hstep; rw [if_pos (by omega)]⟩
  · have hne : (hrun row i).1 ≠ [] := fun z => by
      rw [z] at e1
      simp only [List.length_nil] at e1
      omega
    have hl := last_app hne
    refine .inr ⟨e, (hrun row i).1.dropLast, lastD (hrun row i).1, hl, ?_, by show hstep _ _ _ = _; unfold hstep; rw [if_neg (by omega)]⟩
    exact B.lt _ (mem_last hl)
theorem hrun_len {n k i : Nat} {row : List Int} (R : OkRow n k row) (hi : i ≤ n) : (hrun row i).1.length ≤ n ∧ (hrun row i).2.length = n ∧ ∀ x ∈ (hrun row i).1, x < n := by
  obtain ⟨B, e1, e2⟩ := hrun_ok R i hi
  refine ⟨?_, e2, fun x hx => by have := B.lt x hx; omega⟩
  have h : (hrun row i).1.length ≤ (List.range i).length := nd_len (B.srt.imp fun h => by omega) fun x hx => List.mem_range.mpr (B.lt x hx)
  rw [List.length_range] at h
  omega
end Ma
namespace HM
open PySem PySem.Spec PyProof.Rows L2 Evl
theorem vz_get {l : List Int} {i : Nat} {x : V} (h : (vz l)[i]? = some x) : i < l.length ∧ x = .int (l.getD i 0) := by
  rw [List.getElem?_map] at h
  cases e : l[i]? with
  | none => rw [e] at h; cases h
  | some y =>
    have hi := (List.getElem?_eq_some_iff.mp e).1
    rw [e] at h
    refine ⟨hi, ?_⟩
    rw [List.getD_eq_getElem?_getD, e]
    exact (Option.some.inj h).symm
theorem at_vz {l : List Int} {i : Nat} (h : i < l.length) : atI (vz l) (i : Int) = some (.int (l.getD i 0)) := by
  refine atI_nat ?_
  rw [List.getElem?_map, List.getD_eq_getElem?_getD]
  simp [h]
section
variable {P : Program} {w : World} {K : PySem.W.Frag} {mg : Str → Option Value} {base : Heap}
def spHalfOf : Sp := fun vs H Q _ => ∃ (a : Addr) (n k : Nat) (row : List Int), vs = [.ref a] ∧ H a = some (.tup (vz row)) ∧ Ma.OkRow n k row ∧ 0 < n ∧ n ≤ 50 ∧ ∀ v H', Ex H H' → (∃ p, v = .ref p ∧ MatAt H' p n k (Ma.hL row)) → Q v H'
theorem ok_half_of_signs (B : Bt mg) (D : DefOk K mg "half_of_signs" s_half_of_signs) : Cal P w K mg base 1 "half_of_signs" spHalfOf := by
  refine cal_of D sc_half_of_signs (fun _ _ _ _ _ _ us hl => match us, hl with | [_], _ => rfl) (fun vs H Q E h => ?_) (fun f cdv A outer s H vs Q E hr h => ?_)
  · obtain ⟨a, n, k, row, rfl, _⟩ := h; rfl
  · obtain ⟨a, n, k, row, rfl, ha, R, h0, hn, ret⟩ := h
    have lr := R.len
    obtain ⟨hk, HH⟩ := Ma.half_of R h0
    have hkn := HH.le
    refine ⟨_, (pss_cons (ps_par (i := 1) (j := 2) rfl sc_half_of_signs.nd rfl rfl (by decide) rfl rfl (pa_cons (pe_lst pa_nil) (pa_cons (pe_op op_rep (pe_lst (pa_cons pe_int pa_nil)) (pe_callB call_len_seq (by rfl) B.len_ PySem.boot_len (pa_cons (pv 0) pa_nil))) pa_nil)) rfl)
  (pss_cons (ps_for PassesOwn.never rfl (pi_enumT (by rfl) B.enumerate_ (pa_cons (pv 0) pa_nil)) (pg_tup rfl (pgs_cons (pg_name (i := 3) sc_half_of_signs.nd rfl (.inl rfl)) (pgs_cons (pg_name (i := 4) sc_half_of_signs.nd rfl (.inl rfl)) pgs_nil)))
  (pss_one (ps_if (pt_cmpR op_gt (pv 4) pe_int (nomark _)) (pss_one (ps_expr (pe_bm PySem.F.plainAttrs_list PySem.F.slot_list_append PySem.F.type_list_append mt_append (pv 1) (pa_cons (pv 3) pa_nil)))) (pss_cons (ps_asg (pe_bm0 PySem.F.plainAttrs_list PySem.F.slot_list_pop PySem.F.type_list_pop mt_pop (pv 1)) (pg_sub (pv 2) (pv 3) set_list))
  (pss_one (ps_asg (pv 3) (pg_sub (pv 2) (pe_ix ix_seq (pv 2) (pv 3) (fun _ _ => rfl)) set_list)))))))
  (pss_cons (ps_for PassesOwn.never rfl (pi_enum (by rfl) B.enumerate_ (pa_cons (pv 1) pa_nil)) (pg_tup rfl (pgs_cons (pg_name (i := 5) sc_half_of_signs.nd rfl (.inl rfl)) (pgs_cons (pg_name (i := 3) sc_half_of_signs.nd rfl (.inl rfl)) pgs_nil)))
  (pss_one (ps_asg (pe_op op_add (pe_callB call_len_seq (by rfl) B.len_ PySem.boot_len (pa_cons (pv 0) pa_nil)) (pv 5)) (pg_sub (pv 2) (pv 3) set_list))))
  (pss_one (ps_ret (pe_tup (pa_cons (pe_callB call_len_seq (by rfl) B.len_ PySem.boot_len (pa_cons (pv 0) pa_nil)) (pa_cons (pe_callB call_len_seq (by rfl) B.len_ PySem.boot_len (pa_cons (pv 1) pa_nil)) (pa_cons (pe_callTy call_tuple_of (by rfl) B.tuple_ (by decide +kernel) (pa_cons (pe_op op_cat (pv 2) (pv 1)) pa_nil)) pa_nil))))))))), ?_⟩
    refine q_parLL (el_lst ea_nil (by decide)) (el_rep1 (k := n) (x := vi 0) (el_lst (ea_cons ev_c ea_nil) (by decide)) (ev_lenT (p := a) (ev_var rfl) ha (by simp [lr])) (by omega)) fun pw pm H1 nw nm nwm e1 hw hm => ?_
    have er : List.replicate n (vi 0) = vl (Ma.hrun row 0).2 := by
      show _ = vl (List.replicate row.length 0)
      rw [lr, vl_rep]
    rw [er] at hm
    refine q_forET (ea_cons (ev_var rfl) ea_nil) (e1 _ _ ha)
      (fun i σ' H' => Ex H H' ∧ H' pw = some (.lst (vl (Ma.hrun row i).1)) ∧ H' pm = some (.lst (vl (Ma.hrun row i).2)) ∧ ∃ v3 v4, σ' = [some (.ref a), some (.ref pw), some (.ref pm), v3, v4, none])
      (fun H2 e2 => ⟨e1.trans e2, e2 _ _ hw, e2 _ _ hm, none, none, rfl⟩) (fun i σ' H' _ p => p.1 _ _ ha) ?_ ?_
    · rintro i x σ' H' H2 hx ⟨eH, hw, hm, v3, v4, rfl⟩ e2
      obtain ⟨hi, rfl⟩ := vz_get hx
      obtain ⟨l1, l2, l3⟩ := Ma.hrun_len R (i := i) (by omega)
      have hw2 := e2 _ _ hw
      have hm2 := e2 _ _ hm
      rcases Ma.hrun_step R (i := i) (by omega) with ⟨e, es⟩ | ⟨e, w, t, ew, ht, es⟩
      · refine s_if (b := true) (et_gt (ev_var rfl) ev_c (decide_eq_true (by have : row.getD i 0 = 1 := e; omega))) (fun _ H3 e3 => ?_) (fun z => by cases z)
        refine s_app (e3 _ _ hw2) (ev_var rfl) (ev_var (v := vi i) rfl) (by rw [List.length_map]; omega) fun H4 e4 => ?_
        refine ⟨Ex.mut ((eH.trans e2).trans (e3.trans e4)) nw, ?_, ?_, _, _, rfl⟩
        · rw [upd_same, es, vl_one]
        · rw [upd_ne nwm.symm, es]; exact e4 _ _ (e3 _ _ hm2)
      · refine s_if (b := false) (et_gt (ev_var rfl) ev_c (decide_eq_false (by have : row.getD i 0 = -1 := e; omega))) (fun z => by cases z) (fun _ H3 e3 => ?_)
        rw [ew, ← vl_one] at hw2
        refine q_popG (l := pw) (ev_var rfl) (e3 _ _ hw2) fun H4 e4 => ?_
        refine g_setL (l := pm) (xs := vl (Ma.hrun row i).2) (j := i) (by rw [upd_ne nwm.symm]; exact e4 _ _ (e3 _ _ hm2)) (ev_var rfl) (ev_var rfl) (by rw [List.length_map]; omega) fun H5 e5 => ?_
        refine s_setL (l := pm) (xs := vl ((Ma.hrun row i).2.set i t)) (j := t) (v := vi i) (by rw [upd_same, vl_set]) (ev_var rfl) (ev_var rfl) (ev_is (ev_op (ev_var rfl) (ev_var rfl) (rv_ixl (xs := vl ((Ma.hrun row i).2.set i t)) (by rw [upd_same, vl_set]) (at_vl (by rw [List.length_set]; omega)))) (by rw [Ma.g_set (by omega), if_pos rfl])) (by rw [List.length_map, List.length_set]; omega) fun H6 e6 => ?_
        have eA : Ex H (upd H4 pw (.lst (vl w))) := Ex.mut ((eH.trans e2).trans (e3.trans e4)) nw
        have eB : Ex H (upd H5 pm (.lst ((vl (Ma.hrun row i).2).set i (vi t)))) := Ex.mut (eA.trans e5) nm
        refine ⟨Ex.mut (eB.trans e6) nm, ?_, ?_, _, _, rfl⟩
        · rw [upd_ne nwm, es]
          exact e6 _ _ (by rw [upd_ne nwm]; exact e5 _ _ upd_same)
        · rw [upd_same, es, vl_set]
    · rintro σ' H' ⟨eH, hw, hm, v3, v4, rfl⟩
      have eN : (vz row).length = n := by simp [lr]
      rw [eN] at hw hm
      have ew : Ma.hW row = (Ma.hrun row n).1 := by unfold Ma.hW; rw [lr]
      rw [← ew] at hw
      obtain ⟨_, l2, l3⟩ := Ma.hrun_len R (i := n) (by omega)
      refine q_forEL (xs := vl (Ma.hW row)) (ea_cons (ev_var rfl) ea_nil) hw
        (fun b σ' H' => Ex H H' ∧ H' pw = some (.lst (vl (Ma.hW row))) ∧ H' pm = some (.lst (vl (Ma.frun n (Ma.hW row) (Ma.hrun row n).2 b))) ∧ ∃ v3 v5, σ' = [some (.ref a), some (.ref pw), some (.ref pm), v3, v4, v5])
        (fun H2 e2 => ⟨eH.trans e2, e2 _ _ hw, e2 _ _ hm, v3, none, rfl⟩) (fun i σ' H' _ p => p.2.1) ?_ ?_
      · rintro b x σ' H' H2 hx ⟨eH, hw, hm, v3, v5, rfl⟩ e2
        obtain ⟨hb, rfl⟩ := vl_get hx
        have hlt : Ma.g (Ma.hW row) b < n := l3 _ (by rw [← ew]; exact List.mem_of_getElem? (Ma.g_get hb))
        refine s_setL (l := pm) (xs := vl (Ma.frun n (Ma.hW row) (Ma.hrun row n).2 b)) (j := Ma.g (Ma.hW row) b) (v := vi (n + b)) (e2 _ _ hm) (ev_is (ev_op (ev_lenT (p := a) (n := n) (ev_var rfl) ((eH.trans e2) _ _ ha) (by simp [lr])) (ev_var (v := vi b) rfl) rv_I0) (by simp)) (ev_var rfl) (ev_var rfl) (by rw [List.length_map, Ma.frun_len]; omega) fun H3 e3 => ?_
        refine ⟨Ex.mut ((eH.trans e2).trans e3) nm, by rw [upd_ne nwm]; exact e3 _ _ (e2 _ _ hw), ?_, _, _, rfl⟩
        rw [upd_same, vl_set]
        rfl
      · rintro σ' H' ⟨eH, hw, hm, v3, v5, rfl⟩
        have e6 : (vl (Ma.hW row)).length = (Ma.hW row).length := by simp
        rw [e6] at hm
        refine s_retP (ep_mat (n := n) (m := k) (ev_lenT (p := a) (ev_var rfl) (eH _ _ ha) (by simp [lr])) (ev_lenL (p := pw) (ev_var rfl) hw (by simp [hk])) (etu_new (eu_tupNL (el_is (el_catV (ev_var rfl) (ev_var rfl) hm hw ?_) ?_)))) fun v H2 e2 hv => ret v H2 (eH.trans e2) hv
        · rw [List.length_map, List.length_map, Ma.frun_len]; omega
        · rw [vl_app]
          unfold Ma.hL
          rw [lr]
def spHalfMats : Sp := fun vs H Q _ => ∃ n k : Nat, vs = [vi n, vi k] ∧ 1 ≤ n ∧ n ≤ 8 ∧ k ≤ n ∧ (n - k) % 2 = 0 ∧
  ∀ p H' ys ds, H p = none → Ex H H' → H' p = some (.lst ys) → Paired (MatV n k H') ys ds → ds.Perm ((Ma.psigns n k).map Ma.hL) → Srt ds → Q (.ref p) H'
theorem ok_half_mats (B : Bt mg) (D : DefOk K mg "half_mats" s_half_mats) (C_check_halves : Cal P w K mg base 2 "check_halves" spCheckHalves) (C_rows_of_signs : Cal P w K mg base 1 "rows_of_signs" spRows) (C_half_of_signs : Cal P w K mg base 1 "half_of_signs" spHalfOf) : FnFor P w K mg base 3 "half_mats" s_half_mats ["n", "k"] spHalfMats := by
  refine fnfor_of D sc_half_mats (fun vs H Q E h => ?_) (fun f cdv A outer s H vs Q E hr h => ?_)
  · obtain ⟨n, k, rfl, _⟩ := h; rfl
  · have hu80 := hu80_of hr
    obtain ⟨n, k, rfl, h1, h8, hk, hp, ret⟩ := h
    have PP := Ma.rows_perm h1 h8 hk hp
    have hlen : (Ma.psigns n k).length ≤ 40000 := by
      rw [PP.length_eq]
      have h1 := Ma.lsigns_len n k
      have h2 : 2 ^ n ≤ 2 ^ 8 := Nat.pow_le_pow_right (by decide) h8
      omega
    refine ⟨_, (pss_cons (ps_expr (pe_c C_check_halves hr (by decide) (by rfl) (pa_cons (pv 0) (pa_cons (pv 1) pa_nil))))
  (pss_one (ps_ret (pe_callB (cr_sortM hu80) (by rfl) B.sorted_ (by decide +kernel) (pa_cons (pe_lc (own := [("row", 2)]) (g := gName 2) (tt := tYes) (te := (tCall spHalfOf [] E0 (tCons (tVar 2) tNil))) rfl sc_half_mats.nd (pi_list (pe_c C_rows_of_signs hr (by decide) (by rfl) (pa_cons (pv 0) (pa_cons (pv 1) pa_nil)))) (blkOk_by (N := N_half_mats) (sc := defScope s_half_mats) (by decide +kernel)) (fun _ _ _ _ _ => (pg_name (i := 2) sc_half_mats.nd rfl (.inl rfl))) (fun _ _ _ _ _ => pts_nil) (fun _ _ _ _ _ => (pe_c C_half_of_signs hr (by decide) (by rfl) (pa_cons (pv 2) pa_nil)))) pa_nil))))), ?_⟩
    refine q_drop (v := .non) (ev_callV (ea_cons (ev_var rfl) (ea_cons (ev_var rfl) ea_nil)) fun H1 e1 Q q => ⟨n, k, rfl, h1, hk, hp, q⟩) fun H1 e1 => ?_
    refine s_retLP (elp_sorted (n := n) (k := k) (ds := (Ma.psigns n k).map Ma.hL) (elp_imp (elp_lc (A := TupZ) (B := MatV n k) (ds := Ma.psigns n k) (F := fun _ => true) (r := Ma.hL) tupZ_sta (matV_sta n k) hlen (fun H2 e2 Q q => ?_) ?_) fun ys H2 h => ?_)) fun p ys H2 np e2 hp ⟨es, h3, h4, h5⟩ => ret p H2 ys es (fresh_back e1 np) (e1.trans e2) hp h3 h4 h5
    · refine (ea_cons (ev_var rfl) (ea_cons (ev_var rfl) ea_nil) : EvA _ _ H2 [vi n, vi k]) H2 (Ex.refl H2) _ fun H3 e3 => ?_
      exact ⟨n, k, rfl, h8, fun p H4 ys np e4 hp py => q _ H4 (e3.trans e4) ⟨p, ys, rfl, hp, py⟩⟩
    · rintro x row H3 e3 ⟨t, rfl, ht⟩ hm
      have R := Ma.lsigns_ok (PP.mem_iff.mp hm)
      exact ⟨_, fun R k => k, rfl, et_yes, fun _ => ep_call (vs := [.ref t]) (ea_cons (ev_var rfl) ea_nil) fun H4 e4 Q q => ⟨t, n, k, row, rfl, e4 _ _ ht, R, by omega, by omega, q⟩⟩
    · rw [List.filter_eq_self.mpr (fun _ _ => rfl)] at h
      exact h
end
end HM
namespace HM
open PySem PySem.Spec PyProof.Rows L2 Evl
theorem log_le (x : Nat) : x.log2 ≤ x := Nat.log2_le_self x
theorem cmul_small {i j : Int} (h1 : i.natAbs ≤ 400000) (h2 : j.natAbs ≤ 400000) : CMulW i j := by
  show i.natAbs.log2 + j.natAbs.log2 < 1000000
  have := log_le i.natAbs
  have := log_le j.natAbs
  omega
section
variable {K : PySem.W.Frag} {σ : L2.St} {H H' : Hp} {ta tb tc te tx tl : TE} {t u tt : TT} {x y z v : V} {D : Ends} {tu tw tz : TS} {g : TG}
theorem elp_catP {α : Type} {B : Hp → V → α → Prop} {p : Addr} {xs : List V} {ds es : List α} (S : Sta B) (ha : Ev ta σ H (.ref p)) (hp : H p = some (.lst xs)) (hx : Paired (B H) xs ds) (hb : EvLP tb σ H fun ys H' => Paired (B H') ys es) (hz : ds.length + es.length ≤ 100000) :
    EvLP (tOp rCat ta tb) σ H fun ys H' => Paired (B H') ys (ds ++ es) := fun H1 e Q k =>
  ha H1 e _ fun H2 e2 => hb H2 (e.trans e2) _ fun q H3 ys nq e3 hq py => by
    have l1 := paired_len hx
    have l2 := paired_len py
    have e13 := (e.trans e2).trans e3
    exact ⟨p, q, xs, ys, rfl, rfl, e13 _ _ hp, hq, sz_of (by omega), fun l hl => k l _ _ (fresh_back (e2.trans e3) hl) ((e2.trans e3).trans (Ex.new hl)) upd_same (paired_app (S.exs hx (e13.trans (Ex.new hl))) (S.exs py (Ex.new hl)))⟩
theorem g_cons {gs : TGs} {r : List V} {R : L2.St → Hp → Prop} (h : g v σ H fun σ' H' => gs r σ' H' R) : gCons g gs (v :: r) σ H R := ⟨v, r, rfl, h⟩
theorem g_nil {R : L2.St → Hp → Prop} (h : R σ H) : gNil [] σ H R := ⟨rfl, h⟩
theorem s_asgT {ta : TA} {n : Nat} {gs : TGs} {vs : List V} (h : EvA ta σ H vs) (hn : vs.length = n) (hz : vs.length ≤ 100000) (k : ∀ H1, Ex H H1 → gs vs σ H1 D.nx) : tAsg (tTup ta) (gTup K n gs) D σ H :=
  h H (Ex.refl H) _ fun H1 e => ⟨sz_of (by omega), fun p hp => ⟨p, vs, rfl, st_of upd_same, hn, k _ (e.trans (Ex.new hp))⟩⟩
theorem q_asgT {ta : TA} {n : Nat} {gs : TGs} {vs : List V} (h : EvA ta σ H vs) (hn : vs.length = n) (hz : vs.length ≤ 100000) (k : ∀ H1, Ex H H1 → gs vs σ H1 (tz D)) : tSeq (tAsg (tTup ta) (gTup K n gs)) tz D σ H := s_asgT (D := { D with nx := tz D }) h hn hz k
theorem q_asgPop {l : Addr} {xs : List V} {i : Nat} (ha : Ev ta σ H (.ref l)) (hl : H l = some (.lst (xs ++ [x]))) (k : ∀ H1, Ex H H1 → tz D (σ.set i (some x)) (upd H1 l (.lst xs))) : tSeq (tAsg (tBM0 K "list" rPop ta) (gName i)) tz D σ H := dr_pop ha hl k
end
section
variable {P : Program} {w : World} {K : PySem.W.Frag} {mg : Str → Option Value} {base : Heap}
def SeqZ (H : Hp) (a : Addr) (row : List Int) : Prop := H a = some (.lst (vz row)) ∨ H a = some (.tup (vz row))
theorem SeqZ.ex {H H' : Hp} {a : Addr} {row : List Int} (h : SeqZ H a row) (e : Ex H H') : SeqZ H' a row := h.elim (fun h => .inl (e _ _ h)) fun h => .inr (e _ _ h)
def spLawHalf : Sp := fun vs H Q _ => ∃ (a : Addr) (n k : Nat) (row : List Int), vs = [.ref a] ∧ SeqZ H a row ∧ Ma.OkRow n k row ∧ 0 < n ∧ n ≤ 50 ∧ ∀ v H', Ex H H' → (∃ p, v = .ref p ∧ MatAt H' p n k (Ma.hL row)) → Q v H'
theorem ok_law_half (B : Bt mg) (D : DefOk K mg "_law_half" s__law_half) : Cal P w K mg base 1 "_law_half" spLawHalf := by
  refine cal_of D sc__law_half (fun _ _ _ _ _ _ us hl => match us, hl with | [_], _ => rfl) (fun vs H Q E h => ?_) (fun f cdv A outer s H vs Q E hr h => ?_)
  · obtain ⟨a, n, k, row, rfl, _⟩ := h; rfl
  · obtain ⟨a, n, k, row, rfl, ha, R, h0, hn, ret⟩ := h
    have lr := R.len
    obtain ⟨hk, HH⟩ := Ma.half_of R h0
    have hkn := HH.le
    refine ⟨_, (pss_cons (ps_par3 (i := 1) (j := 2) (l := 3) rfl sc__law_half.nd rfl rfl rfl (by decide) (by decide) (by decide) rfl rfl rfl (pa_cons (pe_callB call_len_seq (by rfl) B.len_ PySem.boot_len (pa_cons (pv 0) pa_nil)) (pa_cons (pe_lst pa_nil) (pa_cons (pe_op op_rep (pe_lst (pa_cons pe_int pa_nil)) (pe_callB call_len_seq (by rfl) B.len_ PySem.boot_len (pa_cons (pv 0) pa_nil))) pa_nil))) rfl)
  (pss_cons (ps_for PassesOwn.never rfl (pi_range1 (by rfl) B.range_ (pa_cons (pv 1) pa_nil)) (pg_name (i := 4) sc__law_half.nd rfl (.inl rfl))
  (pss_one (ps_if (pt_cmpR op_eq (pe_ix ix_seq (pv 0) (pv 4) (fun _ _ => rfl)) pe_int (nomark _)) (pss_one (ps_expr (pe_bm PySem.F.plainAttrs_list PySem.F.slot_list_append PySem.F.type_list_append mt_append (pv 2) (pa_cons (pv 4) pa_nil)))) (pss_cons (ps_set (i := 5) sc__law_half.nd rfl (.inl rfl) (pe_bm0 PySem.F.plainAttrs_list PySem.F.slot_list_pop PySem.F.type_list_pop mt_pop (pv 2)))
  (pss_one (ps_asg (pe_tup (pa_cons (pv 5) (pa_cons (pv 4) pa_nil))) (pg_tup rfl (pgs_cons (pg_sub (pv 3) (pv 4) set_list) (pgs_cons (pg_sub (pv 3) (pv 5) set_list) pgs_nil)))))))))
  (pss_cons (ps_for PassesOwn.never rfl (pi_range1 (by rfl) B.range_ (pa_cons (pe_callB call_len_seq (by rfl) B.len_ PySem.boot_len (pa_cons (pv 2) pa_nil)) pa_nil)) (pg_name (i := 6) sc__law_half.nd rfl (.inl rfl))
  (pss_one (ps_asg (pe_op op_add (pv 1) (pv 6)) (pg_sub (pv 3) (pe_ix ix_seq (pv 2) (pv 6) (fun _ _ => rfl)) set_list))))
  (pss_one (ps_ret (pe_tup (pa_cons (pv 1) (pa_cons (pe_callB call_len_seq (by rfl) B.len_ PySem.boot_len (pa_cons (pv 2) pa_nil)) (pa_cons (pe_callTy call_tuple_of (by rfl) B.tuple_ (by decide +kernel) (pa_cons (pe_op op_cat (pv 3) (pv 2)) pa_nil)) pa_nil))))))))), ?_⟩
    have elen : ∀ {σ : L2.St} {H' : Hp}, σ[0]? = some (some (.ref a)) → Ex H H' → Ev (tCB (rLenS K) (tCons (tVar 0) tNil)) σ H' (vi n) := fun hσ e => ev_lenS (p := a) (xs := vz row) (ev_var hσ) ((ha.ex e).elim (fun h => .inl (sq_of h)) fun h => .inr (st_of h)) (by simp [lr])
    refine q_par3VLL (elen rfl (Ex.refl H)) (el_lst ea_nil (by decide)) (el_rep1 (k := n) (x := vi 0) (el_lst (ea_cons ev_c ea_nil) (by decide)) (elen rfl (Ex.refl H)) (by omega)) fun pw pm H1 nw nm nwm e1 hw hm => ?_
    have er : List.replicate n (vi 0) = vl (Ma.hrun row 0).2 := by
      show _ = vl (List.replicate row.length 0)
      rw [lr, vl_rep]
    rw [er] at hm
    refine q_forR1 (n := (n : Int)) (ea_cons (ev_var rfl) ea_nil) ⟨by omega, by omega⟩
      (fun i σ' H' => Ex H H' ∧ H' pw = some (.lst (vl (Ma.hrun row i).1)) ∧ H' pm = some (.lst (vl (Ma.hrun row i).2)) ∧ ∃ v4 v5, σ' = [some (.ref a), some (vi n), some (.ref pw), some (.ref pm), v4, v5, none])
      (fun H2 e2 => ⟨e1.trans e2, e2 _ _ hw, e2 _ _ hm, none, none, rfl⟩) ?_ ?_
    · rintro i σ' H' hi ⟨eH, hw, hm, v4, v5, rfl⟩
      have hi' : i < n := by omega
      obtain ⟨l1, l2, l3⟩ := Ma.hrun_len R (i := i) (by omega)
      have hix : RV (rIx K) (.ref a) (vi i) H' (.int (row.getD i 0)) := (ha.ex eH).elim (fun h => rv_ixl h (at_vz (by omega))) fun h => rv_ixt h (at_vz (by omega))
      rcases Ma.hrun_step R hi' with ⟨e, es⟩ | ⟨e, w, t, ew, ht, es⟩
      · refine s_if (b := true) (et_eq (ev_op (ev_var rfl) (ev_var rfl) hix) ev_c (decide_eq_true e)) (fun _ H3 e3 => ?_) (fun z => by cases z)
        refine s_app (e3 _ _ hw) (ev_var rfl) (ev_var (v := vi i) rfl) (by rw [List.length_map]; omega) fun H4 e4 => ?_
        refine ⟨Ex.mut (eH.trans (e3.trans e4)) nw, ?_, ?_, _, _, rfl⟩
        · rw [upd_same, es, vl_one]
        · rw [upd_ne nwm.symm, es]; exact e4 _ _ (e3 _ _ hm)
      · refine s_if (b := false) (et_eq (ev_op (ev_var rfl) (ev_var rfl) hix) ev_c (decide_eq_false (by have : row.getD i 0 = -1 := e; omega))) (fun z => by cases z) (fun _ H3 e3 => ?_)
        rw [ew, ← vl_one] at hw
        refine q_asgPop (l := pw) (ev_var rfl) (e3 _ _ hw) fun H4 e4 => ?_
        refine s_asgT (vs := [vi t, vi i]) (ea_cons (ev_var rfl) (ea_cons (ev_var rfl) ea_nil)) rfl (by simp) fun H5 e5 => ?_
        refine g_cons (g_setL (l := pm) (xs := vl (Ma.hrun row i).2) (j := i) (e5 _ _ (by rw [upd_ne nwm.symm]; exact e4 _ _ (e3 _ _ hm))) (ev_var rfl) (ev_var rfl) (by rw [List.length_map]; omega) fun H6 e6 => ?_)
        refine g_cons (g_setL (l := pm) (xs := vl ((Ma.hrun row i).2.set i t)) (j := t) (by rw [upd_same, vl_set]) (ev_var rfl) (ev_var rfl) (by rw [List.length_map, List.length_set]; omega) fun H7 e7 => ?_)
        have eA : Ex H (upd H4 pw (.lst (vl w))) := Ex.mut (eH.trans (e3.trans e4)) nw
        have eB : Ex H (upd H6 pm (.lst ((vl (Ma.hrun row i).2).set i (vi t)))) := Ex.mut (eA.trans (e5.trans e6)) nm
        refine g_nil ⟨Ex.mut (eB.trans e7) nm, ?_, ?_, _, _, rfl⟩
        · rw [upd_ne nwm, es]
          exact e7 _ _ (by rw [upd_ne nwm]; exact e6 _ _ (e5 _ _ upd_same))
        · rw [upd_same, es, vl_set]
    · rintro σ' H' ⟨eH, hw, hm, v4, v5, rfl⟩
      rw [show ((n : Int)).toNat = n by omega] at hw hm
      have ew : Ma.hW row = (Ma.hrun row n).1 := by unfold Ma.hW; rw [lr]
      rw [← ew] at hw
      obtain ⟨_, l2, l3⟩ := Ma.hrun_len R (i := n) (by omega)
      refine q_forR1 (n := (k : Int)) (ea_cons (ev_lenL (p := pw) (ev_var rfl) hw (by simp [hk])) ea_nil) ⟨by omega, by omega⟩
        (fun b σ' H' => Ex H H' ∧ H' pw = some (.lst (vl (Ma.hW row))) ∧ H' pm = some (.lst (vl (Ma.frun n (Ma.hW row) (Ma.hrun row n).2 b))) ∧ ∃ v6, σ' = [some (.ref a), some (vi n), some (.ref pw), some (.ref pm), v4, v5, v6])
        (fun H2 e2 => ⟨eH.trans e2, e2 _ _ hw, e2 _ _ hm, none, rfl⟩) ?_ ?_
      · rintro b σ' H' hb ⟨eH, hw, hm, v6, rfl⟩
        have hb' : b < (Ma.hW row).length := by omega
        have hlt : Ma.g (Ma.hW row) b < n := l3 _ (by rw [← ew]; exact List.mem_of_getElem? (Ma.g_get hb'))
        refine s_setL (l := pm) (xs := vl (Ma.frun n (Ma.hW row) (Ma.hrun row n).2 b)) (j := Ma.g (Ma.hW row) b) (v := vi (n + b)) hm (ev_is (ev_op (ev_var rfl) (ev_var (v := vi b) rfl) rv_I0) (by simp)) (ev_var rfl) (ev_op (ev_var rfl) (ev_var rfl) (rv_ixl hw (at_vl hb'))) (by rw [List.length_map, Ma.frun_len]; omega) fun H3 e3 => ?_
        refine ⟨Ex.mut (eH.trans e3) nm, by rw [upd_ne nwm]; exact e3 _ _ hw, ?_, _, rfl⟩
        rw [upd_same, vl_set]
        rfl
      · rintro σ' H' ⟨eH, hw, hm, v6, rfl⟩
        rw [show ((k : Int)).toNat = (Ma.hW row).length by omega] at hm
        refine s_retP (ep_mat (n := n) (m := k) (ev_var rfl) (ev_lenL (p := pw) (ev_var rfl) hw (by simp [hk])) (etu_new (eu_tupNL (el_is (el_catV (ev_var rfl) (ev_var rfl) hm hw ?_) ?_)))) fun v H2 e2 hv => ret v H2 (eH.trans e2) hv
        · rw [List.length_map, List.length_map, Ma.frun_len]; omega
        · rw [vl_app]
          unfold Ma.hL
          rw [lr]
def spLawSigns : Sp := fun vs H Q _ => ∃ n k : Nat, vs = [vi n, vi k] ∧ n ≤ 8 ∧ ∀ p H' ys, H p = none → Ex H H' → H' p = some (.lst ys) → Paired (TupZ H') ys (Ma.lsigns n k) → Q (.ref p) H'
theorem ok_law_signs (B : Bt mg) (D : DefOk K mg "_law_signs" s__law_signs) : Cal P w K mg base 1 "_law_signs" spLawSigns := by
  refine cal_of D sc__law_signs (fun _ _ _ _ _ _ us hl => match us, hl with | [_, _], _ => rfl) (fun vs H Q E h => ?_) (fun f cdv A outer s H vs Q E hr h => ?_)
  · obtain ⟨n, k, rfl, _⟩ := h; rfl
  · obtain ⟨n, k, rfl, hn, ret⟩ := h
    have hpow : ∀ j, j ≤ n → (Ma.lrows j).length ≤ 256 := fun j hj => by
      have h1 := Ma.lrows_len j
      have h2 : 2 ^ j ≤ 2 ^ 8 := Nat.pow_le_pow_right (by decide) (by omega)
      omega
    refine ⟨_, (pss_cons (ps_set (i := 2) sc__law_signs.nd rfl (.inl rfl) (pe_lst (pa_cons (pe_tup (pa_cons (pe_tup pa_nil) (pa_cons pe_int pa_nil))) pa_nil)))
  (pss_cons (ps_for PassesOwn.never rfl (pi_range1 (by rfl) B.range_ (pa_cons (pv 0) pa_nil)) (pg_name (i := 3) sc__law_signs.nd rfl (.inl rfl))
  (pss_cons (ps_setLc (i := 4) (own := [("_law_row", 5), ("_law_high", 6)]) (g := gTup K 2 (gCons (gName 5) (gCons (gName 6) gNil))) (tt := tYes) (te := (tTup (tCons (tOp (rCatA K) (tVar 5) (tTup (tCons (tC (.int 1)) tNil))) (tCons (tOp rAddI (tVar 6) (tC (.int 1))) tNil)))) rfl sc__law_signs.nd rfl rfl (sw_true rfl rfl rfl (by decide +kernel)) (pi_list (pv 2)) (blkOk_by (N := N__law_signs) (sc := defScope s__law_signs) (by decide +kernel)) (fun _ _ _ _ _ => (pg_tup rfl (pgs_cons (pg_name (i := 5) sc__law_signs.nd rfl (.inl rfl)) (pgs_cons (pg_name (i := 6) sc__law_signs.nd rfl (.inl rfl)) pgs_nil)))) (fun _ _ _ _ _ => pts_nil) (fun _ _ _ _ _ => (pe_tup (pa_cons (pe_op op_catA (pv 5) (pe_tup (pa_cons pe_int pa_nil))) (pa_cons (pe_op op_add (pv 6) pe_int) pa_nil)))))
  (pss_one (ps_set (i := 2) sc__law_signs.nd rfl (.inl rfl) (pe_op op_cat (pv 4) (pe_lc (own := [("_law_row", 5), ("_law_high", 6)]) (g := gTup K 2 (gCons (gName 5) (gCons (gName 6) gNil))) (tt := (tTest (tOp rGt (tVar 6) (tC (.int 0))))) (te := (tTup (tCons (tOp (rCatA K) (tVar 5) (tTup (tCons (tUn rNeg (tC (.int 1))) tNil))) (tCons (tOp rSubI (tVar 6) (tC (.int 1))) tNil)))) rfl sc__law_signs.nd (pi_list (pv 2)) (blkOk_by (N := N__law_signs) (sc := defScope s__law_signs) (by decide +kernel)) (fun _ _ _ _ _ => (pg_tup rfl (pgs_cons (pg_name (i := 5) sc__law_signs.nd rfl (.inl rfl)) (pgs_cons (pg_name (i := 6) sc__law_signs.nd rfl (.inl rfl)) pgs_nil)))) (fun _ _ _ _ _ => pts_one (pt_cmpR op_gt (pv 6) pe_int (nomark _))) (fun _ _ _ _ _ => (pe_tup (pa_cons (pe_op op_catA (pv 5) (pe_tup (pa_cons (pe_un un_neg pe_int) pa_nil))) (pa_cons (pe_op op_sub (pv 6) pe_int) pa_nil))))))))))
  (pss_one (ps_ret (pe_lc (own := [("_law_row", 5), ("_law_high", 6)]) (g := gTup K 2 (gCons (gName 5) (gCons (gName 6) gNil))) (tt := (tTest (tOp rEq (tVar 6) (tVar 1)))) (te := (tVar 5)) rfl sc__law_signs.nd (pi_list (pv 2)) (blkOk_by (N := N__law_signs) (sc := defScope s__law_signs) (by decide +kernel)) (fun _ _ _ _ _ => (pg_tup rfl (pgs_cons (pg_name (i := 5) sc__law_signs.nd rfl (.inl rfl)) (pgs_cons (pg_name (i := 6) sc__law_signs.nd rfl (.inl rfl)) pgs_nil)))) (fun _ _ _ _ _ => pts_one (pt_cmpR op_eq (pv 6) (pv 1) (nomark _))) (fun _ _ _ _ _ => (pv 5))))))), ?_⟩
    refine q_asgLP (P := fun ys H' => Paired (RowP H') ys (Ma.lrows 0)) (elp_lst1 rowP_sta (ep_row (row := []) (h := 0) (etu_tup ea_nil (by decide)) (fun H2 e2 => ev_c))) fun pr ys H1 nr e1 hr1 py => ?_
    refine q_forR1 (n := (n : Int)) (ea_cons (ev_var rfl) ea_nil) ⟨by omega, by omega⟩
      (fun j σ' H' => Ex H H' ∧ ∃ pr ys v3 v4, H' pr = some (.lst ys) ∧ Paired (RowP H') ys (Ma.lrows j) ∧ σ' = [some (vi n), some (vi k), some (.ref pr), v3, v4, none, none])
      (fun H2 e2 => ⟨e1.trans e2, pr, ys, none, none, e2 _ _ hr1, rowP_sta.exs py e2, rfl⟩) ?_ ?_
    · rintro j σ' H' hj ⟨eH, pr, ys, v3, v4, hpr, py, rfl⟩
      have hb := hpow j (by omega)
      have hfl := List.length_filter_le (fun r : Ma.RH => decide (0 < r.2)) (Ma.lrows j)
      have htl : ∀ (r : Ma.RH), r ∈ Ma.lrows j → (vz r.1).length ≤ 1000 := fun r hr => by
        have := (Ma.lrows_ok j r hr).len
        rw [List.length_map]
        omega
      refine q_asgLP (elp_lc (A := RowP) (B := RowP) (ds := Ma.lrows j) (F := fun _ => true) (r := fun r => (r.1 ++ [1], r.2 + 1)) rowP_sta rowP_sta (by omega) (ep_of (ev_var rfl) fun H1 e1 => ⟨pr, ys, rfl, e1 _ _ hpr, rowP_sta.exs py e1⟩) ?_) fun pl zs H2 nl e2 hl pz => ?_
      · rintro x r H1 e1 ⟨q, t, rfl, hq, ht⟩ hm
        refine ⟨_, fun R k => g2_new hq k, rfl, et_yes, fun _ => ep_row ?_ (fun H2 e2 => ev_op (ev_var rfl) ev_c rv_I0)⟩
        rw [← vz_one]
        exact etu_cat (etu_of (p := t) (ev_var rfl) ht) (fun H5 e5 => etu_tup (vs := [.int 1]) (ea_cons ev_c ea_nil) (by simp)) (by have := htl r hm; simp at this ⊢; omega)
      rw [List.filter_eq_self.mpr (fun _ _ => rfl)] at pz
      refine s_asgLP (elp_catP rowP_sta (ev_var rfl) hl pz (elp_lc (A := RowP) (B := RowP) (ds := Ma.lrows j) (F := fun r => decide (0 < r.2)) (r := fun r => (r.1 ++ [-1], r.2 - 1)) rowP_sta rowP_sta (by omega) (ep_of (ev_var rfl) fun H1 e1 => ⟨pr, ys, rfl, e1 _ _ (e2 _ _ hpr), rowP_sta.exs py (e2.trans e1)⟩) ?_) (by rw [List.length_map, List.length_map]; omega)) fun pn us H3 nn e3 hn3 pu => ?_
      · rintro x r H1 e1 ⟨q, t, rfl, hq, ht⟩ hm
        refine ⟨_, fun R k => g2_new hq k, rfl, et_gt (ev_var rfl) ev_c rfl, fun _ => ep_row ?_ (fun H2 e2 => ev_op (ev_var rfl) ev_c rv_I0)⟩
        rw [← vz_one]
        exact etu_cat (etu_of (p := t) (ev_var rfl) ht) (fun H5 e5 => etu_tup (vs := [.int (-1)]) (ea_cons (ev_un ev_c ru_neg) ea_nil) (by simp)) (by have := htl r hm; simp at this ⊢; omega)
      exact ⟨(eH.trans e2).trans e3, pn, us, _, _, hn3, pu, rfl⟩
    · rintro σ' H' ⟨eH, pr, ys, v3, v4, hpr, py, rfl⟩
      rw [show ((n : Int)).toNat = n by omega] at py
      have hb := hpow n (Nat.le_refl _)
      refine s_retLP (elp_lc (A := RowP) (B := TupZ) (ds := Ma.lrows n) (F := fun r => decide (r.2 = (k : Int))) (r := fun r => r.1) rowP_sta tupZ_sta (by omega) (ep_of (ev_var rfl) fun H1 e1 => ⟨pr, ys, rfl, e1 _ _ hpr, rowP_sta.exs py e1⟩) ?_) fun p ys H1 np e1 h1 py1 => ret p H1 ys (fresh_back eH np) (eH.trans e1) h1 py1
      rintro x r H1 e1 ⟨q, t, rfl, hq, ht⟩ _
      exact ⟨_, fun R k => g2_new hq k, rfl, et_eq (ev_var rfl) (ev_var rfl) rfl, fun _ => ep_of (ev_var (v := .ref t) rfl) fun H2 e2 => ⟨t, rfl, e2 _ _ ht⟩⟩
def spLawHalves : Sp := fun vs H Q _ => ∃ n k : Nat, vs = [vi n, vi k] ∧ 1 ≤ n ∧ n ≤ 8 ∧ k ≤ n ∧ (n - k) % 2 = 0 ∧
  ∀ p H' ys ds, H p = none → Ex H H' → H' p = some (.lst ys) → Paired (MatV n k H') ys ds → ds.Perm ((Ma.lsigns n k).map Ma.hL) → Srt ds → Q (.ref p) H'
theorem ok_law_halves (B : Bt mg) (D : DefOk K mg "_law_halves" s__law_halves) (C__law_signs : Cal P w K mg base 1 "_law_signs" spLawSigns) (C__law_half : Cal P w K mg base 1 "_law_half" spLawHalf) : Cal P w K mg base 2 "_law_halves" spLawHalves := by
  refine cal_of D sc__law_halves (fun _ _ _ _ _ _ us hl => match us, hl with | [_, _], _ => rfl) (fun vs H Q E h => ?_) (fun f cdv A outer s H vs Q E hr h => ?_)
  · obtain ⟨n, k, rfl, _⟩ := h; rfl
  · have hu80 := hu80_of hr
    obtain ⟨n, k, rfl, h1, h8, hk, hp, ret⟩ := h
    have hlen : (Ma.lsigns n k).length ≤ 40000 := by
      have h1 := Ma.lsigns_len n k
      have h2 : 2 ^ n ≤ 2 ^ 8 := Nat.pow_le_pow_right (by decide) h8
      omega
    refine ⟨_, (pss_one (ps_ret (pe_callB (cr_sortM hu80) (by rfl) B.sorted_ (by decide +kernel) (pa_cons (pe_lc (own := [("_law_signs_here", 2)]) (g := gName 2) (tt := tYes) (te := (tCall spLawHalf [] E0 (tCons (tVar 2) tNil))) rfl sc__law_halves.nd (pi_list (pe_c C__law_signs hr (by decide) (by rfl) (pa_cons (pv 0) (pa_cons (pv 1) pa_nil)))) (blkOk_by (N := N__law_halves) (sc := defScope s__law_halves) (by decide +kernel)) (fun _ _ _ _ _ => (pg_name (i := 2) sc__law_halves.nd rfl (.inl rfl))) (fun _ _ _ _ _ => pts_nil) (fun _ _ _ _ _ => (pe_c C__law_half hr (by decide) (by rfl) (pa_cons (pv 2) pa_nil)))) pa_nil)))), ?_⟩
    refine s_retLP (elp_sorted (n := n) (k := k) (ds := (Ma.lsigns n k).map Ma.hL) (elp_imp (elp_lc (A := TupZ) (B := MatV n k) (ds := Ma.lsigns n k) (F := fun _ => true) (r := Ma.hL) tupZ_sta (matV_sta n k) hlen (fun H2 e2 Q q => ?_) ?_) fun ys H2 h => ?_)) fun p ys H2 np e2 hp ⟨es, h3, h4, h5⟩ => ret p H2 ys es np e2 hp h3 h4 h5
    · refine (ea_cons (ev_var rfl) (ea_cons (ev_var rfl) ea_nil) : EvA _ _ H2 [vi n, vi k]) H2 (Ex.refl H2) _ fun H3 e3 => ?_
      exact ⟨n, k, rfl, h8, fun p H4 ys np e4 hp py => q _ H4 (e3.trans e4) ⟨p, ys, rfl, hp, py⟩⟩
    · rintro x row H3 e3 ⟨t, rfl, ht⟩ hm
      have R := Ma.lsigns_ok hm
      exact ⟨_, fun R k => k, rfl, et_yes, fun _ => ep_call (vs := [.ref t]) (ea_cons (ev_var rfl) ea_nil) fun H4 e4 Q q => ⟨t, n, k, row, rfl, .inr (e4 _ _ ht), R, by omega, by omega, q⟩⟩
    · rw [List.filter_eq_self.mpr (fun _ _ => rfl)] at h
      exact h
end
end HM
namespace HM
open PySem PySem.Spec PyProof.Rows L2 Evl
section
variable {K : PySem.W.Frag} {σ : L2.St} {H H' : Hp} {ta tb tc te tx tl : TE} {t u tt : TT} {x y z v : V} {D : Ends} {tu tw tz : TS} {g : TG}
theorem ev_intB {b : Bool} (h : Ev ta σ H (.bl b)) : Ev (tCB (fun xs H Q => (∃ i, xs = [.int i] ∧ Q (.int i) H) ∨ ∃ k, xs = [.bl k] ∧ Q (.int (if k then 1 else 0)) H) (tCons ta tNil)) σ H (.int (if b then 1 else 0)) := fun H1 e Q q =>
  h H1 e _ fun H2 e2 => .inr ⟨b, rfl, q H2 e2⟩
theorem ev_intI {i : Int} (h : Ev ta σ H (.int i)) : Ev (tCB (fun xs H Q => (∃ i, xs = [.int i] ∧ Q (.int i) H) ∨ ∃ k, xs = [.bl k] ∧ Q (.int (if k then 1 else 0)) H) (tCons ta tNil)) σ H (.int i) := fun H1 e Q q =>
  h H1 e _ fun H2 e2 => .inl ⟨i, rfl, q H2 e2⟩
theorem ev_mul {a b c : Int} (ha : Ev ta σ H (.int a)) (hb : Ev tb σ H (.int b)) (h1 : a.natAbs ≤ 400000) (h2 : b.natAbs ≤ 400000) (e : a * b = c) : Ev (tOp (rI CMulW fun i j => .int (i * j)) ta tb) σ H (.int c) := ev_isI (ev_op ha hb (rv_I (cmul_small h1 h2))) e
theorem given_vl (n : Nat) (f : Nat → Nat) : given n (fun _ => true) (fun i => vi (f i)) = vl ((List.range n).map f) := by
  rw [given_all]
  unfold vl
  rw [List.map_map]
  rfl
end
section
variable {P : Program} {w : World} {K : PySem.W.Frag} {mg : Str → Option Value} {base : Heap}
def spWorth : Sp := fun vs H Q _ => ∃ r : Int, vs = [.int r] ∧ r ≤ 1000 ∧ ∀ v H', Ex H H' → (∃ p, v = .ref p ∧ H' p = some (.tup (vz (if r < 0 then [] else Ma.wpow r.toNat)))) → Q v H'
theorem ok_law_worth (B : Bt mg) (D : DefOk K mg "_law_worth" s__law_worth) : Cal P w K mg base 1 "_law_worth" spWorth := by
  refine cal_of D sc__law_worth (fun _ _ _ _ _ _ us hl => match us, hl with | [_], _ => rfl) (fun vs H Q E h => ?_) (fun f cdv A outer s H vs Q E hr h => ?_)
  · obtain ⟨r, rfl, _⟩ := h; rfl
  · obtain ⟨r, rfl, hr1, ret⟩ := h
    refine ⟨_, (pss_cons (ps_if (pt_cmpR op_lt (pv 0) pe_int (nomark _)) (pss_one (ps_ret (pe_tup pa_nil))) pss_nil)
  (pss_one (ps_ret (pe_op op_catA (pe_op hm_op_repTA (pe_tup (pa_cons pe_int pa_nil)) (pv 0)) (pe_tup (pa_cons pe_int pa_nil)))))), ?_⟩
    refine q_when (b := decide (r < 0)) (et_lt (ev_var rfl) ev_c rfl) (fun hb H1 e1 => ?_) (fun hb H1 e1 => ?_)
    · have hb := of_decide_eq_true hb
      refine s_retP (etu_tup ea_nil (by decide)) fun v H2 e2 hv => ret v H2 (e1.trans e2) ?_
      rw [if_pos hb]
      exact hv
    · have hb := of_decide_eq_false hb
      refine s_retP (etu_cat (etu_rep1 (x := vi 0) (etu_tup (ea_cons ev_c ea_nil) (by simp)) (fun H3 e3 => ev_is (w := vi r.toNat) (ev_var rfl) (by show V.int _ = V.int _; congr 1; omega)) (by omega)) (fun H3 e3 => etu_tup (vs := [vi 1]) (ea_cons ev_c ea_nil) (by simp)) (by simp; omega)) fun v H3 e3 hv => ret v H3 (e1.trans e3) ?_
      rw [if_neg hb, ← vz_wpow]
      exact hv
def spFlip : Sp := fun vs H Q _ => ∃ (a : Addr) (n m : Nat) (ms : List Nat), vs = [.ref a] ∧ MatAt H a n m ms ∧ ms.length = n + m ∧ n + m ≤ 1000 ∧ ∀ v H', Ex H H' → (∃ p, v = .ref p ∧ MatAt H' p m n (Ma.flp n m ms)) → Q v H'
theorem ok_law_flip (B : Bt mg) (D : DefOk K mg "_law_flip" s__law_flip) : Cal P w K mg base 1 "_law_flip" spFlip := by
  refine cal_of D sc__law_flip (fun _ _ _ _ _ _ us hl => match us, hl with | [_], _ => rfl) (fun vs H Q E h => ?_) (fun f cdv A outer s H vs Q E hr h => ?_)
  · obtain ⟨a, n, m, ms, rfl, _⟩ := h; rfl
  · obtain ⟨a, n, m, ms, rfl, ⟨q, ha, hq⟩, hl, hz, ret⟩ := h
    refine ⟨_, (pss_cons (ps_asg (pv 0) (pg_tup rfl (pgs_cons (pg_name (i := 1) sc__law_flip.nd rfl (.inr rfl)) (pgs_cons (pg_name (i := 2) sc__law_flip.nd rfl (.inr rfl)) (pgs_cons (pg_name (i := 3) sc__law_flip.nd rfl (.inr rfl)) pgs_nil)))))
  (pss_cons (ps_set (i := 4) sc__law_flip.nd rfl (.inl rfl) (pe_op op_cat (pe_lc (own := [("_law_p", 5)]) (g := gName 5) (tt := tYes) (te := (tOp (rIx K) (tVar 3) (tOp rAddI (tVar 1) (tVar 5)))) rfl sc__law_flip.nd (pi_range1 (by rfl) B.range_ (pa_cons (pv 2) pa_nil)) (blkOk_by (N := N__law_flip) (sc := defScope s__law_flip) (by decide +kernel)) (fun _ _ _ _ _ => (pg_name (i := 5) sc__law_flip.nd rfl (.inl rfl))) (fun _ _ _ _ _ => pts_nil) (fun _ _ _ _ _ => (pe_ix ix_seq (pv 3) (pe_op op_add (pv 1) (pv 5)) (fun _ _ => rfl)))) (pe_lc (own := [("_law_p", 5)]) (g := gName 5) (tt := tYes) (te := (tOp (rIx K) (tVar 3) (tVar 5))) rfl sc__law_flip.nd (pi_range1 (by rfl) B.range_ (pa_cons (pv 1) pa_nil)) (blkOk_by (N := N__law_flip) (sc := defScope s__law_flip) (by decide +kernel)) (fun _ _ _ _ _ => (pg_name (i := 5) sc__law_flip.nd rfl (.inl rfl))) (fun _ _ _ _ _ => pts_nil) (fun _ _ _ _ _ => (pe_ix ix_seq (pv 3) (pv 5) (fun _ _ => rfl))))))
  (pss_one (ps_ret (pe_tup (pa_cons (pv 2) (pa_cons (pv 1) (pa_cons (pe_callTy call_tuple_of (by rfl) B.tuple_ (by decide +kernel) (pa_cons (pe_lc (own := [("_law_mate", 6)]) (g := gName 6) (tt := tYes) (te := (tIf (tTest (tOp rLt (tVar 6) (tVar 1))) (tOp rAddI (tVar 6) (tVar 2)) (tOp rSubI (tVar 6) (tVar 1)))) rfl sc__law_flip.nd (pi_list (pv 4)) (blkOk_by (N := N__law_flip) (sc := defScope s__law_flip) (by decide +kernel)) (fun _ _ _ _ _ => (pg_name (i := 6) sc__law_flip.nd rfl (.inl rfl))) (fun _ _ _ _ _ => pts_nil) (fun _ _ _ _ _ => (pe_ifExp (pt_cmpR op_lt (pv 6) (pv 1) (nomark _)) (pe_op op_add (pv 6) (pv 2)) (pe_op op_sub (pv 6) (pv 1))))) pa_nil)) pa_nil)))))))), ?_⟩
    refine q_un3 (ev_var rfl) ha fun H1 e1 => ?_
    have hq1 := e1 _ _ hq
    refine q_asgL (xs := vl ((List.range m).map (fun t => Ma.g ms (n + t)) ++ (List.range n).map (Ma.g ms))) (el_is (el_cat (el_is (el_lcR1 (n := (m : Int)) (fun _ => true) (fun i => vi (Ma.g ms (n + i))) (ea_cons (ev_var rfl) ea_nil) ⟨by omega, by omega⟩ (fun x => rfl) (fun i H2 e2 hi => et_yes) (fun i H2 e2 hi _ => ev_op (ev_var rfl) (ev_op (ev_var rfl) (ev_var rfl) rv_I0) (rv_ixt (e2 _ _ hq1) (at_vlI (i := n + i) (by omega) (by omega))))) (given_vl m _)) (el_is (el_lcR1 (n := (n : Int)) (fun _ => true) (fun i => vi (Ma.g ms i)) (ea_cons (ev_var rfl) ea_nil) ⟨by omega, by omega⟩ (fun x => rfl) (fun i H2 e2 hi => et_yes) (fun i H2 e2 hi _ => ev_op (ev_var rfl) (ev_var rfl) (rv_ixt (e2 _ _ hq1) (at_vl (by omega))))) (given_vl n _)) (by simp; omega)) (vl_app _ _)) fun pr H2 nr e2 hr2 => ?_
    refine s_retP (ep_mat (n := m) (m := n) (ms := Ma.flp n m ms) (ev_var rfl) (ev_var rfl) (etu_new (eu_tupNL (el_is (el_lcL (fun _ => true) (fun i => vi (Ma.pl n m (Ma.g ((List.range m).map (fun t => Ma.g ms (n + t)) ++ (List.range n).map (Ma.g ms)) i))) (ev_var rfl) (sq_of hr2) (by simp; omega) (fun x => rfl) (fun i x H3 e3 hi => et_yes) (fun i x H3 e3 hi _ => ?_)) ?_)))) fun v H3 e3 hv => ret v H3 ((e1.trans e2).trans e3) hv
    · obtain ⟨_, rfl⟩ := vl_get hi
      generalize Ma.g ((List.range m).map (fun t => Ma.g ms (n + t)) ++ (List.range n).map (Ma.g ms)) i = y
      refine ev_if (b := decide (y < n)) (et_lt (ev_var rfl) (ev_var rfl) (by simp)) (fun z => ?_) (fun z => ?_)
      · have z := of_decide_eq_true z
        refine ev_is (ev_op (ev_var rfl) (ev_var rfl) rv_I0) ?_
        unfold Ma.pl
        rw [if_pos z]
        simp
      · have z := of_decide_eq_false z
        refine ev_is (ev_op (ev_var rfl) (ev_var rfl) rv_I0) ?_
        unfold Ma.pl
        rw [if_neg z]
        congr 1
        omega
    · rw [List.length_map]
      have := given_list ((List.range m).map (fun t => Ma.g ms (n + t)) ++ (List.range n).map (Ma.g ms)) (fun _ => true) (fun x => vi (Ma.pl n m x))
      rw [this, List.filter_eq_self.mpr (fun _ _ => rfl)]
      unfold Ma.flp vl
      rw [List.map_append, List.map_append, List.map_map, List.map_map, List.map_map, List.map_map]
      rfl
def spHook : Sp := fun vs H Q _ => ∃ n i : Nat, vs = [vi n, vi i] ∧ i + 1 < n ∧ n ≤ 400 ∧ ∀ v H', Ex H H' → (∃ p, v = .ref p ∧ MatAt H' p n n (Ma.hkL n i)) → Q v H'
theorem ok_law_hook (B : Bt mg) (D : DefOk K mg "_law_hook" s__law_hook) : Cal P w K mg base 1 "_law_hook" spHook := by
  refine cal_of D sc__law_hook (fun _ _ _ _ _ _ us hl => match us, hl with | [_, _], _ => rfl) (fun vs H Q E h => ?_) (fun f cdv A outer s H vs Q E hr h => ?_)
  · obtain ⟨n, i, rfl, _⟩ := h; rfl
  · obtain ⟨n, i, rfl, hi, hn, ret⟩ := h
    refine ⟨_, (pss_cons (ps_set (i := 2) sc__law_hook.nd rfl (.inl rfl) (pe_op op_cat (pe_listRg rfl (by rfl) B.list_ (prg_2 (by rfl) B.range_ (pv 0) (pe_op op_mulW pe_int (pv 0)))) (pe_listRg rfl (by rfl) B.list_ (prg_1 (by rfl) B.range_ (pv 0)))))
  (pss_cons (ps_asg (pe_tup (pa_cons (pe_op op_add (pv 1) pe_int) (pa_cons (pv 1) (pa_cons (pe_op op_add (pe_op op_add (pv 0) (pv 1)) pe_int) (pa_cons (pe_op op_add (pv 0) (pv 1)) pa_nil))))) (pg_tup rfl (pgs_cons (pg_sub (pv 2) (pv 1) set_list) (pgs_cons (pg_sub (pv 2) (pe_op op_add (pv 1) pe_int) set_list) (pgs_cons (pg_sub (pv 2) (pe_op op_add (pv 0) (pv 1)) set_list) (pgs_cons (pg_sub (pv 2) (pe_op op_add (pe_op op_add (pv 0) (pv 1)) pe_int) set_list) pgs_nil))))))
  (pss_one (ps_ret (pe_tup (pa_cons (pv 0) (pa_cons (pv 0) (pa_cons (pe_callTy call_tuple_of (by rfl) B.tuple_ (by decide +kernel) (pa_cons (pv 2) pa_nil)) pa_nil)))))))), ?_⟩
    have e2n : 2 * n - n = n := by omega
    refine q_asgL (xs := vl ((List.range n).map (n + ·) ++ List.range n)) (el_is (el_cat (el_rg2 (a := n) (b := 2 * n) (ev_var rfl) (ev_mul (a := 2) (b := (n : Int)) ev_c (ev_var rfl) (by decide) (by omega) (by omega)) (by omega) (by omega)) (el_rg1 (n := n) (ev_var rfl) (by omega)) (by simp; omega)) (by rw [e2n, vl_app])) fun pr H1 nr e1 hr1 => ?_
    refine q_asgT (vs := [vi (i + 1), vi i, vi (n + i + 1), vi (n + i)]) (ea_cons (ev_is (ev_op (ev_var rfl) ev_c rv_I0) (by simp)) (ea_cons (ev_var rfl) (ea_cons (ev_is (ev_op (ev_op (ev_var rfl) (ev_var rfl) rv_I0) ev_c rv_I0) (by simp)) (ea_cons (ev_is (ev_op (ev_var rfl) (ev_var rfl) rv_I0) (by simp)) ea_nil)))) rfl (by simp) fun H2 e2 => ?_
    have l0 : ((List.range n).map (n + ·) ++ List.range n).length = n + n := by simp
    refine g_cons (g_setL (l := pr) (j := i) (e2 _ _ hr1) (ev_var rfl) (ev_var rfl) (by rw [List.length_map, l0]; omega) fun H3 e3 => ?_)
    rw [vl_set]
    refine g_cons (g_setL (l := pr) (j := i + 1) upd_same (ev_var rfl) (ev_is (ev_op (ev_var rfl) ev_c rv_I0) (by simp)) (by rw [List.length_map, List.length_set, l0]; omega) fun H4 e4 => ?_)
    rw [vl_set]
    refine g_cons (g_setL (l := pr) (j := n + i) upd_same (ev_var rfl) (ev_is (ev_op (ev_var rfl) (ev_var rfl) rv_I0) (by simp)) (by rw [List.length_map, List.length_set, List.length_set, l0]; omega) fun H5 e5 => ?_)
    rw [vl_set]
    refine g_cons (g_setL (l := pr) (j := n + i + 1) upd_same (ev_var rfl) (ev_is (ev_op (ev_op (ev_var rfl) (ev_var rfl) rv_I0) ev_c rv_I0) (by simp)) (by rw [List.length_map, List.length_set, List.length_set, List.length_set, l0]; omega) fun H6 e6 => ?_)
    rw [vl_set]
    refine g_nil ?_
    refine s_retP (ep_mat (n := n) (m := n) (ms := Ma.hkL n i) (ev_var rfl) (ev_var rfl) (etu_new (eu_tupL (p := pr) (ev_var rfl) upd_same))) fun v H7 e7 hv => ret v H7 (Ex.trans ?_ e7) hv
    exact Ex.mut ((Ex.mut ((Ex.mut ((Ex.mut ((e1.trans e2).trans e3) nr).trans e4) nr).trans e5) nr).trans e6) nr
end
end HM
namespace Ma
section
variable {a b : Nat → Nat} {n k1 k2 q : Nat}
def lSide (k1 q i : Nat) : Nat := if onA k1 q (i + 1) then 0 else 1
def lSpot (a b : Nat → Nat) (n k1 q i : Nat) : Nat := if onA k1 q (i + 1) then pl n k1 (wk a b n k1 q i) else k1 + wk a b n k1 q i
def lNext (a b : Nat → Nat) (n k1 q i : Nat) : Nat := if onA k1 q (i + 1) then pl n k1 (wk a b n k1 q (i + 1)) else k1 + wk a b n k1 q (i + 1)
def lSt (n k1 q : Nat) : Nat := if q < k1 then q else k1 + n + (q - k1)
theorem onA_alt {i : Nat} : onA k1 q (i + 1) ↔ ¬ onA k1 q i := by
  by_cases z : q < k1
  · rw [onA_t z, onA_t z]; omega
  · rw [onA_f z, onA_f z]; omega
theorem lSide_alt {i : Nat} : lSide k1 q (i + 1) = 1 - lSide k1 q i := by
  unfold lSide
  by_cases z : onA k1 q (i + 1)
  · rw [if_pos z, if_neg (fun h => onA_alt.mp h z)]
  · rw [if_neg z, if_pos (onA_alt.mpr z)]
theorem lSpot_zero : lSpot a b n k1 q 0 = lSt n k1 q := by
  unfold lSpot lSt
  rw [wk_zero]
  unfold ss
  by_cases z : q < k1
  · rw [if_pos z, if_pos z, if_pos ((onA_t z).mpr rfl)]
    unfold pl
    rw [if_neg (by omega)]
    omega
  · rw [if_neg z, if_neg z, if_neg (fun h => (onA_f z).mp h rfl)]
    omega
theorem lSide_zero : lSide k1 q 0 = if q < k1 then 0 else 1 := by
  unfold lSide
  by_cases z : q < k1
  · rw [if_pos z, if_pos ((onA_t z).mpr rfl)]
  · rw [if_neg z, if_neg (fun h => (onA_f z).mp h rfl)]
/-- a turn that goes on -/
theorem lNext_in {i : Nat} (h : wk a b n k1 q (i + 1) < n) : lNext a b n k1 q i = k1 + wk a b n k1 q (i + 1) ∧ lSpot a b n k1 q (i + 1) = k1 + wk a b n k1 q (i + 1) := by
  unfold lNext lSpot pl
  constructor
  · by_cases z : onA k1 q (i + 1)
    · rw [if_pos z, if_pos h]; omega
    · rw [if_neg z]
  · by_cases z : onA k1 q (i + 1 + 1)
    · rw [if_pos z, if_pos h]; omega
    · rw [if_neg z]
theorem flip_pl {A al : List Nat} (F : FlipOf n k1 A al) {y : Nat} (h : y < n + k1) : pl n k1 y < k1 + n ∧ g A (pl n k1 y) = pl n k1 (g al y) := by
  unfold pl
  by_cases z : y < n
  · rw [if_pos z]
    refine ⟨by omega, ?_⟩
    rw [Nat.add_comm, F.low y z]
    rfl
  · rw [if_neg z]
    refine ⟨by omega, ?_⟩
    rw [F.top (y - n) (by omega), show n + (y - n) = y by omega]
    rfl
end
end Ma
namespace HM
open PySem PySem.Spec PyProof.Rows L2 Evl
/-- flags by place from k1 on -/
def RepS (k n : Nat) (bs : List Bool) (S : Nat → Prop) : Prop := bs.length = k + n ∧ ∀ y, y < n → (bs.getD (k + y) false = true ↔ S y)
theorem RepS.set {k n : Nat} {bs : List Bool} {S : Nat → Prop} (R : RepS k n bs S) {y : Nat} (hy : y < n) : RepS k n (bs.set (k + y) true) (fun x => S x ∨ x = y) := by
  obtain ⟨hl, h⟩ := R
  refine ⟨by simpa using hl, fun x hx => ?_⟩
  rw [List.getD_eq_getElem?_getD, List.getElem?_set]
  by_cases e : y = x
  · subst e
    rw [if_pos rfl, if_pos (by omega)]
    simp
  · rw [if_neg (by omega), ← List.getD_eq_getElem?_getD, h x hx]
    constructor
    · exact .inl
    · rintro (z | z)
      · exact z
      · exact absurd z.symm e
theorem RepS.iff {k n : Nat} {bs : List Bool} {S T : Nat → Prop} (R : RepS k n bs S) (h : ∀ x, x < n → (S x ↔ T x)) : RepS k n bs T := ⟨R.1, fun x hx => (R.2 x hx).trans (h x hx)⟩
theorem RepS.start (k n : Nat) : RepS k n (List.replicate (k + n) false) (fun _ => False) := ⟨by simp, fun x hx => by simp [List.getD_eq_getElem?_getD, hx]⟩
theorem reps_bool {k n : Nat} {bs : List Bool} {S : Nat → Prop} (R : RepS k n bs S) {x : Nat} (hx : x < n) : (S x ∧ bs.getD (k + x) false = true) ∨ (¬ S x ∧ bs.getD (k + x) false = false) := by
  have h := R.2 x hx
  cases e : bs.getD (k + x) false with
  | true => exact .inl ⟨h.mp e, rfl⟩
  | false => exact .inr ⟨fun z => (by rw [h.mpr z] at e; cases e), rfl⟩
theorem Frm.of {W G : Addr} {H H' : Hp} (e : Ex H H') : Frm W G H H' := fun b o h _ _ => e b o h
theorem Frm.trans {W G : Addr} {H H1 H2 : Hp} (a : Frm W G H H1) (b : Frm W G H1 H2) : Frm W G H H2 := fun c o h n m => b c o (a c o h n m) n m
theorem Frm.ex {W G : Addr} {H0 H H' : Hp} (f : Frm W G H H') (e : Ex H0 H) (n : H0 W = none) (m : H0 G = none) : Ex H0 H' := fun b o h => f b o (e b o h) (ne_of_none h n) (ne_of_none h m)
theorem Frm.w {W G : Addr} {H H' : Hp} {o : HO} (f : Frm W G H H') : Frm W G H (upd H' W o) := fun b u h n m => by rw [upd_ne n]; exact f b u h n m
theorem Frm.g {W G : Addr} {H H' : Hp} {o : HO} (f : Frm W G H H') : Frm W G H (upd H' G o) := fun b u h n m => by rw [upd_ne m]; exact f b u h n m
def MadeAt (H : Hp) (p : Addr) (r n k : Nat) (ms : List Nat) : Prop := ∃ q, H p = some (.tup [vi r, .ref q]) ∧ MatAt H q n k ms
section
variable {K : PySem.W.Frag} {σ : L2.St} {H H' : Hp} {ta tb tc te tx tl : TE} {t u tt : TT} {x y z v : V} {D : Ends} {tu tw tz : TS} {g : TG}
theorem q_parLinks {i j : Nat} {xs ys zs : List V} (h1 : EvL ta σ H xs) (h2 : EvL tb σ H ys) (h3 : EvL tc σ H zs)
    (k : ∀ p1 p2 pl pm H1, H p1 = none → H p2 = none → H pl = none → H pm = none → p1 ≠ pm → p2 ≠ pm → pl ≠ pm → Ex H H1 → H1 p1 = some (.lst xs) → H1 p2 = some (.lst ys) → H1 pl = some (.lst [.ref p1, .ref p2]) → H1 pm = some (.lst zs) → tz D ((σ.set i (some (.ref pl))).set j (some (.ref pm))) H1) :
    tSeq (tPar i j (tCons (tLst (tCons ta (tCons tb tNil))) (tCons tc tNil))) tz D σ H :=
  h1 H (Ex.refl H) _ fun p1 H1 n1 e1 hp1 => h2 H1 e1 _ fun p2 H2 n2 e2 hp2 => ⟨by show 2 ≤ sizeLine; decide, fun pl npl => by
    have e12 := e1.trans e2
    have e3 : Ex H2 (upd H2 pl (.lst [.ref p1, .ref p2])) := Ex.new npl
    refine h3 _ (e12.trans e3) _ fun pm H4 nm e4 hm => ⟨_, _, rfl, ?_⟩
    have nm3 := nm
    exact k p1 p2 pl pm H4 n1 (fresh_back e1 n2) (fresh_back e12 npl) (fresh_back (e12.trans e3) nm) (ne_of_none (e3 _ _ (e2 _ _ hp1)) nm) (ne_of_none (e3 _ _ hp2) nm) (ne_of_none upd_same nm) ((e12.trans e3).trans e4) (e4 _ _ (e3 _ _ (e2 _ _ hp1))) (e4 _ _ (e3 _ _ hp2)) (e4 _ _ upd_same) hm⟩
theorem s_break (h : D.bk σ H) : tBreak D σ H := h
theorem ep_made {r n k : Nat} {ms : List Nat} (ha : Ev ta σ H (vi r)) (hb : EvP tb σ H fun v H' => ∃ p, v = .ref p ∧ MatAt H' p n k ms) : EvP (tTup (tCons ta (tCons tb tNil))) σ H fun v H' => ∃ p, v = .ref p ∧ MadeAt H' p r n k ms := fun H1 e Q q =>
  ha H1 e _ fun H2 e2 => hb H2 (e.trans e2) _ fun w H3 e3 ⟨p, ew, hp⟩ => by
    subst ew
    exact ⟨by show 2 ≤ sizeLine; decide, fun l hl => q _ _ ((e2.trans e3).trans (Ex.new hl)) ⟨l, rfl, p, upd_same, hp.ex (Ex.new hl)⟩⟩
theorem q_unMade {i j r n k : Nat} {ms : List Nat} (h : EvP te σ H fun v H' => ∃ p, v = .ref p ∧ MadeAt H' p r n k ms) (q : ∀ a H1, Ex H H1 → MatAt H1 a n k ms → tz D ((σ.set i (some (vi r))).set j (some (.ref a))) H1) : tSeq (tAsg te (gTup K 2 (gCons (gName i) (gCons (gName j) gNil)))) tz D σ H :=
  h H (Ex.refl H) _ fun v H1 e ⟨p, ev, a, h1, h2⟩ => by
    subst ev
    exact ⟨p, _, rfl, st_of h1, rfl, _, _, rfl, _, _, rfl, rfl, q a H1 e h2⟩
end
section
variable {P : Program} {w : World} {K : PySem.W.Frag} {mg : Str → Option Value} {base : Heap}
def spLawPut : Sp := fun vs H Q _ => ∃ (aO aB : Addr) (n k1 k2 : Nat) (A al bl : List Nat), vs = [.ref aO, .ref aB] ∧ Two H aO aB n k1 k2 A al bl ∧
  ∀ v H', Ex H H' → (∃ p, v = .ref p ∧ MadeAt H' p (Ma.rgs (Ma.g al) (Ma.g bl) n n) k1 k2 (Ma.putM (Ma.g al) (Ma.g bl) n k1 k2)) → Q v H'
theorem ok_law_put (B : Bt mg) (D : DefOk K mg "_law_put" s__law_put) : Cal P w K mg base 1 "_law_put" spLawPut := by
  refine cal_of D sc__law_put (fun _ _ _ _ _ _ us hl => match us, hl with | [_, _], _ => rfl) (fun vs H Q E h => ?_) (fun f cdv A outer s H vs Q E hr h => ?_)
  · obtain ⟨aO, aB, n, k1, k2, Al, al, bl, rfl, _⟩ := h; rfl
  · obtain ⟨aO, aB, n, k1, k2, Al, al, bl, rfl, T, ret⟩ := h
    have T' := T
    obtain ⟨⟨qO, hO, hOq⟩, ⟨qB, hB, hBq⟩, F, ia, ib, lb, sz⟩ := T'
    have lA := F.len
    have hrl := Ma.rgs_le (Ma.g al) (Ma.g bl) n
    refine ⟨_, (pss_cons (ps_asg (pe_tup (pa_cons (pe_ix ix_seq (pv 0) pe_int (fun _ _ => rfl)) (pa_cons (pe_ix ix_seq (pv 0) pe_int (fun _ _ => rfl)) (pa_cons (pe_ix ix_seq (pv 1) pe_int (fun _ _ => rfl)) pa_nil)))) (pg_tup rfl (pgs_cons (pg_name (i := 2) sc__law_put.nd rfl (.inr rfl)) (pgs_cons (pg_name (i := 3) sc__law_put.nd rfl (.inl rfl)) (pgs_cons (pg_name (i := 4) sc__law_put.nd rfl (.inl rfl)) pgs_nil)))))
  (pss_cons (ps_par (i := 5) (j := 6) rfl sc__law_put.nd rfl rfl (by decide) rfl rfl (pa_cons (pe_lst (pa_cons (pe_callTy call_list_of (by rfl) B.list_ (by decide +kernel) (pa_cons (pe_ix ix_seq (pv 0) pe_int (fun _ _ => rfl)) pa_nil)) (pa_cons (pe_lc (own := [("_law_mate", 13)]) (g := gName 13) (tt := tYes) (te := (tOp rAddI (tVar 2) (tVar 13))) rfl sc__law_put.nd (pi_tup (pe_ix ix_seq (pv 1) pe_int (fun _ _ => rfl))) (blkOk_by (N := N__law_put) (sc := defScope s__law_put) (by decide +kernel)) (fun _ _ _ _ _ => (pg_name (i := 13) sc__law_put.nd rfl (.inl rfl))) (fun _ _ _ _ _ => pts_nil) (fun _ _ _ _ _ => (pe_op op_add (pv 2) (pv 13)))) pa_nil))) (pa_cons (pe_op op_rep (pe_lst (pa_cons pe_bl pa_nil)) (pe_op op_add (pv 2) (pv 3))) pa_nil)) rfl)
  (pss_cons (ps_par (i := 7) (j := 8) rfl sc__law_put.nd rfl rfl (by decide) rfl rfl (pa_cons (pe_lst pa_nil) (pa_cons pe_int pa_nil)) rfl)
  (pss_cons (ps_for PassesOwn.never rfl (pi_list (pe_op op_cat (pe_listRg rfl (by rfl) B.list_ (prg_1 (by rfl) B.range_ (pv 2))) (pe_listRg rfl (by rfl) B.list_ (prg_2 (by rfl) B.range_ (pe_op op_add (pv 2) (pv 3)) (pe_op op_add (pe_op op_add (pv 2) (pv 3)) (pv 4)))))) (pg_name (i := 9) sc__law_put.nd rfl (.inl rfl))
  (pss_cons (ps_par (i := 10) (j := 11) rfl sc__law_put.nd rfl rfl (by decide) rfl rfl (pa_cons (pe_callTy call_int1 (by rfl) B.int_ (by decide +kernel) (pa_cons (pe_cmpR op_ge (pv 9) (pe_op op_add (pv 2) (pv 3)) (nomark _)) pa_nil)) (pa_cons (pv 9) pa_nil)) rfl)
  (pss_cons (ps_for PassesOwn.never rfl (pi_range1 (by rfl) B.range_ (pa_cons (pe_op op_add (pe_op op_mulW pe_int (pv 3)) pe_int) pa_nil)) (pg_name (i := 12) sc__law_put.nd rfl (.inl rfl))
  (pss_cons (ps_set (i := 11) sc__law_put.nd rfl (.inl rfl) (pe_ix ix_seq (pe_ix ix_seq (pv 5) (pv 10) (fun _ _ => rfl)) (pe_op op_sub (pv 11) (pe_op op_mulW (pv 2) (pv 10))) (fun _ _ => rfl)))
  (pss_cons (ps_if (PW.pt (pw_or (pt_cmpR op_lt (pv 11) (pv 2) (nomark _)) (pw_or1 (pt_cmpR op_ge (pv 11) (pe_op op_add (pv 2) (pv 3)) (nomark _))))) (pss_one ps_break) pss_nil)
  (pss_cons (ps_asg pe_bl (pg_sub (pv 6) (pv 11) set_list))
  (pss_one (ps_set (i := 10) sc__law_put.nd rfl (.inl rfl) (pe_op op_sub pe_int (pv 10))))))))
  (pss_one (ps_expr (pe_bm PySem.F.plainAttrs_list PySem.F.slot_list_append PySem.F.type_list_append mt_append (pv 7) (pa_cons (pe_ifExp (pt_cmpR op_lt (pv 11) (pv 2) (nomark _)) (pv 11) (pe_op op_sub (pv 11) (pv 3))) pa_nil)))))))
  (pss_cons (ps_for PassesOwn.never rfl (pi_range2 (by rfl) B.range_ (pa_cons (pv 2) (pa_cons (pe_op op_add (pv 2) (pv 3)) pa_nil))) (pg_name (i := 9) sc__law_put.nd rfl (.inl rfl))
  (pss_cons (ps_set (i := 8) sc__law_put.nd rfl (.inl rfl) (pe_op op_add (pv 8) (pe_callTy call_int1 (by rfl) B.int_ (by decide +kernel) (pa_cons (pe_not (pe_ix ix_seq (pv 6) (pv 9) (fun _ _ => rfl))) pa_nil))))
  (pss_cons (ps_set (i := 11) sc__law_put.nd rfl (.inl rfl) (pv 9))
  (pss_one (ps_for PassesOwn.never rfl (pi_range1 (by rfl) B.range_ (pa_cons (pv 3) pa_nil)) (pg_name (i := 12) sc__law_put.nd rfl (.inl rfl))
  (pss_one (ps_if (pt_not (pt_val (pe_ix ix_seq (pv 6) (pv 11) (fun _ _ => rfl)))) (pss_cons (ps_asg pe_bl (pg_sub (pv 6) (pv 11) set_list))
  (pss_cons (ps_set (i := 11) sc__law_put.nd rfl (.inl rfl) (pe_ix ix_seq (pe_ix ix_seq (pv 5) pe_int (fun _ _ => rfl)) (pv 11) (fun _ _ => rfl)))
  (pss_cons (ps_asg pe_bl (pg_sub (pv 6) (pv 11) set_list))
  (pss_one (ps_set (i := 11) sc__law_put.nd rfl (.inl rfl) (pe_ix ix_seq (pe_ix ix_seq (pv 5) pe_int (fun _ _ => rfl)) (pe_op op_sub (pv 11) (pv 2)) (fun _ _ => rfl))))))) pss_nil)))))))
  (pss_one (ps_ret (pe_tup (pa_cons (pv 8) (pa_cons (pe_tup (pa_cons (pv 2) (pa_cons (pv 4) (pa_cons (pe_callTy call_tuple_of (by rfl) B.tuple_ (by decide +kernel) (pa_cons (pv 7) pa_nil)) pa_nil)))) pa_nil)))))))))), ?_⟩
    refine q_asgT (vs := [vi k1, vi n, vi k2]) (ea_cons (ev_op (ev_var rfl) ev_c (rv_ixt hO (atI_nat (j := 0) rfl))) (ea_cons (ev_op (ev_var rfl) ev_c (rv_ixt hO (atI_nat (j := 1) rfl))) (ea_cons (ev_op (ev_var rfl) ev_c (rv_ixt hB (atI_nat (j := 1) rfl))) ea_nil))) rfl (by simp) fun H1 e1 => ?_
    refine g_cons (g_cons (g_cons (g_nil ?_)))
    refine q_parLinks (i := 5) (j := 6) (xs := vl Al) (ys := vl (bl.map (k1 + ·))) (zs := vb (List.replicate (k1 + n) false))
      (el_listTu (fun H2 e2 Q q => (etu_of (p := qO) (σ := [some (.ref aO), some (.ref aB), some (vi k1), some (vi n), some (vi k2), none, none, none, none, none, none, none, none, none]) (ev_op (ev_var (i := 0) rfl) ev_c (rv_ixt (e1 _ _ hO) (atI_nat (j := 2) rfl))) (e1 _ _ hOq)) H2 e2 Q q))
      (el_is (el_lcTu (xs := vl bl) (fun _ => true) (fun i => vi (k1 + Ma.g bl i)) (etu_of (p := qB) (ev_op (ev_var rfl) ev_c (rv_ixt (e1 _ _ hB) (atI_nat (j := 2) rfl))) (e1 _ _ hBq)) (by rw [List.length_map]; omega) (fun x => rfl) (fun i x H2 e2 hx => et_yes) (fun i x H2 e2 hx _ => ?_)) ?_)
      (el_is (el_rep1 (k := k1 + n) (x := .bl false) (el_lst (ea_cons ev_c ea_nil) (by simp)) (ev_is (ev_op (ev_var rfl) (ev_var rfl) rv_I0) (by simp)) (by omega)) (by unfold vb; rw [List.map_replicate])) ?_
    · obtain ⟨_, rfl⟩ := vl_get hx
      exact ev_is (ev_op (ev_var rfl) (ev_var rfl) rv_I0) (by simp)
    · rw [List.length_map]
      have := given_list bl (fun _ => true) (fun x => vi (k1 + x))
      rw [this, List.filter_eq_self.mpr (fun _ _ => rfl)]
      unfold vl
      rw [List.map_map]
      rfl
    intro p1 p2 pl pm H2 n1 n2 npl nm d1 d2 d3 e2 hp1 hp2 hpl hm
    refine q_parLV (el_lst ea_nil (by simp)) ev_c fun pk H3 nk e3 hk => ?_
    have d4 : p1 ≠ pk := ne_of_none hp1 nk
    have d5 : p2 ≠ pk := ne_of_none hp2 nk
    have d6 : pl ≠ pk := ne_of_none hpl nk
    have d7 : pm ≠ pk := ne_of_none hm nk
    have e12 := e1.trans e2
    have e123 := e12.trans e3
    have nm0 := fresh_back e1 nm
    have nk0 := fresh_back e12 nk
    have hp1 := e3 _ _ hp1
    have hp2 := e3 _ _ hp2
    have hpl := e3 _ _ hpl
    -- what the links are, wherever all else is as it was
    have link : ∀ H', Frm pm pk H3 H' → H' p1 = some (.lst (vl Al)) ∧ H' p2 = some (.lst (vl (bl.map (k1 + ·)))) ∧ H' pl = some (.lst [.ref p1, .ref p2]) := fun H' f => ⟨f _ _ hp1 d1 d4, f _ _ hp2 d2 d5, f _ _ hpl d3 d6⟩
    have gB : ∀ y, y < n + k2 → Ma.g (bl.map (k1 + ·)) y = k1 + Ma.g bl y := fun y hy => by
      have h1 : y < bl.length := by omega
      unfold Ma.g
      rw [List.getD_eq_getElem?_getD, List.getD_eq_getElem?_getD, List.getElem?_map, List.getElem?_eq_getElem h1]
      rfl
    refine q_forNLn (xs := vl (List.range k1 ++ (List.range k2).map (k1 + n + ·))) (el_is (el_cat (el_rg1 (n := k1) (ev_var rfl) (by omega)) (el_is (el_rg2 (a := k1 + n) (b := k1 + n + k2) (ev_is (ev_op (ev_var rfl) (ev_var rfl) rv_I0) (by simp)) (ev_is (ev_op (ev_op (ev_var rfl) (ev_var rfl) rv_I0) (ev_var rfl) rv_I0) (by simp)) (by omega) (by omega)) (by rw [show k1 + n + k2 - (k1 + n) = k2 by omega])) (by simp; omega)) (by rw [vl_app]))
      (fun ps q σ' H' => Frm pm pk H3 H' ∧ ps ≠ pm ∧ ps ≠ pk ∧ H' ps = some (.lst (vl (List.range k1 ++ (List.range k2).map (k1 + n + ·)))) ∧ (∃ bs, H' pm = some (.lst (vb bs)) ∧ RepS k1 n bs (Ma.Vp (Ma.g al) (Ma.g bl) n k1 q)) ∧ H' pk = some (.lst (vl ((Ma.putM (Ma.g al) (Ma.g bl) n k1 k2).take q))) ∧
        ∃ v9 v10 v11 v12, σ' = [some (.ref aO), some (.ref aB), some (vi k1), some (vi n), some (vi k2), some (.ref pl), some (.ref pm), some (.ref pk), some (vi 0), v9, v10, v11, v12, none])
      (fun ps H4 ns e4 hs => ⟨.of e4, (ne_of_none (e3 _ _ hm) ns).symm, (ne_of_none hk ns).symm, hs, ⟨_, e4 _ _ (e3 _ _ hm), (RepS.start k1 n).iff fun x _ => ⟨fun h => h.elim, fun h => Ma.vp_zero h⟩⟩, e4 _ _ hk, none, none, none, none, rfl⟩)
      (fun ps q σ' H' _ p => sq_of p.2.2.2.1) ?_ ?_
    · rintro ps q x σ' H' hx ⟨fr, ns1, ns2, hs, ⟨bs, hbs, R⟩, hmk, v9, v10, v11, v12, rfl⟩
      obtain ⟨hq0, rfl⟩ := vl_get hx
      have hq : q < k1 + k2 := by simpa using hq0
      have est : Ma.g (List.range k1 ++ (List.range k2).map (k1 + n + ·)) q = Ma.lSt n k1 q := by
        unfold Ma.lSt
        by_cases z : q < k1
        · rw [if_pos z, Ma.g_app1 (by simpa using z), Ma.g_range z]
        · rw [if_neg z]
          have := Ma.g_app2 (l := List.range k1) (r := (List.range k2).map (k1 + n + ·)) (i := q - k1)
          rw [List.length_range, show k1 + (q - k1) = q by omega, Ma.g_map (by omega)] at this
          exact this
      rw [est]
      have wfk := (Ma.wk_ok ia ib (k1 := k1) (k2 := k2) hq).1
      have wp := Ma.wk_pos ia ib (k1 := k1) (k2 := k2) hq
      have out := Ma.wk_out ia ib (k1 := k1) (k2 := k2) hq
      have endl := Ma.wk_end_lt ia ib (k1 := k1) (k2 := k2) hq
      have stv : decide ((k1 : Int) + (n : Int) ≤ ((Ma.lSt n k1 q : Nat) : Int)) = !decide (q < k1) := by
        unfold Ma.lSt
        by_cases z : q < k1
        · rw [if_pos z, decide_eq_true z]
          exact decide_eq_false (by omega)
        · rw [if_neg z, decide_eq_false z]
          exact decide_eq_true (by omega)
      refine q_par (x := vi (Ma.lSide k1 q 0)) (y := vi (Ma.lSpot (Ma.g al) (Ma.g bl) n k1 q 0)) (ea_cons (ev_is (ev_intB (b := !decide (q < k1)) (ev_is (ev_op (ev_var rfl) (ev_op (ev_var rfl) (ev_var rfl) rv_I0) rv_I0) (by rw [stv]))) ?_) (ea_cons (ev_is (ev_var rfl) (by rw [Ma.lSpot_zero])) ea_nil)) fun H4 e4 => ?_
      · rw [Ma.lSide_zero]
        by_cases z : q < k1
        · simp [z]
        · simp [z]
      have fr4 : Frm pm pk H3 H4 := fr.trans (.of e4)
      refine q_forR1 (n := ((2 * n + 2 : Nat) : Int)) (ea_cons (ev_is (ev_op (ev_mul (a := 2) (b := (n : Int)) ev_c (ev_var rfl) (by decide) (by omega) rfl) ev_c rv_I0) (by simp)) ea_nil) ⟨by omega, by omega⟩
        (fun i σ' H' => i < Ma.wf (Ma.g al) (Ma.g bl) n k1 q ∧ Frm pm pk H3 H' ∧ H' ps = some (.lst (vl (List.range k1 ++ (List.range k2).map (k1 + n + ·)))) ∧ (∃ bs, H' pm = some (.lst (vb bs)) ∧ RepS k1 n bs (fun x => Ma.Vp (Ma.g al) (Ma.g bl) n k1 q x ∨ ∃ j, 1 ≤ j ∧ j ≤ i ∧ Ma.wk (Ma.g al) (Ma.g bl) n k1 q j = x)) ∧ H' pk = some (.lst (vl ((Ma.putM (Ma.g al) (Ma.g bl) n k1 k2).take q))) ∧
          ∃ v12, σ' = [some (.ref aO), some (.ref aB), some (vi k1), some (vi n), some (vi k2), some (.ref pl), some (.ref pm), some (.ref pk), some (vi 0), some (vi (Ma.lSt n k1 q)), some (vi (Ma.lSide k1 q i)), some (vi (Ma.lSpot (Ma.g al) (Ma.g bl) n k1 q i)), v12, none])
        (fun H5 e5 => ⟨wp, fr4.trans (.of e5), e5 _ _ (e4 _ _ hs), ⟨bs, e5 _ _ (e4 _ _ hbs), R.iff fun x _ => ⟨.inl, fun h => h.elim id fun ⟨j, h1, h2, _⟩ => by omega⟩⟩, e5 _ _ (e4 _ _ hmk), v12, rfl⟩) ?_ ?_
      · rintro i σ' H' hi ⟨hF, fr, hs, ⟨bs, hbs, R⟩, hmk, v12, rfl⟩
        obtain ⟨l1, l2, l3⟩ := link H' fr
        have nxt := Ma.wk_succ (a := Ma.g al) (b := Ma.g bl) (n := n) (k1 := k1) q i
        have wlt := Ma.wk_lt ia ib (k1 := k1) (k2 := k2) (i := i) hq hF
        refine q_asg (v := vi (Ma.lNext (Ma.g al) (Ma.g bl) n k1 q i)) ?_ fun H5 e5 => ?_
        · by_cases o : Ma.onA k1 q (i + 1)
          · rw [if_pos o] at wlt
            obtain ⟨b1, b2⟩ := Ma.flip_pl F wlt
            refine ev_is (ev_op (ev_op (ev_var rfl) (ev_is (w := vi 0) (ev_var rfl) (by unfold Ma.lSide; rw [if_pos o])) (rv_ixl (v := .ref p1) l3 (atI_nat (j := 0) rfl))) (ev_op (ev_is (w := vi (Ma.pl n k1 (Ma.wk (Ma.g al) (Ma.g bl) n k1 q i))) (ev_var rfl) (by unfold Ma.lSpot; rw [if_pos o])) (ev_mul (a := (k1 : Int)) (b := 0) (ev_var rfl) (ev_is (w := vi 0) (ev_var rfl) (by unfold Ma.lSide; rw [if_pos o])) (by omega) (by decide) rfl) rv_I0) (rv_ixl l1 (at_vlI (i := Ma.pl n k1 (Ma.wk (Ma.g al) (Ma.g bl) n k1 q i)) (by omega) (by omega)))) ?_
            unfold Ma.lNext
            rw [b2, if_pos o, nxt, if_pos o]
          · rw [if_neg o] at wlt
            refine ev_is (ev_op (ev_op (ev_var rfl) (ev_is (w := vi 1) (ev_var rfl) (by unfold Ma.lSide; rw [if_neg o])) (rv_ixl (v := .ref p2) l3 (atI_nat (j := 1) rfl))) (ev_op (ev_is (w := vi (k1 + Ma.wk (Ma.g al) (Ma.g bl) n k1 q i)) (ev_var rfl) (by unfold Ma.lSpot; rw [if_neg o])) (ev_mul (a := (k1 : Int)) (b := 1) (ev_var rfl) (ev_is (w := vi 1) (ev_var rfl) (by unfold Ma.lSide; rw [if_neg o])) (by omega) (by decide) rfl) rv_I0) (rv_ixl l2 (at_vlI (i := Ma.wk (Ma.g al) (Ma.g bl) n k1 q i) (by omega) (by rw [List.length_map]; omega)))) ?_
            unfold Ma.lNext
            rw [gB _ wlt, if_neg o, nxt, if_neg o]
        by_cases hz : i + 1 < Ma.wf (Ma.g al) (Ma.g bl) n k1 q
        · have win := Ma.wk_in ia ib (k1 := k1) (k2 := k2) hq (by omega) hz
          obtain ⟨x1, x2⟩ := Ma.lNext_in win
          rw [x1]
          refine q_ifF (et_orF (et_lt (ev_var rfl) (ev_var rfl) (decide_eq_false (by omega))) (et_ge (ev_var rfl) (ev_op (ev_var rfl) (ev_var rfl) rv_I0) (decide_eq_false (by omega)))) fun H6 e6 => ?_
          refine q_setL (l := pm) (xs := vb bs) (j := k1 + Ma.wk (Ma.g al) (Ma.g bl) n k1 q (i + 1)) (e6 _ _ (e5 _ _ hbs)) ev_c (ev_var rfl) (ev_var rfl) (by rw [List.length_map, R.1]; omega) fun H7 e7 => ?_
          refine s_asg (v := vi (Ma.lSide k1 q (i + 1))) (ev_is (ev_op ev_c (ev_var rfl) rv_I0) ?_) fun H8 e8 => ?_
          · rw [Ma.lSide_alt]
            have : Ma.lSide k1 q i ≤ 1 := by unfold Ma.lSide; split <;> omega
            show V.int _ = V.int _
            congr 1
            omega
          have e57 := (e5.trans e6).trans e7
          refine ⟨hz, ((fr.trans (.of e57)).w).trans (.of e8), e8 _ _ (by rw [upd_ne ns1]; exact e57 _ _ hs), ⟨_, e8 _ _ (by rw [upd_same, vb_set]), (R.set win).iff fun x _ => ?_⟩, e8 _ _ (by rw [upd_ne d7.symm]; exact e57 _ _ hmk), _, by rw [x2]; rfl⟩
          constructor
          · rintro ((h | ⟨j, h1, h2, h3⟩) | h)
            · exact .inl h
            · exact .inr ⟨j, h1, by omega, h3⟩
            · exact .inr ⟨i + 1, by omega, by omega, h.symm⟩
          · rintro (h | ⟨j, h1, h2, h3⟩)
            · exact .inl (.inl h)
            · by_cases z : j = i + 1
              · subst z; exact .inr h3.symm
              · exact .inl (.inr ⟨j, h1, by omega, h3⟩)
        · have eF : i + 1 = Ma.wf (Ma.g al) (Ma.g bl) n k1 q := by omega
          rw [← eF] at out endl
          -- the value that is written down
          have wev : Ma.we (Ma.g al) (Ma.g bl) n k1 q = if Ma.lNext (Ma.g al) (Ma.g bl) n k1 q i < k1 then Ma.lNext (Ma.g al) (Ma.g bl) n k1 q i else Ma.lNext (Ma.g al) (Ma.g bl) n k1 q i - n := by
            unfold Ma.we Ma.lNext
            rw [← eF]
            by_cases o : Ma.onA k1 q (i + 1)
            · rw [if_pos o] at endl
              have epl : Ma.pl n k1 (Ma.wk (Ma.g al) (Ma.g bl) n k1 q (i + 1)) = Ma.wk (Ma.g al) (Ma.g bl) n k1 q (i + 1) - n := by
                unfold Ma.pl
                rw [if_neg (by omega)]
              simp only [if_pos o, epl]
              rw [if_pos (by omega)]
            · simp only [if_neg o]
              rw [if_neg (by omega)]
              omega
          have big : Ma.lNext (Ma.g al) (Ma.g bl) n k1 q i < k1 ∨ k1 + n ≤ Ma.lNext (Ma.g al) (Ma.g bl) n k1 q i := by
            unfold Ma.lNext
            by_cases o : Ma.onA k1 q (i + 1)
            · rw [if_pos o] at endl
              rw [if_pos o]
              unfold Ma.pl
              rw [if_neg (by omega)]
              omega
            · rw [if_neg o]
              omega
          generalize Ma.lNext (Ma.g al) (Ma.g bl) n k1 q i = y at wev big ⊢
          refine q_when (b := true) (et_orB (a := decide (y < k1)) (b := true) (et_lt (ev_var rfl) (ev_var rfl) (by simp)) (fun z => et_ge (ev_var rfl) (ev_op (ev_var rfl) (ev_var rfl) rv_I0) (decide_eq_true (by have := of_decide_eq_false z; omega))) (by simp)) (fun _ H6 e6 => ?_) (fun z => by cases z)
          refine s_break ?_
          have e56 := e5.trans e6
          refine s_app (l := pk) (xs := vl ((Ma.putM (Ma.g al) (Ma.g bl) n k1 k2).take q)) (v := vi (Ma.we (Ma.g al) (Ma.g bl) n k1 q)) (e56 _ _ hmk) (ev_var rfl) (ev_if (b := decide (y < k1)) (et_lt (ev_var rfl) (ev_var rfl) (by simp)) (fun z => ?_) (fun z => ?_)) (by simp; omega) fun H7 e7 => ?_
          · have z := of_decide_eq_true z
            rw [wev, if_pos z]
            exact ev_var rfl
          · have z := of_decide_eq_false z
            rw [wev, if_neg z]
            exact ev_is (ev_op (ev_var rfl) (ev_var rfl) rv_I0) (by show V.int _ = V.int _; congr 1; omega)
          have e57 := e56.trans e7
          refine ⟨(fr.trans (.of e57)).g, ns1, ns2, by rw [upd_ne ns2]; exact e57 _ _ hs, ⟨bs, by rw [upd_ne d7]; exact e57 _ _ hbs, R.iff fun x _ => ?_⟩, by rw [upd_same, putM_take hq, vl_one], _, _, _, _, rfl⟩
          rw [Ma.vp_succ]
          constructor
          · rintro (h | ⟨j, h1, h2, h3⟩)
            · exact .inl h
            · exact .inr ⟨j, h1, by omega, h3⟩
          · rintro (h | ⟨j, h1, h2, h3⟩)
            · exact .inl h
            · exact .inr ⟨j, h1, by omega, h3⟩
      · rintro σ' H' ⟨hF, _⟩
        exact absurd hF (by omega)
    · rintro ps σ' H' ⟨fr, ns1, ns2, hs, ⟨bs, hbs, R⟩, hmk, v9, v10, v11, v12, rfl⟩
      have elen : (vl (List.range k1 ++ (List.range k2).map (k1 + n + ·))).length = k1 + k2 := by simp
      rw [elen] at R hmk
      have et : (Ma.putM (Ma.g al) (Ma.g bl) n k1 k2).take (k1 + k2) = Ma.putM (Ma.g al) (Ma.g bl) n k1 k2 := List.take_of_length_le (by rw [Ma.putM_len]; exact Nat.le_refl _)
      rw [et] at hmk
      have R0 : RepS k1 n bs (Ma.S0 (Ma.g al) (Ma.g bl) n) := R.iff fun x hx => Ma.vp_iff ia ib hx
      refine q_forR2 (lo := (k1 : Int)) (n := ((k1 + n : Nat) : Int)) (ea_cons (ev_var rfl) (ea_cons (ev_is (ev_op (ev_var rfl) (ev_var rfl) rv_I0) (by simp)) ea_nil)) ⟨by omega, by omega, by omega, by omega⟩
        (fun s σ' H' => Frm pm pk H3 H' ∧ (∃ bs, H' pm = some (.lst (vb bs)) ∧ RepS k1 n bs (Ma.Sat (Ma.g al) (Ma.g bl) n s)) ∧ H' pk = some (.lst (vl (Ma.putM (Ma.g al) (Ma.g bl) n k1 k2))) ∧
          ∃ v9 v10 v11 v12, σ' = [some (.ref aO), some (.ref aB), some (vi k1), some (vi n), some (vi k2), some (.ref pl), some (.ref pm), some (.ref pk), some (vi (Ma.rgs (Ma.g al) (Ma.g bl) n s)), v9, v10, v11, v12, none])
        (fun H4 e4 => ⟨fr.trans (.of e4), ⟨bs, e4 _ _ hbs, R0.iff fun x _ => ⟨.inl, fun h => h.elim id fun ⟨t, h1, _⟩ => by omega⟩⟩, e4 _ _ hmk, v9, v10, v11, v12, rfl⟩) ?_ ?_
      · rintro s' σ' H' hs0 ⟨fr, ⟨bs, hbs, R⟩, hmk, v9, v10, v11, v12, rfl⟩
        have hs' : s' < n := by omega
        have est : V.int ((k1 : Int) + (s' : Int)) = vi (k1 + s') := by simp
        rw [est]
        have hget : ∀ {H5 : Hp} {σ2 : L2.St} {bs : List Bool} {S : Nat → Prop} {y : Nat}, σ2[6]? = some (some (.ref pm)) → H5 pm = some (.lst (vb bs)) → RepS k1 n bs S → y < n → ∀ {c : Nat}, σ2[c]? = some (some (vi (k1 + y))) → Ev (tOp (rIx K) (tVar 6) (tVar c)) σ2 H5 (.bl (bs.getD (k1 + y) false)) := fun h6 hb R hy c hc => ev_op (ev_var h6) (ev_var hc) (rv_ixl hb (at_vbI rfl (by rw [R.1]; omega)))
        rcases reps_bool R hs' with ⟨hS, hb⟩ | ⟨hS, hb⟩
        · refine q_asg (v := vi (Ma.rgs (Ma.g al) (Ma.g bl) n (s' + 1))) (ev_is (ev_op (ev_var rfl) (ev_intB (ev_notV (hget rfl hbs R hs' rfl))) rv_I0) ?_) fun H4 e4 => ?_
          · rw [hb, Ma.rgs_yes hS]; simp
          refine q_asg (v := vi (k1 + s')) (ev_var rfl) fun H5 e5 => ?_
          have e45 := e4.trans e5
          refine s_forR1 (n := (n : Int)) (ea_cons (ev_var rfl) ea_nil) ⟨by omega, by omega⟩
            (fun j σ' H' => Frm pm pk H3 H' ∧ H' pm = some (.lst (vb bs)) ∧ H' pk = some (.lst (vl (Ma.putM (Ma.g al) (Ma.g bl) n k1 k2))) ∧
              ∃ v12, σ' = [some (.ref aO), some (.ref aB), some (vi k1), some (vi n), some (vi k2), some (.ref pl), some (.ref pm), some (.ref pk), some (vi (Ma.rgs (Ma.g al) (Ma.g bl) n (s' + 1))), some (vi (k1 + s')), v10, some (vi (k1 + s')), v12, none])
            (fun H6 e6 => ⟨fr.trans (.of (e45.trans e6)), e6 _ _ (e45 _ _ hbs), e6 _ _ (e45 _ _ hmk), v12, rfl⟩) ?_ ?_
          · rintro j σ' H' hj ⟨fr, hbs, hmk, v12, rfl⟩
            refine s_ifF (et_is (et_not (et_B (hget rfl hbs R hs' rfl))) (by rw [hb]; rfl)) fun H6 e6 => ?_
            exact ⟨fr.trans (.of e6), e6 _ _ hbs, e6 _ _ hmk, _, rfl⟩
          · rintro σ' H' ⟨fr, hbs, hmk, v12, rfl⟩
            refine ⟨fr, ⟨bs, hbs, R.iff fun x hx => ⟨fun h => ?_, fun h => ?_⟩⟩, hmk, _, _, _, _, rfl⟩
            · rcases h with h | ⟨t, h1, h2, h3⟩
              · exact .inl h
              · exact .inr ⟨t, by omega, h2, h3⟩
            · rcases h with h | ⟨t, h1, h2, h3⟩
              · exact .inl h
              · by_cases z : t = s'
                · subst z
                  exact (hS.resolve_left h2).elim fun u ⟨u1, u2, u3⟩ => .inr ⟨u, u1, u2, u3.trans h3⟩
                · exact .inr ⟨t, by omega, h2, h3⟩
        · refine q_asg (v := vi (Ma.rgs (Ma.g al) (Ma.g bl) n (s' + 1))) (ev_is (ev_op (ev_var rfl) (ev_intB (ev_notV (hget rfl hbs R hs' rfl))) rv_I0) ?_) fun H4 e4 => ?_
          · rw [hb, Ma.rgs_no hS]; simp
          refine q_asg (v := vi (k1 + s')) (ev_var rfl) fun H5 e5 => ?_
          have e45 := e4.trans e5
          refine s_forR1 (n := (n : Int)) (ea_cons (ev_var rfl) ea_nil) ⟨by omega, by omega⟩
            (fun j σ' H' => Frm pm pk H3 H' ∧ (∃ i bs, i ≤ j ∧ Ma.Cy (Ma.g al) (Ma.g bl) n s' i ∧ H' pm = some (.lst (vb bs)) ∧ RepS k1 n bs (fun x => Ma.Sat (Ma.g al) (Ma.g bl) n s' x ∨ Ma.cyV (Ma.g al) (Ma.g bl) s' i x) ∧
                (i = j ∨ (Ma.Sat (Ma.g al) (Ma.g bl) n s' (Ma.zo (Ma.g al) (Ma.g bl) s' i) ∨ Ma.cyV (Ma.g al) (Ma.g bl) s' i (Ma.zo (Ma.g al) (Ma.g bl) s' i))) ∧
              ∃ v12, σ' = [some (.ref aO), some (.ref aB), some (vi k1), some (vi n), some (vi k2), some (.ref pl), some (.ref pm), some (.ref pk), some (vi (Ma.rgs (Ma.g al) (Ma.g bl) n (s' + 1))), some (vi (k1 + s')), v10, some (vi (k1 + Ma.zo (Ma.g al) (Ma.g bl) s' i)), v12, none]) ∧ H' pk = some (.lst (vl (Ma.putM (Ma.g al) (Ma.g bl) n k1 k2))))
            (fun H6 e6 => ⟨fr.trans (.of (e45.trans e6)), ⟨0, bs, Nat.le_refl _, fun j h => by omega, e6 _ _ (e45 _ _ hbs), R.iff fun x _ => ⟨.inl, fun h => h.elim id fun ⟨j, h1, _⟩ => by omega⟩, .inl rfl, v12, rfl⟩, e6 _ _ (e45 _ _ hmk)⟩) ?_ ?_
          · rintro j σ' H' hj ⟨fr, ⟨i, bs, hij, cy, hbs, R, hd, v12, rfl⟩, hmk⟩
            have zf := Ma.zo_free ia ib (by omega) (by omega) hs' hS i
            have za := Ma.sat_a ia ib (by omega) (by omega) zf.1 zf.2
            have zb := Ma.sat_b ia ib (by omega) (by omega) za.1 za.2
            rcases reps_bool R zf.1 with ⟨hY, hb2⟩ | ⟨hY, hb2⟩
            · refine s_ifF (et_is (et_not (et_B (hget rfl hbs R zf.1 rfl))) (by rw [hb2]; rfl)) fun H6 e6 => ?_
              exact ⟨fr.trans (.of e6), ⟨i, bs, by omega, cy, e6 _ _ hbs, R, .inr hY, _, rfl⟩, e6 _ _ hmk⟩
            · have eij : i = j := hd.resolve_right hY
              refine s_when (b := true) (et_is (et_not (et_B (hget rfl hbs R zf.1 rfl))) (by rw [hb2]; rfl)) (fun _ H6 e6 => ?_) (fun z => by cases z)
              have cy' : Ma.Cy (Ma.g al) (Ma.g bl) n s' (i + 1) := fun j hj => by
                by_cases z : j = i
                · subst z; exact hY
                · exact cy j (by omega)
              refine q_setL (l := pm) (xs := vb bs) (j := k1 + Ma.zo (Ma.g al) (Ma.g bl) s' i) (v := .bl true) (e6 _ _ hbs) ev_c (ev_var rfl) (ev_var rfl) (by rw [List.length_map, R.1]; omega) fun H7 e7 => ?_
              have f7 : Frm pm pk H3 (upd H7 pm (.lst ((vb bs).set (k1 + Ma.zo (Ma.g al) (Ma.g bl) s' i) (.bl true)))) := (fr.trans (.of (e6.trans e7))).w
              obtain ⟨l1, l2, l3⟩ := link _ f7
              refine q_asg (v := vi (k1 + Ma.g al (Ma.zo (Ma.g al) (Ma.g bl) s' i))) (ev_is (ev_op (ev_op (ev_var rfl) ev_c (rv_ixl (v := .ref p1) l3 (atI_nat (j := 0) rfl))) (ev_var rfl) (rv_ixl l1 (at_vl (i := k1 + Ma.zo (Ma.g al) (Ma.g bl) s' i) (by omega)))) ?_) fun H8 e8 => ?_
              · rw [F.low _ zf.1]
                unfold Ma.pl
                rw [if_pos za.1]
                congr 1
                omega
              have hp8 : H8 pm = some (.lst (vb (bs.set (k1 + Ma.zo (Ma.g al) (Ma.g bl) s' i) true))) := e8 _ _ (by rw [upd_same, vb_set])
              have R8 := R.set zf.1
              refine q_setL (l := pm) (j := k1 + Ma.g al (Ma.zo (Ma.g al) (Ma.g bl) s' i)) (v := .bl true) hp8 ev_c (ev_var rfl) (ev_var rfl) (by rw [List.length_map, R8.1]; have := za.1; omega) fun H9 e9 => ?_
              have f9 : Frm pm pk H3 (upd H9 pm (.lst ((vb (bs.set (k1 + Ma.zo (Ma.g al) (Ma.g bl) s' i) true)).set (k1 + Ma.g al (Ma.zo (Ma.g al) (Ma.g bl) s' i)) (.bl true)))) := ((f7.trans (.of e8)).trans (.of e9)).w
              obtain ⟨l1, l2, l3⟩ := link _ f9
              have za1 := za.1
              refine s_asg (v := vi (k1 + Ma.zo (Ma.g al) (Ma.g bl) s' (i + 1))) (ev_is (ev_op (ev_op (ev_var rfl) ev_c (rv_ixl (v := .ref p2) l3 (atI_nat (j := 1) rfl))) (ev_op (ev_var rfl) (ev_var rfl) rv_I0) (rv_ixl l2 (at_vlI (i := Ma.g al (Ma.zo (Ma.g al) (Ma.g bl) s' i)) (by omega) (by rw [List.length_map]; omega)))) ?_) fun H10 e10 => ?_
              · rw [gB _ (by omega)]
                rfl
              refine ⟨f9.trans (.of e10), ⟨i + 1, _, by omega, cy', e10 _ _ (by rw [upd_same, vb_set]), (R8.set za.1).iff fun x _ => ?_, .inl (by omega), _, rfl⟩, e10 _ _ (by rw [upd_ne d7.symm]; exact e9 _ _ (e8 _ _ (by rw [upd_ne d7.symm]; exact e7 _ _ (e6 _ _ hmk))))⟩
              constructor
              · rintro ((( h | ⟨j, h1, h2⟩) | h) | h)
                · exact .inl h
                · exact .inr ⟨j, by omega, h2⟩
                · exact .inr ⟨i, by omega, .inl h⟩
                · exact .inr ⟨i, by omega, .inr h⟩
              · rintro (h | ⟨j, h1, h2⟩)
                · exact .inl (.inl (.inl h))
                · by_cases z : j = i
                  · subst z
                    rcases h2 with h2 | h2
                    · exact .inl (.inr h2)
                    · exact .inr h2
                  · exact .inl (.inl (.inr ⟨j, by omega, h2⟩))
          · rintro σ' H' ⟨fr, ⟨i, bs, hij, cy, hbs, R, hd, v12, rfl⟩, hmk⟩
            rw [show ((n : Int)).toNat = n by omega] at hd hij
            have zf := Ma.zo_free ia ib (by omega) (by omega) hs' hS i
            have hY : Ma.Sat (Ma.g al) (Ma.g bl) n s' (Ma.zo (Ma.g al) (Ma.g bl) s' i) ∨ Ma.cyV (Ma.g al) (Ma.g bl) s' i (Ma.zo (Ma.g al) (Ma.g bl) s' i) := by
              rcases hd with e | h
              · apply Classical.byContradiction
                intro hY
                have cy' : Ma.Cy (Ma.g al) (Ma.g bl) n s' (i + 1) := fun j hj => by
                  by_cases z : j = i
                  · subst z; exact hY
                  · exact cy j (by omega)
                have := Ma.cy_bound ia ib (by omega) (by omega) hs' cy'
                omega
              · exact h
            have i1 : 1 ≤ i := by
              apply Classical.byContradiction
              intro z
              have : i = 0 := by omega
              subst this
              exact hY.elim hS fun ⟨j, h1, _⟩ => by omega
            have ce := Ma.cy_end ia ib (by omega) (by omega) hs' cy i1 hY
            exact ⟨fr, ⟨bs, hbs, R.iff fun x _ => ce x⟩, hmk, _, _, _, _, rfl⟩
      · rintro σ' H' ⟨fr, ⟨bs, hbs, R⟩, hmk, v9, v10, v11, v12, rfl⟩
        rw [show (((k1 + n : Nat) : Int) - (k1 : Int)).toNat = n by omega]
        exact s_retP (ep_made (ev_var rfl) (ep_mat (ev_var rfl) (ev_var rfl) (etu_new (eu_tupL (p := pk) (ev_var rfl) hmk)))) fun v H5 e5 hv => ret v H5 ((fr.ex e123 nm0 nk0).trans e5) hv
end
end HM
namespace HM
open PySem PySem.Spec PyProof.Rows L2 Evl
section
variable {K : PySem.W.Frag} {σ : L2.St} {H H' : Hp} {ta tb tc te tx tl : TE} {t u tt : TT} {x y z v : V} {D : Ends} {tu tw tz : TS} {g : TG}
theorem ep_callP {sp : Sp} {E : XK} {P1 P : V → Hp → Prop} (h1 : EvP ta σ H P1) (h2 : ∀ H1, Ex H H1 → Ev tb σ H1 y) (hs : ∀ v H1 H3, Ex H H1 → P1 v H1 → Ex H1 H3 → ∀ Q : VK, (∀ w H2, Ex H3 H2 → P w H2 → Q w H2) → sp [v, y] H3 Q E) : EvP (tCall sp [] E (tCons ta (tCons tb tNil))) σ H P := fun H1 e Q q =>
  h1 H1 e _ fun v H2 e2 hv => h2 H2 (e.trans e2) H2 (Ex.refl H2) _ fun H3 e3 => hs v H2 H3 (e.trans e2) hv e3 Q fun w H4 e4 hw => q w H4 ((e2.trans e3).trans e4) hw
theorem ep_call1P {sp : Sp} {E : XK} {P1 P : V → Hp → Prop} (h1 : EvP ta σ H P1) (hs : ∀ v H1, Ex H H1 → P1 v H1 → ∀ Q : VK, (∀ w H2, Ex H1 H2 → P w H2 → Q w H2) → sp [v] H1 Q E) : EvP (tCall sp [] E (tCons ta tNil)) σ H P := fun H1 e Q q =>
  h1 H1 e _ fun v H2 e2 hv => hs v H2 (e.trans e2) hv Q fun w H4 e4 hw => q w H4 (e2.trans e4) hw
end
section
variable {P : Program} {w : World} {K : PySem.W.Frag} {mg : Str → Option Value} {base : Heap}
noncomputable def prR (al bl : List Nat) (n k : Nat) : Int := if Ma.allT k (Ma.putM (Ma.g al) (Ma.g bl) n k k) = true then (Ma.rgs (Ma.g al) (Ma.g bl) n n : Int) else -1
theorem prR_worth (al bl : List Nat) (n k : Nat) : (if prR al bl n k < 0 then [] else Ma.wpow (prR al bl n k).toNat) = Ma.prV al bl n k := by
  unfold prR Ma.prV
  by_cases h : Ma.allT k (Ma.putM (Ma.g al) (Ma.g bl) n k k) = true
  · rw [if_pos h, if_pos h, if_neg (by omega), Int.toNat_natCast]
  · rw [if_neg h, if_neg h, if_pos (by decide)]
theorem prR_le (al bl : List Nat) (n k : Nat) : prR al bl n k ≤ n := by
  unfold prR
  have := Ma.rgs_le (Ma.g al) (Ma.g bl) n n
  split <;> omega
def spLawPaired : Sp := fun vs H Q _ => ∃ (a b : Addr) (n k : Nat) (al bl : List Nat), vs = [.ref a, .ref b] ∧ MatAt H a n k al ∧ MatAt H b n k bl ∧ Ma.Half n k al ∧ Ma.Half n k bl ∧ n ≤ 300 ∧ ∀ H', Ex H H' → Q (.int (prR al bl n k)) H'
theorem ok_law_paired (B : Bt mg) (D : DefOk K mg "_law_paired" s__law_paired) (C__law_put : Cal P w K mg base 1 "_law_put" spLawPut) (C__law_flip : Cal P w K mg base 1 "_law_flip" spFlip) : Cal P w K mg base 2 "_law_paired" spLawPaired := by
  refine cal_of D sc__law_paired (fun _ _ _ _ _ _ us hl => match us, hl with | [_, _], _ => rfl) (fun vs H Q E h => ?_) (fun f cdv A outer s H vs Q E hr h => ?_)
  · obtain ⟨a, b, n, k, al, bl, rfl, _⟩ := h; rfl
  · have hu64 := hu64_of hr
    obtain ⟨a, b, n, k1, al, bl, rfl, hA, hB, HA, HB, hn, ret⟩ := h
    have hk := HA.le
    refine ⟨_, (pss_cons (ps_asg (pe_c C__law_put hr (by decide) (by rfl) (pa_cons (pe_c C__law_flip hr (by decide) (by rfl) (pa_cons (pv 0) pa_nil)) (pa_cons (pv 1) pa_nil))) (pg_tup rfl (pgs_cons (pg_name (i := 2) sc__law_paired.nd rfl (.inl rfl)) (pgs_cons (pg_name (i := 3) sc__law_paired.nd rfl (.inr rfl)) pgs_nil))))
  (pss_cons (ps_if (pt_cmpR (op_neD hu64) (pe_lc (own := [("_law_mate", 4)]) (g := gName 4) (tt := (tTest (tOp rLt (tVar 4) (tOp (rIx K) (tVar 3) (tC (.int 0)))))) (te := (tVar 4)) rfl sc__law_paired.nd (pi_tup (pe_slice sl_tupA (pe_ix ix_seq (pv 3) pe_int (fun _ _ => rfl)) po_none (po_some (pe_ix ix_seq (pv 3) pe_int (fun _ _ => rfl))))) (blkOk_by (N := N__law_paired) (sc := defScope s__law_paired) (by decide +kernel)) (fun _ _ _ _ _ => (pg_name (i := 4) sc__law_paired.nd rfl (.inl rfl))) (fun _ _ _ _ _ => pts_one (pt_cmpR op_lt (pv 4) (pe_ix ix_seq (pv 3) pe_int (fun _ _ => rfl)) (nomark _))) (fun _ _ _ _ _ => (pv 4))) (pe_lst pa_nil) (nomark _)) (pss_one (ps_ret (pe_un un_neg pe_int))) pss_nil)
  (pss_one (ps_ret (pv 2))))), ?_⟩
    refine q_unMade (r := Ma.rgs (Ma.g al) (Ma.g bl) n n) (n := k1) (k := k1) (ms := Ma.putM (Ma.g al) (Ma.g bl) n k1 k1) (ep_callP (P1 := fun v H' => ∃ p, v = .ref p ∧ MatAt H' p k1 n (Ma.flp n k1 al)) (ep_call (vs := [.ref a]) (ea_cons (ev_var rfl) ea_nil) fun H1 e1 Q q => ⟨a, n, k1, al, rfl, hA.ex e1, HA.mat.len, by omega, q⟩) (fun H1 e1 => ev_var (v := .ref b) rfl) (fun v H1 H3 e1 hv e3 Q q => ?_)) fun am H1 e1 hM => ?_
    · obtain ⟨p, rfl, hp⟩ := hv
      exact ⟨p, b, n, k1, k1, Ma.flp n k1 al, al, bl, rfl, ⟨hp.ex e3, hB.ex (e1.trans e3), Ma.flp_of n k1 al, HA.mat.inv_, HB.mat.inv_, HB.mat.len, by omega⟩, q⟩
    obtain ⟨qm, hm, hqm⟩ := hM
    refine q_when (b := !Ma.allT k1 (Ma.putM (Ma.g al) (Ma.g bl) n k1 k1)) (et_test (ev_neNilN (xs := vl (((Ma.putM (Ma.g al) (Ma.g bl) n k1 k1).take k1).filter fun x => decide (x < k1))) (el_is (el_lcTu (xs := vl ((Ma.putM (Ma.g al) (Ma.g bl) n k1 k1).take k1)) (fun i => decide (Ma.g ((Ma.putM (Ma.g al) (Ma.g bl) n k1 k1).take k1) i < k1)) (fun i => vi (Ma.g ((Ma.putM (Ma.g al) (Ma.g bl) n k1 k1).take k1) i)) (by rw [← vl_take]; exact etu_take (a := qm) (ev_op (ev_var rfl) ev_c (rv_ixt hm (atI_nat (j := 2) rfl))) (ev_op (ev_var rfl) ev_c (rv_ixt hm (atI_nat (j := 0) rfl))) hqm) (by rw [List.length_map, List.length_take]; omega) (fun x => rfl) (fun i x H2 e2 hx => ?_) (fun i x H2 e2 hx _ => ?_)) ?_) (vl_vz _) ?_)) (fun hb H2 e2 => ?_) (fun hb H2 e2 => ?_)
    · obtain ⟨_, rfl⟩ := vl_get hx
      exact et_lt (ev_var rfl) (ev_op (ev_var rfl) ev_c (rv_ixt (e2 _ _ hm) (atI_nat (j := 0) rfl))) (by simp)
    · obtain ⟨_, rfl⟩ := vl_get hx
      exact ev_var rfl
    · rw [List.length_map]
      exact given_list ((Ma.putM (Ma.g al) (Ma.g bl) n k1 k1).take k1) (fun x => decide (x < k1)) vi
    · unfold Ma.allT
      generalize (Ma.putM (Ma.g al) (Ma.g bl) n k1 k1).take k1 = l
      congr 1
      rw [Bool.eq_iff_iff, decide_eq_true_eq, List.map_eq_nil_iff, List.filter_eq_nil_iff, List.all_eq_true]
      constructor
      · intro h x hx
        have := h x hx
        simpa using this
      · intro h x hx
        have := h x hx
        simpa using this
    · refine s_ret (v := .int (prR al bl n k1)) (ev_is (ev_un ev_c ru_neg) ?_) fun H3 e3 => ret H3 ((e1.trans e2).trans e3)
      unfold prR
      rw [if_neg (by simpa using hb)]
    · refine s_ret (v := .int (prR al bl n k1)) (ev_is (ev_var rfl) ?_) fun H3 e3 => ret H3 ((e1.trans e2).trans e3)
      unfold prR
      rw [if_pos (by simpa using hb)]
/-! ### same data -/
def DV (H : Hp) : Nat → V → V → Prop
  | 0, x, y => ∃ i, x = .int i ∧ y = .int i
  | d + 1, x, y => (∃ i, x = .int i ∧ y = .int i) ∨ ∃ (p q : Addr) (xs ys : List V), x = .ref p ∧ y = .ref q ∧ ((H p = some (.lst xs) ∧ H q = some (.lst ys)) ∨ (H p = some (.tup xs) ∧ H q = some (.tup ys))) ∧ xs.length = ys.length ∧ xs.length ≤ 1000 ∧ ∀ (i : Nat) (x y : V), xs[i]? = some x → ys[i]? = some y → DV H d x y
theorem DV.ex {H H' : Hp} (e : Ex H H') : ∀ {d : Nat} {x y : V}, DV H d x y → DV H' d x y
  | 0, _, _, h => h
  | d + 1, x, y, h => h.elim .inl fun ⟨p, q, xs, ys, h1, h2, h3, h4, h5, h6⟩ => .inr ⟨p, q, xs, ys, h1, h2, h3.elim (fun ⟨a, b⟩ => .inl ⟨e _ _ a, e _ _ b⟩) (fun ⟨a, b⟩ => .inr ⟨e _ _ a, e _ _ b⟩), h4, h5, fun i x y a b => DV.ex e (h6 i x y a b)⟩
def spSame (d : Nat) : Sp := fun vs H Q _ => ∃ x y : V, vs = [x, y] ∧ DV H d x y ∧ ∀ H', Ex H H' → Q (.bl true) H'
theorem ev_isi {σ : L2.St} {H : Hp} {ta tb : TE} {x : V} {t : Value} {n : String} {b : Bool} (h : Ev ta σ H x) (hc : Ev tb σ H (.ty n)) (ty : ∀ H1, Ex H H1 → TyX K H1 x t) (e : PySem.W.kitOne K t (.type n) = some b) : Ev (tCB (rIsi K) (tCons ta (tCons tb tNil))) σ H (.bl b) := fun H1 e1 Q q =>
  h H1 e1 _ fun H2 e2 => hc H2 (e1.trans e2) _ fun H3 e3 => ⟨x, .ty n, t, .type n, b, rfl, .ty n, ty H3 ((e1.trans e2).trans e3), e, q H3 (e2.trans e3)⟩
theorem ev_isi2 {σ : L2.St} {H : Hp} {ta tb tc : TE} {x : V} {t : Value} {m n : String} {b : Bool} (h : Ev ta σ H x) (hb : Ev tb σ H (.ty m)) (hc : Ev tc σ H (.ty n)) (ty : ∀ H1, Ex H H1 → TyX K H1 x t) (e : PySem.W.kitAny K t [.type m, .type n] = some b) : Ev (tCB (rIsiT K) (tCons ta (tCons (tTup (tCons tb (tCons tc tNil))) tNil))) σ H (.bl b) := fun H1 e1 Q q =>
  h H1 e1 _ fun H2 e2 => (eu_tup (ea_cons hb (ea_cons hc ea_nil)) (by simp) : EvU _ σ H _) H2 (e1.trans e2) _ fun p H3 _ e3 hp => ⟨x, p, [.ty m, .ty n], t, [.type m, .type n], b, rfl, hp, .cons (.ty m) (.cons (.ty n) .nil), ty H3 ((e1.trans e2).trans e3), e, q H3 (e2.trans e3)⟩
theorem tyx_ref {H : Hp} {p : Addr} {xs : List V} : (H p = some (.lst xs) → ∀ H1, Ex H H1 → TyX K H1 (.ref p) (.type "list")) ∧ (H p = some (.tup xs) → ∀ H1, Ex H H1 → TyX K H1 (.ref p) (.type "tuple")) := ⟨fun h H1 e => .base (.lst (e _ _ h)), fun h H1 e => .base (.tup (e _ _ h))⟩
theorem ev_isNI {σ : L2.St} {H : Hp} {ta : TE} {i : Int} (h : Ev ta σ H (.int i)) : Ev (tOp (fun x y H Q => y = .non ∧ Q (.bl (decide (x = .non))) H) ta (tC .non)) σ H (.bl false) := ev_op h ev_c fun H1 _ Q q => ⟨rfl, by rw [decide_eq_false (fun z => nomatch z)]; exact q H1 (Ex.refl H1)⟩
theorem ev_isBI {σ : L2.St} {H : Hp} {ta : TE} {i : Int} {b : Bool} (h : Ev ta σ H (.int i)) : Ev (tOp rIsIB ta (tC (.bl b))) σ H (.bl false) := ev_op h ev_c fun H1 _ Q q => ⟨i, b, rfl, rfl, q H1 (Ex.refl H1)⟩
theorem ev_notBI {σ : L2.St} {H : Hp} {ta : TE} {i : Int} {b : Bool} (h : Ev ta σ H (.int i)) : Ev (tOp rNotIB ta (tC (.bl b))) σ H (.bl true) := ev_op h ev_c fun H1 _ Q q => ⟨i, b, rfl, rfl, q H1 (Ex.refl H1)⟩
theorem ev_and1 {σ : L2.St} {H : Hp} {ta tb : TE} (h1 : Ev ta σ H (.bl true)) (h2 : Ev tb σ H (.bl true)) : Ev (tAndV ta tb) σ H (.bl true) := ev_andV (a := true) (b := true) h1 fun _ => h2
theorem ok_law_same0 (B : Bt mg) (D : DefOk K mg "_law_same" s__law_same) : Cal P w K mg base 1 "_law_same" (spSame 0) := by
  refine cal_of D sc__law_same (fun _ _ _ _ _ _ us hl => match us, hl with | [_, _], _ => rfl) (fun vs H Q E h => ?_) (fun f cdv A outer s H vs Q E hr h => ?_)
  · obtain ⟨x, y, rfl, _⟩ := h; rfl
  · obtain ⟨x, y, rfl, ⟨i, rfl, rfl⟩, ret⟩ := h
    refine ⟨_, (pss_cons (ps_if (pt_val (pe_callB call_isiT (by rfl) B.isinstance_ (by decide +kernel) (pa_cons (pv 1) (pa_cons (pe_tup (pa_cons (pe_bltn (v := .ty "tuple") (u := .type "tuple") (by rfl) B.tuple_ (by decide +kernel) rfl) (pa_cons (pe_bltn (v := .ty "list") (u := .type "list") (by rfl) B.list_ (by decide +kernel) rfl) pa_nil))) pa_nil)))) pss_never pss_nil)
  (pss_cons (ps_if (PW.pt (pw_or (pt_cmpR op_isN (pv 1) pe_non (nomark _)) (pw_or (pt_cmpR op_isIB (pv 1) pe_bl (nomark _)) (pw_or1 (pt_cmpR op_isIB (pv 1) pe_bl (nomark _)))))) (pss_one (ps_ret (pe_or (pe_and (pe_cmpR op_isN (pv 1) pe_non (nomark _)) (pe_one (pe_cmpR op_isN (pv 0) pe_non (nomark _)))) (pe_or (pe_and (pe_cmpR op_isIB (pv 1) pe_bl (nomark _)) (pe_one (pe_cmpR op_isIB (pv 0) pe_bl (nomark _)))) (pe_one (pe_and (pe_cmpR op_isIB (pv 1) pe_bl (nomark _)) (pe_one (pe_cmpR op_isIB (pv 0) pe_bl (nomark _))))))))) pss_nil)
  (pss_cons (ps_if (pt_val (pe_callB call_isi (by rfl) B.isinstance_ (by decide +kernel) (pa_cons (pv 1) (pa_cons (pe_bltn (v := .ty "str") (u := .type "str") (by rfl) B.str_ (by decide +kernel) rfl) pa_nil)))) (pss_one (ps_ret (pe_and (pe_callB call_isi (by rfl) B.isinstance_ (by decide +kernel) (pa_cons (pv 0) (pa_cons (pe_bltn (v := .ty "str") (u := .type "str") (by rfl) B.str_ (by decide +kernel) rfl) pa_nil))) (pe_one (pe_cmpR op_eq (pv 0) (pv 1) (nomark _)))))) pss_nil)
  (pss_one (ps_ret (pe_and (pe_callB call_isi (by rfl) B.isinstance_ (by decide +kernel) (pa_cons (pv 0) (pa_cons (pe_bltn (v := .ty "int") (u := .type "int") (by rfl) B.int_ (by decide +kernel) rfl) pa_nil))) (pe_and (pe_cmpR op_isnotIB (pv 0) pe_bl (nomark _)) (pe_and (pe_cmpR op_isnotIB (pv 0) pe_bl (nomark _)) (pe_one (pe_cmpR op_eq (pv 0) (pv 1) (nomark _))))))))))), ?_⟩
    refine q_ifF (et_B (ev_isi2 (t := .type "int") (m := "tuple") (n := "list") (ev_var rfl) ev_c ev_c (fun _ _ => .base (.int i)) (by kernel_rfl))) fun H1 e1 => ?_
    refine q_ifF (et_orF (et_test (ev_isNI (ev_var rfl))) (et_orF (et_test (ev_isBI (ev_var rfl))) (et_test (ev_isBI (ev_var rfl))))) fun H2 e2 => ?_
    refine q_ifF (et_B (ev_isi (t := .type "int") (n := "str") (ev_var rfl) ev_c (fun _ _ => .base (.int i)) (by kernel_rfl))) fun H3 e3 => ?_
    exact s_ret (v := .bl true) (ev_and1 (ev_isi (t := .type "int") (n := "int") (ev_var rfl) ev_c (fun _ _ => .base (.int i)) (by kernel_rfl)) (ev_and1 (ev_notBI (ev_var rfl)) (ev_and1 (ev_notBI (ev_var rfl)) (ev_is (ev_op (ev_var rfl) (ev_var rfl) (rv_eq rfl)) (by simp))))) fun H4 e4 => ret H4 (((e1.trans e2).trans e3).trans e4)
theorem ok_law_same1 {d : Nat} (B : Bt mg) (D : DefOk K mg "_law_same" s__law_same) (C__law_same : Cal P w K mg base (d + 1) "_law_same" (spSame d)) : Cal P w K mg base (d + 2) "_law_same" (spSame (d + 1)) := by
  refine cal_of D sc__law_same (fun _ _ _ _ _ _ us hl => match us, hl with | [_, _], _ => rfl) (fun vs H Q E h => ?_) (fun f cdv A outer s H vs Q E hr h => ?_)
  · obtain ⟨x, y, rfl, _⟩ := h; rfl
  · obtain ⟨x, y, rfl, hd, ret⟩ := h
    refine ⟨_, (pss_cons (ps_if (pt_val (pe_callB call_isiT (by rfl) B.isinstance_ (by decide +kernel) (pa_cons (pv 1) (pa_cons (pe_tup (pa_cons (pe_bltn (v := .ty "tuple") (u := .type "tuple") (by rfl) B.tuple_ (by decide +kernel) rfl) (pa_cons (pe_bltn (v := .ty "list") (u := .type "list") (by rfl) B.list_ (by decide +kernel) rfl) pa_nil))) pa_nil)))) (pss_cons (ps_if (PW.pt (pw_or (pt_cmpR op_ne (pe_callB call_isi (by rfl) B.isinstance_ (by decide +kernel) (pa_cons (pv 0) (pa_cons (pe_bltn (v := .ty "tuple") (u := .type "tuple") (by rfl) B.tuple_ (by decide +kernel) rfl) pa_nil))) (pe_callB call_isi (by rfl) B.isinstance_ (by decide +kernel) (pa_cons (pv 1) (pa_cons (pe_bltn (v := .ty "tuple") (u := .type "tuple") (by rfl) B.tuple_ (by decide +kernel) rfl) pa_nil))) (nomark _)) (pw_or1 (pt_cmpR op_ne (pe_callB call_isi (by rfl) B.isinstance_ (by decide +kernel) (pa_cons (pv 0) (pa_cons (pe_bltn (v := .ty "list") (u := .type "list") (by rfl) B.list_ (by decide +kernel) rfl) pa_nil))) (pe_callB call_isi (by rfl) B.isinstance_ (by decide +kernel) (pa_cons (pv 1) (pa_cons (pe_bltn (v := .ty "list") (u := .type "list") (by rfl) B.list_ (by decide +kernel) rfl) pa_nil))) (nomark _))))) (pss_one (ps_ret pe_bl)) pss_nil)
  (pss_cons (ps_if (pt_cmpR op_ne (pe_callB call_len_seq (by rfl) B.len_ PySem.boot_len (pa_cons (pv 0) pa_nil)) (pe_callB call_len_seq (by rfl) B.len_ PySem.boot_len (pa_cons (pv 1) pa_nil)) (nomark _)) (pss_one (ps_ret pe_bl)) pss_nil)
  (pss_one (ps_ret (pe_callB (cr_all rfl) (by rfl) B.all_ (by decide +kernel) (pa_cons (pe_lc (own := [("_law_k", 2)]) (g := gName 2) (tt := tYes) (te := (tCall (spSame d) [] E0 (tCons (tOp (rIx K) (tVar 0) (tVar 2)) (tCons (tOp (rIx K) (tVar 1) (tVar 2)) tNil)))) rfl sc__law_same.nd (pi_range1 (by rfl) B.range_ (pa_cons (pe_callB call_len_seq (by rfl) B.len_ PySem.boot_len (pa_cons (pv 1) pa_nil)) pa_nil)) (blkOk_by (N := N__law_same) (sc := defScope s__law_same) (by decide +kernel)) (fun _ _ _ _ _ => (pg_name (i := 2) sc__law_same.nd rfl (.inl rfl))) (fun _ _ _ _ _ => pts_nil) (fun _ _ _ _ _ => (pe_c C__law_same hr (Nat.le_refl _) (by rfl) (pa_cons (pe_ix ix_seq (pv 0) (pv 2) (fun _ _ => rfl)) (pa_cons (pe_ix ix_seq (pv 1) (pv 2) (fun _ _ => rfl)) pa_nil))))) pa_nil)))))) pss_nil)
  (pss_cons (ps_if (PW.pt (pw_or (pt_cmpR op_isN (pv 1) pe_non (nomark _)) (pw_or (pt_cmpR op_isIB (pv 1) pe_bl (nomark _)) (pw_or1 (pt_cmpR op_isIB (pv 1) pe_bl (nomark _)))))) (pss_one (ps_ret (pe_or (pe_and (pe_cmpR op_isN (pv 1) pe_non (nomark _)) (pe_one (pe_cmpR op_isN (pv 0) pe_non (nomark _)))) (pe_or (pe_and (pe_cmpR op_isIB (pv 1) pe_bl (nomark _)) (pe_one (pe_cmpR op_isIB (pv 0) pe_bl (nomark _)))) (pe_one (pe_and (pe_cmpR op_isIB (pv 1) pe_bl (nomark _)) (pe_one (pe_cmpR op_isIB (pv 0) pe_bl (nomark _))))))))) pss_nil)
  (pss_cons (ps_if (pt_val (pe_callB call_isi (by rfl) B.isinstance_ (by decide +kernel) (pa_cons (pv 1) (pa_cons (pe_bltn (v := .ty "str") (u := .type "str") (by rfl) B.str_ (by decide +kernel) rfl) pa_nil)))) (pss_one (ps_ret (pe_and (pe_callB call_isi (by rfl) B.isinstance_ (by decide +kernel) (pa_cons (pv 0) (pa_cons (pe_bltn (v := .ty "str") (u := .type "str") (by rfl) B.str_ (by decide +kernel) rfl) pa_nil))) (pe_one (pe_cmpR op_eq (pv 0) (pv 1) (nomark _)))))) pss_nil)
  (pss_one (ps_ret (pe_and (pe_callB call_isi (by rfl) B.isinstance_ (by decide +kernel) (pa_cons (pv 0) (pa_cons (pe_bltn (v := .ty "int") (u := .type "int") (by rfl) B.int_ (by decide +kernel) rfl) pa_nil))) (pe_and (pe_cmpR op_isnotIB (pv 0) pe_bl (nomark _)) (pe_and (pe_cmpR op_isnotIB (pv 0) pe_bl (nomark _)) (pe_one (pe_cmpR op_eq (pv 0) (pv 1) (nomark _))))))))))), ?_⟩
    rcases hd with ⟨i, rfl, rfl⟩ | ⟨p, q, xs, ys, rfl, rfl, hpq, hl, hz, hall⟩
    · refine q_ifF (et_B (ev_isi2 (t := .type "int") (m := "tuple") (n := "list") (ev_var rfl) ev_c ev_c (fun _ _ => .base (.int i)) (by kernel_rfl))) fun H1 e1 => ?_
      refine q_ifF (et_orF (et_test (ev_isNI (ev_var rfl))) (et_orF (et_test (ev_isBI (ev_var rfl))) (et_test (ev_isBI (ev_var rfl))))) fun H2 e2 => ?_
      refine q_ifF (et_B (ev_isi (t := .type "int") (n := "str") (ev_var rfl) ev_c (fun _ _ => .base (.int i)) (by kernel_rfl))) fun H3 e3 => ?_
      exact s_ret (v := .bl true) (ev_and1 (ev_isi (t := .type "int") (n := "int") (ev_var rfl) ev_c (fun _ _ => .base (.int i)) (by kernel_rfl)) (ev_and1 (ev_notBI (ev_var rfl)) (ev_and1 (ev_notBI (ev_var rfl)) (ev_is (ev_op (ev_var rfl) (ev_var rfl) (rv_eq rfl)) (by simp))))) fun H4 e4 => ret H4 (((e1.trans e2).trans e3).trans e4)
    · obtain ⟨t, b1, b2, ty1, ty2, k1, k2, k3, hh⟩ : ∃ (t : Value) (b1 b2 : Bool), (∀ H1, Ex H H1 → TyX K H1 (.ref p) t) ∧ (∀ H1, Ex H H1 → TyX K H1 (.ref q) t) ∧ PySem.W.kitAny K t [.type "tuple", .type "list"] = some true ∧ PySem.W.kitOne K t (.type "tuple") = some b1 ∧ PySem.W.kitOne K t (.type "list") = some b2 ∧ (∀ H1, Ex H H1 → (SqL K H1 p xs ∨ SqT K H1 p xs) ∧ (SqL K H1 q ys ∨ SqT K H1 q ys) ∧ (∀ (i : Nat) x, xs[i]? = some x → RV (rIx K) (.ref p) (vi i) H1 x) ∧ ∀ (i : Nat) y, ys[i]? = some y → RV (rIx K) (.ref q) (vi i) H1 y) := by
        rcases hpq with ⟨a, b⟩ | ⟨a, b⟩
        · exact ⟨.type "list", false, true, (tyx_ref (K := K)).1 a, (tyx_ref (K := K)).1 b, by kernel_rfl, by kernel_rfl, by kernel_rfl, fun H1 e => ⟨.inl (sq_of (e _ _ a)), .inl (sq_of (e _ _ b)), fun i x hx => rv_ixl (e _ _ a) (atI_nat hx), fun i y hy => rv_ixl (e _ _ b) (atI_nat hy)⟩⟩
        · exact ⟨.type "tuple", true, false, (tyx_ref (K := K)).2 a, (tyx_ref (K := K)).2 b, by kernel_rfl, by kernel_rfl, by kernel_rfl, fun H1 e => ⟨.inr (st_of (e _ _ a)), .inr (st_of (e _ _ b)), fun i x hx => rv_ixt (e _ _ a) (atI_nat hx), fun i y hy => rv_ixt (e _ _ b) (atI_nat hy)⟩⟩
      refine q_when (b := true) (et_B (ev_isi2 (m := "tuple") (n := "list") (ev_var rfl) ev_c ev_c ty2 k1)) (fun _ H1 e1 => ?_) (fun z => by cases z)
      refine q_ifF (et_orF (et_test (ev_is (ev_op (ev_isi (n := "tuple") (ev_var rfl) ev_c (fun H2 e2 => ty1 H2 (e1.trans e2)) k2) (ev_isi (n := "tuple") (ev_var rfl) ev_c (fun H2 e2 => ty2 H2 (e1.trans e2)) k2) (rv_ne rfl)) (by simp))) (et_test (ev_is (ev_op (ev_isi (n := "list") (ev_var rfl) ev_c (fun H2 e2 => ty1 H2 (e1.trans e2)) k3) (ev_isi (n := "list") (ev_var rfl) ev_c (fun H2 e2 => ty2 H2 (e1.trans e2)) k3) (rv_ne rfl)) (by simp)))) fun H2 e2 => ?_
      have e12 := e1.trans e2
      obtain ⟨s1, s2, _⟩ := hh H2 e12
      refine q_ifF (et_neq (ev_lenS (p := p) (xs := xs) (n := xs.length) (ev_var rfl) s1 rfl) (ev_lenS (p := q) (xs := ys) (n := xs.length) (ev_var rfl) s2 hl.symm) (by simp)) fun H3 e3 => ?_
      have e13 := e12.trans e3
      obtain ⟨_, s2, _⟩ := hh H3 e13
      refine s_ret (v := .bl true) (ev_all (bs := List.replicate xs.length true) (el_is (el_lcR1 (n := (xs.length : Int)) (fun _ => true) (fun _ => .bl true) (ea_cons (ev_lenS (p := q) (xs := ys) (n := xs.length) (ev_var rfl) s2 hl.symm) ea_nil) ⟨by omega, by omega⟩ (fun x => rfl) (fun i H4 e4 hi => et_yes) (fun i H4 e4 hi _ => ?_)) ?_) (by simp)) fun H4 e4 => ret H4 (e13.trans e4)
      · have hx : xs[i]? = some xs[i] := List.getElem?_eq_getElem (by omega)
        have hy : ys[i]? = some (ys[i]'(by omega)) := List.getElem?_eq_getElem (by omega)
        obtain ⟨_, _, r1, r2⟩ := hh H4 (e13.trans e4)
        exact ev_callV (ea_cons (ev_op (ev_var rfl) (ev_var (v := vi i) rfl) (r1 i _ hx)) (ea_cons (ev_op (ev_var rfl) (ev_var (v := vi i) rfl) (r2 i _ hy)) ea_nil)) fun H5 e5 Q q' => ⟨_, _, rfl, (hall i _ _ hx hy).ex ((e13.trans e4).trans e5), q'⟩
      · rw [given_all]
        unfold vb
        rw [show ((xs.length : Int)).toNat = xs.length by omega, List.map_replicate, List.map_const', List.length_range]
end
end HM
namespace HM
open PySem PySem.Spec PyProof.Rows L2 Evl
/-- the well: what is left of it in front, what was taken out, the mark, the count of mixed draws -/
def WellAt (H : Hp) (W G : Addr) (c : Nat) : Prop := ∃ (gs : List Int) (op mk ct : Int), H W = some (.lst [.ref G, .int op, .int mk, .int ct]) ∧ H G = some (.lst (vz gs)) ∧ (∀ z ∈ gs, 0 ≤ z) ∧ 0 ≤ op ∧ (1 ≤ mk ∧ mk ≤ 2 ^ 61) ∧ 0 ≤ ct ∧ ct ≤ c
theorem WellAt.ne {H : Hp} {W G : Addr} {c : Nat} (h : WellAt H W G c) : W ≠ G := by
  obtain ⟨gs, op, mk, ct, h1, h2, _⟩ := h
  intro e
  subst e
  rw [h1] at h2
  cases gs with
  | nil => cases h2
  | cons z r => cases h2
theorem WellAt.ex {H H' : Hp} {W G : Addr} {c : Nat} (h : WellAt H W G c) (e : Ex H H') : WellAt H' W G c := let ⟨gs, op, mk, ct, h1, h2, h3⟩ := h; ⟨gs, op, mk, ct, e _ _ h1, e _ _ h2, h3⟩
theorem WellAt.le {H : Hp} {W G : Addr} {c d : Nat} (h : WellAt H W G c) (l : c ≤ d) : WellAt H W G d := let ⟨gs, op, mk, ct, h1, h2, h3, h4, h5, h6, h7⟩ := h; ⟨gs, op, mk, ct, h1, h2, h3, h4, h5, h6, by omega⟩
theorem WellAt.upd {H : Hp} {W G p : Addr} {c : Nat} {o : HO} (h : WellAt H W G c) (n1 : W ≠ p) (n2 : G ≠ p) : WellAt (upd H p o) W G c := let ⟨gs, op, mk, ct, h1, h2, h3⟩ := h; ⟨gs, op, mk, ct, by rw [upd_ne n1]; exact h1, by rw [upd_ne n2]; exact h2, h3⟩
theorem WellAt.lw {H : Hp} {W G : Addr} {c : Nat} (h : WellAt H W G c) : ∃ xs, H W = some (.lst xs) := let ⟨_, _, _, _, h1, _⟩ := h; ⟨_, h1⟩
theorem WellAt.lg {H : Hp} {W G : Addr} {c : Nat} (h : WellAt H W G c) : ∃ xs, H G = some (.lst xs) := let ⟨_, _, _, _, _, h1, _⟩ := h; ⟨_, h1⟩
theorem WellAt.fresh {H : Hp} {W G p : Addr} {c : Nat} (h : WellAt H W G c) (n : H p = none) : W ≠ p ∧ G ≠ p := let ⟨_, _, _, _, h1, h2, _⟩ := h; ⟨ne_of_none h1 n, ne_of_none h2 n⟩
/-- what is no list stands through draws -/
theorem MatAt.frm {W G : Addr} {H H' : Hp} {a : Addr} {n m c : Nat} {ms : List Nat} (h : MatAt H a n m ms) (w : WellAt H W G c) (f : Frm W G H H') : MatAt H' a n m ms := by
  obtain ⟨q, h1, h2⟩ := h
  obtain ⟨xs, hw⟩ := w.lw
  obtain ⟨ys, hg⟩ := w.lg
  exact ⟨q, f _ _ h1 (ne_of h1 hw (by intro z; cases z)) (ne_of h1 hg (by intro z; cases z)), f _ _ h2 (ne_of h2 hw (by intro z; cases z)) (ne_of h2 hg (by intro z; cases z))⟩
section
variable {K : PySem.W.Frag} {σ : L2.St} {H H' : Hp} {ta tb tc te tx tl : TE} {t u tt : TT} {x y z v : V} {D : Ends} {tu tw tz : TS} {g : TG}
theorem rv_ixSq {p : Addr} {xs : List V} {i : Int} (h : SqL K H p xs) (ha : atI xs i = some v) : RV (rIx K) (.ref p) (.int i) H v := fun H1 e _ q => .inl ⟨p, xs, i, v, rfl, rfl, ex_l e h, ha, q H1 (Ex.refl H1)⟩
theorem ev_pow {i j c : Int} (ha : Ev ta σ H (.int i)) (hb : Ev tb σ H (.int j)) (h0 : 0 ≤ j) (h1 : j ≤ 1000000) (h2 : i.natAbs < 2 ^ 64) (e : i ^ j.toNat = c) : Ev (tOp (rI CPow fun i j => .int (i ^ j.toNat)) ta tb) σ H (.int c) := ev_isI (ev_op ha hb (rv_I ⟨h0, h1, h2⟩)) e
theorem ev_mod {i j c : Int} (ha : Ev ta σ H (.int i)) (hb : Ev tb σ H (.int j)) (h0 : 0 < j) (e : i % j = c) : Ev (tOp (rI (fun _ j => 0 < j) fun i j => .int (i % j)) ta tb) σ H (.int c) := ev_isI (ev_op ha hb (rv_I h0)) e
theorem ev_mulB {i j c : Int} {a b : Nat} (ha : Ev ta σ H (.int i)) (hb : Ev tb σ H (.int j)) (h1 : i.natAbs < 2 ^ a) (h2 : j.natAbs < 2 ^ b) (h0 : 0 < a) (h3 : 0 < b) (h : a + b ≤ 1000000) (e : i * j = c) : Ev (tOp (rI CMulW fun i j => .int (i * j)) ta tb) σ H (.int c) := ev_isI (ev_op ha hb (rv_I (wide_mul h1 h2 h0 h3 h))) e
theorem ev_div {i j c : Int} {b : Nat} (ha : Ev ta σ H (.int i)) (hb : Ev tb σ H (.int j)) (h0 : 0 < j) (h1 : j.natAbs < 2 ^ b) (h2 : 0 < b) (h3 : b ≤ 9000) (e : i / j = c) : Ev (tOp (rI CDivW fun i j => .int (i / j)) ta tb) σ H (.int c) := ev_isI (ev_op ha hb (rv_I (wide_div h0 h1 h2 h3))) e
theorem s_insert0 {l : Addr} {xs : List V} (hl : H l = some (.lst xs)) (ha : Ev ta σ H (.ref l)) (hi : Ev tb σ H (.int 0)) (h : Ev te σ H v) (hz : xs.length < 100000) (k : ∀ H1, Ex H H1 → D.nx σ (upd H1 l (.lst (v :: xs)))) :
    tDrop (tBM K "list" (fun x vs H Q => ∃ (l : Addr) (xs : List V) (i : Int) (y : V), x = .ref l ∧ vs = [.int i, y] ∧ H l = some (.lst xs) ∧ xs.length < sizeLine ∧ 0 ≤ i ∧ i < 2 ^ 63 ∧ Q .non (upd H l (.lst (xs.take i.toNat ++ [y] ++ xs.drop i.toNat)))) ta (tCons tb (tCons te tNil))) D σ H := ha H (Ex.refl H) _ fun H1 e1 =>
  ⟨Or.inl ⟨rfl, xs, sq_of (e1 l _ hl)⟩, hi H1 e1 _ fun H2 e2 => h H2 (e1.trans e2) _ fun H3 e3 => ⟨l, xs, 0, v, rfl, rfl, e3 _ _ (e2 _ _ (e1 _ _ hl)), sz_lt hz, by decide, by decide, k H3 ((e1.trans e2).trans e3)⟩⟩
end
section
variable {P : Program} {w : World} {K : PySem.W.Frag} {mg : Str → Option Value} {base : Heap}
def spWell : Sp := fun vs H Q _ => ∃ (a : Addr) (ns : List Int), vs = [.ref a] ∧ SqL K H a (vz ns) ∧ ns.length ≤ 63 ∧ ∀ W G H', Ex H H' → WellAt H' W G 0 → Q (.ref W) H'
theorem ok_law_well (B : Bt mg) (D : DefOk K mg "_law_well" s__law_well) : Cal P w K mg base 1 "_law_well" (spWell (K := K)) := by
  refine cal_of D sc__law_well (fun _ _ _ _ _ _ us hl => match us, hl with | [_], _ => rfl) (fun vs H Q E h => ?_) (fun f cdv A outer s H vs Q E hr h => ?_)
  · obtain ⟨a, ns, rfl, _⟩ := h; rfl
  · obtain ⟨a, ns, rfl, ha, hn, ret⟩ := h
    refine ⟨_, (pss_cons (ps_par (i := 1) (j := 2) rfl sc__law_well.nd rfl rfl (by decide) rfl rfl (pa_cons (pe_lst pa_nil) (pa_cons pe_int pa_nil)) rfl)
  (pss_cons (ps_for PassesOwn.never rfl (pi_range1 (by rfl) B.range_ (pa_cons (pe_callB call_len_seq (by rfl) B.len_ PySem.boot_len (pa_cons (pv 0) pa_nil)) pa_nil)) (pg_name (i := 3) sc__law_well.nd rfl (.inl rfl))
  (pss_cons (ps_set (i := 4) sc__law_well.nd rfl (.inl rfl) (pe_ix ix_seq (pv 0) (pv 3) (fun _ _ => rfl)))
  (pss_one (ps_if (pt_cmpR op_ge (pv 4) (pe_op op_pow pe_int pe_int) (nomark _)) (pss_one (ps_expr (pe_bm PySem.F.plainAttrs_list PySem.F.slot_list_insert PySem.F.type_list_insert mt_insert (pv 1) (pa_cons pe_int (pa_cons (pe_op op_sub (pv 4) (pe_op op_pow pe_int pe_int)) pa_nil))))) (pss_one (ps_set (i := 2) sc__law_well.nd rfl (.inl rfl) (pe_op op_add (pe_op op_mod (pe_callTy call_int1 (by rfl) B.int_ (by decide +kernel) (pa_cons (pe_op op_pow (pe_op op_add (pv 2) (pe_op op_mulW (pe_op op_add (pv 3) pe_int) (pe_op op_mod (pe_callTy call_int1 (by rfl) B.int_ (by decide +kernel) (pa_cons (pv 4) pa_nil)) pe_int))) pe_int) pa_nil)) pe_int) pe_int)))))))
  (pss_one (ps_ret (pe_lst (pa_cons (pv 1) (pa_cons pe_int (pa_cons (pv 2) (pa_cons pe_int pa_nil))))))))), ?_⟩
    refine q_parLV (y := .int 30011) (el_lst ea_nil (by simp)) ev_c fun pg H1 ng e1 hg => ?_
    have elen : (vz ns).length = ns.length := by simp
    refine q_forR1 (n := ((vz ns).length : Int)) (ea_cons (ev_len (ev_var rfl) (ex_l e1 ha)) ea_nil) ⟨by omega, by omega⟩
      (fun i σ' H' => Ex H H' ∧ ∃ gs mk v3 v4, H' pg = some (.lst (vz gs)) ∧ (∀ z ∈ gs, (0 : Int) ≤ z) ∧ gs.length ≤ i ∧ (1 ≤ mk ∧ mk ≤ (2 : Int) ^ 61) ∧ σ' = [some (.ref a), some (.ref pg), some (.int mk), v3, v4])
      (fun H2 e2 => ⟨e1.trans e2, [], 30011, none, none, e2 _ _ hg, by simp, Nat.zero_le _, ⟨by decide, by decide⟩, rfl⟩) ?_ ?_
    · rintro i σ' H' hi ⟨eH, gs, mk, v3, v4, hg, hpos, hlen, hmk, rfl⟩
      have hi' : i < ns.length := by omega
      refine q_asg (v := .int (ns.getD i 0)) (ev_op (ev_var rfl) (ev_var rfl) (rv_ixSq (ex_l eH ha) (at_vz hi'))) fun H2 e2 => ?_
      generalize ns.getD i 0 = cell
      have tenp : ∀ {H : Hp} {σ : L2.St}, Ev (tOp (rI CPow fun i j => .int (i ^ j.toNat)) (tC (.int 10)) (tC (.int 18))) σ H (.int 1000000000000000000) := ev_pow ev_c ev_c (by decide) (by decide) (by decide) (by decide)
      refine s_if (b := decide (1000000000000000000 ≤ cell)) (et_ge (ev_var rfl) tenp rfl) (fun hb H3 e3 => ?_) (fun hb H3 e3 => ?_)
      · have hb := of_decide_eq_true hb
        refine s_insert0 (l := pg) (xs := vz gs) (v := .int (cell - 1000000000000000000)) (e3 _ _ (e2 _ _ hg)) (ev_var rfl) ev_c (ev_op (ev_var rfl) tenp rv_I0) (by rw [List.length_map]; omega) fun H4 e4 => ?_
        refine ⟨Ex.mut ((eH.trans e2).trans (e3.trans e4)) ng, (cell - 1000000000000000000) :: gs, mk, _, _, upd_same, ?_, by simp; omega, hmk, rfl⟩
        intro z hz
        rcases List.mem_cons.mp hz with rfl | hz
        · omega
        · exact hpos z hz
      · refine s_asg (v := .int ((mk + ((i : Int) + 3) * (cell % 1000000000061)) ^ 3 % 2305843009213693951 + 1)) ?_ fun H4 e4 => ⟨((eH.trans e2).trans e3).trans e4, gs, _, _, _, e4 _ _ (e3 _ _ (e2 _ _ hg)), hpos, by omega, ⟨by omega, by omega⟩, rfl⟩
        have h1 := Int.emod_nonneg cell (b := 1000000000061) (by decide)
        have h2 := Int.emod_lt_of_pos cell (b := 1000000000061) (by decide)
        have h3 : 0 ≤ ((i : Int) + 3) * (cell % 1000000000061) := Int.mul_nonneg (by omega) h1
        have h4 : ((i : Int) + 3) * (cell % 1000000000061) ≤ 66 * 1000000000061 := Int.mul_le_mul (by omega) (by omega) h1 (by decide)
        refine ev_op (ev_mod (ev_intI (ev_pow (j := 3) (ev_op (ev_var rfl) (ev_mulB (a := 10) (b := 41) (ev_op (ev_var rfl) ev_c rv_I0) (ev_mod (ev_intI (ev_var rfl)) ev_c (by decide) rfl) (by omega) (by omega) (by decide) (by decide) (by decide) rfl) rv_I0) ev_c (by decide) (by decide) ?_ rfl)) ev_c (by decide) rfl) ev_c rv_I0
        have hm := hmk.2
        omega
    · rintro σ' H' ⟨eH, gs, mk, v3, v4, hg, hpos, hlen, hmk, rfl⟩
      refine s_retL (el_lst (vs := [.ref pg, .int 0, .int mk, .int 0]) (ea_cons (ev_var rfl) (ea_cons ev_c (ea_cons (ev_var rfl) (ea_cons ev_c ea_nil)))) (by simp)) fun p H2 np e2 hp => ret p pg H2 (eH.trans e2) ⟨gs, 0, mk, 0, hp, e2 _ _ hg, hpos, by decide, hmk, by decide, by omega⟩
def spDraw : Sp := fun vs H Q _ => ∃ (W G : Addr) (l c : Nat), vs = [.ref W, vi l] ∧ 0 < l ∧ l ≤ 1000 ∧ WellAt H W G c ∧ c < 1000 ∧ ∀ r H', r < l → Frm W G H H' → WellAt H' W G (c + 1) → Q (vi r) H'
theorem ok_law_draw (B : Bt mg) (D : DefOk K mg "_law_draw" s__law_draw) : Cal P w K mg base 1 "_law_draw" spDraw := by
  refine cal_of D sc__law_draw (fun _ _ _ _ _ _ us hl => match us, hl with | [_, _], _ => rfl) (fun vs H Q E h => ?_) (fun f cdv A outer s H vs Q E hr h => ?_)
  · obtain ⟨W, G, l, c, rfl, _⟩ := h; rfl
  · have hu64 := hu64_of hr
    obtain ⟨W, G, l, c, rfl, hl0, hl1, hW, hc, ret⟩ := h
    have nWG := hW.ne
    refine ⟨_, (pss_cut (ps_if (PW.pt (pw_and (pt_cmpR op_eq (pe_ix ix_seq (pv 0) pe_int (fun _ _ => rfl)) pe_int (nomark _)) (pw_and1 (pt_cmpR (op_neD hu64) (pe_ix ix_seq (pv 0) pe_int (fun _ _ => rfl)) (pe_lst pa_nil) (nomark _))))) (pss_one (ps_asg (pe_bm0 PySem.F.plainAttrs_list PySem.F.slot_list_pop PySem.F.type_list_pop mt_pop (pe_ix ix_seq (pv 0) pe_int (fun _ _ => rfl))) (pg_sub (pv 0) pe_int set_list))) pss_nil)
  (pss_cons (ps_if (pt_cmpR op_gt (pe_ix ix_seq (pv 0) pe_int (fun _ _ => rfl)) pe_int (nomark _)) (pss_cons (ps_set (i := 2) sc__law_draw.nd rfl (.inl rfl) (pe_op op_mod (pe_callTy call_int1 (by rfl) B.int_ (by decide +kernel) (pa_cons (pe_ix ix_seq (pv 0) pe_int (fun _ _ => rfl)) pa_nil)) (pv 1)))
  (pss_cons (ps_asg (pe_op op_fdivW (pe_ix ix_seq (pv 0) pe_int (fun _ _ => rfl)) (pv 1)) (pg_sub (pv 0) pe_int set_list))
  (pss_one (ps_ret (pv 2))))) pss_nil)
  (pss_cons (ps_asg (pe_op op_add (pe_ix ix_seq (pv 0) pe_int (fun _ _ => rfl)) pe_int) (pg_sub (pv 0) pe_int set_list))
  (pss_cons (ps_set (i := 3) sc__law_draw.nd rfl (.inl rfl) (pe_op op_mod (pe_callTy call_int1 (by rfl) B.int_ (by decide +kernel) (pa_cons (pe_op op_pow (pe_op op_add (pe_op op_add (pe_ix ix_seq (pv 0) pe_int (fun _ _ => rfl)) (pe_op op_mulW (pe_op op_mulW pe_int (pe_ix ix_seq (pv 0) pe_int (fun _ _ => rfl))) (pe_ix ix_seq (pv 0) pe_int (fun _ _ => rfl)))) (pe_ix ix_seq (pv 0) pe_int (fun _ _ => rfl))) pe_int) pa_nil)) pe_int))
  (pss_one (ps_ret (pe_op op_mod (pe_op op_fdivW (pe_op op_mod (pe_callTy call_int1 (by rfl) B.int_ (by decide +kernel) (pa_cons (pe_op op_mulW (pv 3) (pe_op op_add (pv 3) pe_int)) pa_nil)) pe_int) pe_int) (pv 1)))))))), ?_⟩
    refine q_cut (M := fun σ' H' => σ' = [some (.ref W), some (vi l), none, none] ∧ Frm W G H H' ∧ WellAt H' W G c) ?_ ?_
    · obtain ⟨gs, op, mk, ct, h1, h2, h3, h4, h5, h6, h7⟩ := hW
      refine s_when (b := decide (op = 0) && !decide (gs = [])) (et_andB (a := decide (op = 0)) (b := !decide (gs = [])) (et_eq (ev_op (ev_var rfl) ev_c (rv_ixl h1 (atI_nat (j := 1) rfl))) ev_c rfl) (fun _ => et_test (ev_neNil (p := G) (ev_op (ev_var rfl) ev_c (rv_ixl h1 (atI_nat (j := 0) rfl))) h2 rfl rfl)) rfl) (fun hb H1 e1 => ?_) (fun hb H1 e1 => ⟨rfl, .of e1, gs, op, mk, ct, e1 _ _ h1, e1 _ _ h2, h3, h4, h5, h6, h7⟩)
      have hne : gs ≠ [] := fun z => by rw [z] at hb; simp at hb
      rcases List.eq_nil_or_concat gs with z | ⟨r, x, z⟩
      · exact absurd z hne
      rw [List.concat_eq_append] at z
      subst z
      have h2' := e1 _ _ h2
      rw [← vz_one] at h2'
      refine dr_pop (l := G) (ev_op (ev_var rfl) ev_c (rv_ixl (e1 _ _ h1) (atI_nat (j := 0) rfl))) h2' fun H3 e3 => ?_
      refine g_setL (l := W) (xs := [.ref G, .int op, .int mk, .int ct]) (j := 1) (by rw [upd_ne nWG]; exact e3 _ _ (e1 _ _ h1)) (ev_var rfl) ev_c (by simp) fun H4 e4 => ?_
      refine ⟨rfl, (((Frm.of (e1.trans e3)).g).trans (.of e4)).w, r, x, mk, ct, upd_same, by rw [upd_ne nWG.symm]; exact e4 _ _ upd_same, fun y hy => h3 y (by simp [hy]), h3 x (by simp), h5, h6, h7⟩
    · rintro σ' H' ⟨rfl, fr, hW⟩
      obtain ⟨gs, op, mk, ct, h1, h2, h3, h4, h5, h6, h7⟩ := hW
      have e1v : ∀ {σ : L2.St} {H2 : Hp}, σ[0]? = some (some (.ref W)) → Ex H' H2 → Ev (tOp (rIx K) (tVar 0) (tC (.int 1))) σ H2 (.int op) := fun hσ e => ev_op (ev_var hσ) ev_c (rv_ixl (e _ _ h1) (atI_nat (j := 1) rfl))
      have e2v : ∀ {σ : L2.St} {H2 : Hp}, σ[0]? = some (some (.ref W)) → Ex H' H2 → Ev (tOp (rIx K) (tVar 0) (tC (.int 2))) σ H2 (.int mk) := fun hσ e => ev_op (ev_var hσ) ev_c (rv_ixl (e _ _ h1) (atI_nat (j := 2) rfl))
      have e3v : ∀ {σ : L2.St} {H2 : Hp}, σ[0]? = some (some (.ref W)) → Ex H' H2 → Ev (tOp (rIx K) (tVar 0) (tC (.int 3))) σ H2 (.int ct) := fun hσ e => ev_op (ev_var hσ) ev_c (rv_ixl (e _ _ h1) (atI_nat (j := 3) rfl))
      have hlp : (0 : Int) < (l : Int) := by omega
      have hlb : ((l : Int)).natAbs < 2 ^ 10 := by omega
      have fin : ∀ z : Int, ∃ r : Nat, r < l ∧ z % (l : Int) = (r : Int) := fun z => by
        have a := Int.emod_nonneg z (b := (l : Int)) (by omega)
        have b := Int.emod_lt_of_pos z hlp
        exact ⟨(z % (l : Int)).toNat, by omega, by omega⟩
      refine q_when (b := decide (0 < op)) (et_gt (e1v rfl (Ex.refl _)) ev_c rfl) (fun hb H3 e3 => ?_) (fun hb H3 e3 => ?_)
      · obtain ⟨r, hr1, hr2⟩ := fin op
        refine q_asg (v := vi r) (ev_mod (ev_intI (e1v rfl e3)) (ev_var rfl) hlp hr2) fun H4 e4 => ?_
        have e34 := e3.trans e4
        refine q_setL (l := W) (xs := [.ref G, .int op, .int mk, .int ct]) (j := 1) (v := .int (op / (l : Int))) (e34 _ _ h1) (ev_div (e1v rfl e34) (ev_var rfl) hlp hlb (by decide) (by decide) rfl) (ev_var rfl) ev_c (by simp) fun H5 e5 => ?_
        have e35 := e34.trans e5
        refine s_ret (v := vi r) (ev_var rfl) fun H6 e6 => ret r H6 hr1 (((fr.trans (.of e35)).w).trans (.of e6)) ⟨gs, op / (l : Int), mk, ct, e6 _ _ upd_same, e6 _ _ (by rw [upd_ne nWG.symm]; exact e35 _ _ h2), h3, Int.ediv_nonneg h4 (by omega), h5, h6, by omega⟩
      · refine q_setL (l := W) (xs := [.ref G, .int op, .int mk, .int ct]) (j := 3) (v := .int (ct + 1)) (e3 _ _ h1) (ev_op (e3v rfl e3) ev_c rv_I0) (ev_var rfl) ev_c (by simp) fun H4 e4 => ?_
        have e34 := e3.trans e4
        have hw4 : (upd H4 W (.lst ([V.ref G, .int op, .int mk, .int ct].set 3 (.int (ct + 1))))) W = some (.lst [.ref G, .int op, .int mk, .int (ct + 1)]) := upd_same
        have d0 : 0 ≤ 104729 * (ct + 1) * (ct + 1) := Int.mul_nonneg (by omega) (by omega)
        have d1 : 104729 * (ct + 1) * (ct + 1) ≤ 104729 * 1001 * 1001 := Int.mul_le_mul (by omega) (by omega) (by omega) (by decide)
        refine q_asg (v := .int ((mk + 104729 * (ct + 1) * (ct + 1) + (ct + 1)) ^ 2 % 162259276829213363391578010288127)) (ev_mod (ev_intI (ev_pow (j := 2) (ev_op (ev_op (ev_op (ev_var rfl) ev_c (rv_ixl hw4 (atI_nat (j := 2) rfl))) (ev_mulB (a := 40) (b := 10) (ev_mulB (a := 20) (b := 10) ev_c (ev_op (ev_var rfl) ev_c (rv_ixl hw4 (atI_nat (j := 3) rfl))) (by decide) (by omega) (by decide) (by decide) (by decide) rfl) (ev_op (ev_var rfl) ev_c (rv_ixl hw4 (atI_nat (j := 3) rfl))) (by omega) (by omega) (by decide) (by decide) (by decide) rfl) rv_I0) (ev_op (ev_var rfl) ev_c (rv_ixl hw4 (atI_nat (j := 3) rfl))) rv_I0) ev_c (by decide) (by decide) ?_ rfl)) ev_c (by decide) rfl) fun H5 e5 => ?_
        · have := h5.2
          omega
        generalize (mk + 104729 * (ct + 1) * (ct + 1) + (ct + 1)) ^ 2 = big
        have m0 := Int.emod_nonneg big (b := 162259276829213363391578010288127) (by decide)
        have m1 := Int.emod_lt_of_pos big (b := 162259276829213363391578010288127) (by decide)
        generalize big % 162259276829213363391578010288127 = mix at m0 m1 ⊢
        obtain ⟨r, hr1, hr2⟩ := fin (mix * (mix + 59) % 170141183460469231731687303715884105727 / 10007)
        refine s_ret (v := vi r) (ev_mod (ev_div (b := 14) (ev_mod (ev_intI (ev_mulB (a := 108) (b := 108) (ev_var rfl) (ev_op (ev_var rfl) ev_c rv_I0) (by omega) (by omega) (by decide) (by decide) (by decide) rfl)) ev_c (by decide) rfl) ev_c (by decide) (by decide) (by decide) (by decide) rfl) (ev_var rfl) hlp hr2) fun H6 e6 => ret r H6 hr1 ((((fr.trans (.of e34)).w).trans (.of e5)).trans (.of e6)) ⟨gs, op, mk, ct + 1, e6 _ _ (e5 _ _ hw4), e6 _ _ (e5 _ _ (by rw [upd_ne nWG.symm]; exact e34 _ _ h2)), h3, h4, h5, by omega, by omega⟩
end
end HM
namespace Ma
/-- a row that can still come to k at n -/
structure Way (n k i : Nat) (row : List Int) (h : Int) : Prop where
  pre : OkPre i row h
  h0 : 0 ≤ h
  near : h - k ≤ (n : Int) - i ∧ (k : Int) - h ≤ (n : Int) - i
  par : (h - k - ((n : Int) - i)) % 2 = 0
def ways (k left h : Int) : List Int := ([1, -1] : List Int).filter (pok k left h)
theorem Way.start {n k : Nat} (h1 : k ≤ n) (h2 : (n - k) % 2 = 0) : Way n k 0 [] 0 := ⟨.nil, by omega, by omega, by omega⟩
theorem pok_iff {k left h s : Int} : pok k left h s = true ↔ 0 ≤ h + s ∧ h + s - k ≤ left ∧ k - (h + s) ≤ left := by
  unfold pok iabs
  rw [Bool.and_eq_true, decide_eq_true_eq, decide_eq_true_eq]
  split <;> omega
theorem Way.some {n k i : Nat} {row : List Int} {h : Int} (W : Way n k i row h) (hi : i < n) : ways k ((n : Int) - 1 - i) h ≠ [] := by
  obtain ⟨_, h0, h1, h2⟩ := W
  intro e
  unfold ways at e
  rw [List.filter_eq_nil_iff] at e
  have a := e 1 (by simp)
  have b := e (-1) (by simp)
  rw [pok_iff] at a b
  omega
theorem Way.app {n k i : Nat} {row : List Int} {h s : Int} (W : Way n k i row h) (hi : i < n) (hs : s ∈ ways k ((n : Int) - 1 - i) h) : Way n k (i + 1) (row ++ [s]) (h + s) := by
  unfold ways at hs
  rw [List.mem_filter, pok_iff] at hs
  obtain ⟨m, h1, h2, h3⟩ := hs
  have hs : s = 1 ∨ s = -1 := by simpa using m
  obtain ⟨p, h0, n1, n2⟩ := W
  exact ⟨p.app hs h1, h1, by omega, by omega⟩
theorem Way.done {n k : Nat} {row : List Int} {h : Int} (W : Way n k n row h) : OkRow n k row := by
  obtain ⟨p, h0, n1, n2⟩ := W
  have : h = k := by omega
  subst this
  exact p.row
end Ma
namespace HM
open PySem PySem.Spec PyProof.Rows L2 Evl
section
variable {K : PySem.W.Frag} {σ : L2.St} {H H' : Hp} {ta tb tc te tx tl : TE} {t u tt : TT} {x y z v : V} {D : Ends} {tu tw tz : TS} {g : TG} {tr : TA}
/-! ### readings that may write -/
def EvX (te : TE) (σ : L2.St) (H : Hp) (R : V → Hp → Prop) : Prop := ∀ Q : VK, (∀ v H2, R v H2 → Q v H2) → te σ H Q
def EvXA (ta : TA) (σ : L2.St) (H : Hp) (R : List V → Hp → Prop) : Prop := ∀ Q : List V → Hp → Prop, (∀ vs H2, R vs H2 → Q vs H2) → ta σ H Q
def EvXT (tt : TT) (σ : L2.St) (H : Hp) (R : Bool → Hp → Prop) : Prop := ∀ Q : Bool → Hp → Prop, (∀ b H2, R b H2 → Q b H2) → tt σ H Q
theorem EvX.imp {R S : V → Hp → Prop} (h : EvX te σ H R) (i : ∀ v H2, R v H2 → S v H2) : EvX te σ H S := fun Q q => h Q fun v H2 r => q v H2 (i v H2 r)
theorem EvXT.imp {R S : Bool → Hp → Prop} (h : EvXT t σ H R) (i : ∀ v H2, R v H2 → S v H2) : EvXT t σ H S := fun Q q => h Q fun v H2 r => q v H2 (i v H2 r)
theorem x_of (h : Ev te σ H v) : EvX te σ H fun w H2 => w = v ∧ Ex H H2 := fun Q q => h H (Ex.refl H) Q fun H2 e => q v H2 ⟨rfl, e⟩
theorem x_ofP {P : V → Hp → Prop} (h : EvP te σ H P) : EvX te σ H fun w H2 => P w H2 ∧ Ex H H2 := fun Q q => h H (Ex.refl H) Q fun v H2 e p => q v H2 ⟨p, e⟩
theorem xa_of {ta : TA} {vs : List V} (h : EvA ta σ H vs) : EvXA ta σ H fun ws H2 => ws = vs ∧ Ex H H2 := fun Q q => h H (Ex.refl H) Q fun H2 e => q vs H2 ⟨rfl, e⟩
theorem xa_nil : EvXA tNil σ H fun vs H2 => vs = [] ∧ H2 = H := fun Q q => q [] H ⟨rfl, rfl⟩
theorem xa_cons {R1 : V → Hp → Prop} {R : List V → Hp → Prop} (h1 : EvX te σ H R1) (h2 : ∀ v H1, R1 v H1 → EvXA tr σ H1 fun vs H2 => R (v :: vs) H2) : EvXA (tCons te tr) σ H R := fun Q q => h1 _ fun v H1 r => h2 v H1 r _ fun vs H2 r2 => q _ H2 r2
theorem xa_one {R : V → Hp → Prop} (h1 : EvX te σ H R) : EvXA (tCons te tNil) σ H fun vs H2 => ∃ v, vs = [v] ∧ R v H2 := xa_cons h1 fun v H1 r Q q => q [] H1 ⟨v, rfl, r⟩
theorem x_op {r : R2} {R1 R : V → Hp → Prop} {R2' : V → V → Hp → Prop} (h1 : EvX ta σ H R1) (h2 : ∀ x H1, R1 x H1 → EvX tb σ H1 (R2' x)) (h3 : ∀ x y H2, R2' x y H2 → ∀ Q : VK, (∀ v H3, R v H3 → Q v H3) → r x y H2 Q) : EvX (tOp r ta tb) σ H R := fun Q q =>
  h1 _ fun x H1 r1 => h2 x H1 r1 _ fun y H2 r2 => h3 x y H2 r2 Q q
theorem x_callA {sp : Sp} {E : XK} {ta : TA} {RA : List V → Hp → Prop} {R : V → Hp → Prop} (h : EvXA ta σ H RA) (hs : ∀ vs H1, RA vs H1 → ∀ Q : VK, (∀ v H2, R v H2 → Q v H2) → sp vs H1 Q E) : EvX (tCall sp [] E ta) σ H R := fun Q q =>
  h _ fun vs H1 r => by
    show sp (vs ++ []) H1 Q E
    rw [List.append_nil]
    exact hs vs H1 r Q q
theorem s_asgX {i : Nat} {R : V → Hp → Prop} (h : EvX te σ H R) (k : ∀ v H1, R v H1 → D.nx (σ.set i (some v)) H1) : tAsg te (gName i) D σ H := h _ k
theorem q_asgX {i : Nat} {R : V → Hp → Prop} (h : EvX te σ H R) (k : ∀ v H1, R v H1 → tz D (σ.set i (some v)) H1) : tSeq (tAsg te (gName i)) tz D σ H := h _ k
theorem q_asgXG {R : V → Hp → Prop} (h : EvX te σ H R) (k : ∀ v H1, R v H1 → g v σ H1 (tz D)) : tSeq (tAsg te g) tz D σ H := h _ k
theorem s_retX {R : V → Hp → Prop} (h : EvX te σ H R) (k : ∀ v H1, R v H1 → D.rt v H1) : tRet te D σ H := h _ k
theorem q_dropX {R : V → Hp → Prop} (h : EvX te σ H R) (k : ∀ v H1, R v H1 → tz D σ H1) : tSeq (tDrop te) tz D σ H := h _ k
theorem xt_test {R : Bool → Hp → Prop} (h : EvX te σ H fun v H2 => ∃ b, v = .bl b ∧ R b H2) : EvXT (tTest te) σ H R := fun Q q => h _ fun v H2 ⟨b, e, r⟩ => ⟨b, e, q b H2 r⟩
theorem xt_B {R : Bool → Hp → Prop} (h : EvX te σ H fun v H2 => ∃ b, v = .bl b ∧ R b H2) : EvXT (tB te) σ H R := fun Q q => h _ fun v H2 ⟨b, e, r⟩ => ⟨b, e, q b H2 r⟩
theorem xt_not {R : Bool → Hp → Prop} (h : EvXT t σ H fun b H2 => R (!b) H2) : EvXT (tNot t) σ H R := fun Q q => h _ fun b H2 r => q _ H2 r
theorem xt_of {b : Bool} (h : EvT t σ H b) : EvXT t σ H fun c H2 => c = b ∧ Ex H H2 := fun Q q => h H (Ex.refl H) Q fun H2 e => q b H2 ⟨rfl, e⟩
theorem xt_or {R1 R : Bool → Hp → Prop} (h1 : EvXT t σ H R1) (ht : ∀ H1, R1 true H1 → R true H1) (hf : ∀ H1, R1 false H1 → EvXT u σ H1 R) : EvXT (tOr t u) σ H R := fun Q q => h1 _ fun b H1 r => by
  cases b with
  | true => exact q true H1 (ht H1 r)
  | false => exact hf H1 r Q q
theorem xt_and {R1 R : Bool → Hp → Prop} (h1 : EvXT t σ H R1) (ht : ∀ H1, R1 true H1 → EvXT u σ H1 R) (hf : ∀ H1, R1 false H1 → R false H1) : EvXT (tAnd t u) σ H R := fun Q q => h1 _ fun b H1 r => by
  cases b with
  | true => exact ht H1 r Q q
  | false => exact q false H1 (hf H1 r)
theorem s_ifX {R : Bool → Hp → Prop} (h : EvXT t σ H R) (ht : ∀ H1, R true H1 → tu D σ H1) (hf : ∀ H1, R false H1 → tw D σ H1) : tIfS t tu tw D σ H := h _ fun b H1 r => by
  cases b with
  | true => exact ht H1 r
  | false => exact hf H1 r
/-- an if that is never gone into -/
theorem q_ifXF {R : Hp → Prop} (h : EvXT t σ H fun b H2 => b = false ∧ R H2) (k : ∀ H1, R H1 → tz D σ H1) : tSeq (tIfS t tu tNext) tz D σ H := h _ fun b H1 ⟨e, r⟩ => by
  subst e
  exact k H1 r
theorem s_ifXF {R : Hp → Prop} (h : EvXT t σ H fun b H2 => b = false ∧ R H2) (k : ∀ H1, R H1 → D.nx σ H1) : tIfS t tu tNext D σ H := h _ fun b H1 ⟨e, r⟩ => by
  subst e
  exact k H1 r
theorem s_appX {i : Nat} {l : Addr} {xs : List V} {R : V → Hp → Prop} (hσ : σ[i]? = some (some (.ref l))) (hl : H l = some (.lst xs)) (h : EvX te σ H R) (k : ∀ v H1, R v H1 → ∃ ys, H1 l = some (.lst ys) ∧ ys.length < 100000 ∧ D.nx σ (upd H1 l (.lst (ys ++ [v])))) :
    tDrop (tBM K "list" rAppend (tVar i) (tCons te tNil)) D σ H :=
  ⟨.ref l, hσ, Or.inl ⟨rfl, xs, sq_of hl⟩, h _ fun v H1 r => by
    obtain ⟨ys, h1, h2, h3⟩ := k v H1 r
    exact ⟨l, ys, v, rfl, rfl, h1, sz_lt h2, h3⟩⟩
theorem Frm.refl {W G : Addr} (H : Hp) : Frm W G H H := fun _ _ h _ _ => h
theorem Frm.mut {W G p : Addr} {H H' : Hp} {o : HO} (f : Frm W G H H') (n : H p = none) : Frm W G H (upd H' p o) := fun b u h n1 n2 => by rw [upd_ne (ne_of_none h n)]; exact f b u h n1 n2
theorem Frm.keep {W G p : Addr} {H H' : Hp} {o : HO} {c : Nat} (f : Frm W G H H') (w : WellAt H W G c) (n : p ≠ W ∧ p ≠ G) (h : H p = some o) : H' p = some o := f _ _ h n.1 n.2
theorem q_appX {i : Nat} {l : Addr} {xs : List V} {R : V → Hp → Prop} (hσ : σ[i]? = some (some (.ref l))) (hl : H l = some (.lst xs)) (h : EvX te σ H R) (k : ∀ v H1, R v H1 → ∃ ys, H1 l = some (.lst ys) ∧ ys.length < 100000 ∧ tz D σ (upd H1 l (.lst (ys ++ [v])))) :
    tSeq (tDrop (tBM K "list" rAppend (tVar i) (tCons te tNil))) tz D σ H := s_appX (D := { D with nx := tz D }) hσ hl h k
/-- a draw -/
def Drawn (W G : Addr) (H : Hp) (l c : Nat) : V → Hp → Prop := fun v H' => ∃ r, v = vi r ∧ r < l ∧ Frm W G H H' ∧ WellAt H' W G (c + 1)
theorem x_draw {W G : Addr} {E : XK} {ta : TA} {l c : Nat} (hW : WellAt H W G c) (h : EvA ta σ H [.ref W, vi l]) (h0 : 0 < l) (h1 : l ≤ 1000) (hc : c < 1000) : EvX (tCall spDraw [] E ta) σ H (Drawn W G H l c) :=
  x_callA (xa_of h) fun vs H1 ⟨ev, e1⟩ Q q => ⟨W, G, l, c, ev, h0, h1, hW.ex e1, hc, fun r H2 hr fr hw => q _ _ ⟨r, rfl, hr, (Frm.of e1).trans fr, hw⟩⟩
/-- a draw from a list -/
theorem x_pick {W G a : Addr} {E : XK} {ta : TA} {xs : List V} {c : Nat} (hW : WellAt H W G c) (hb : Ev tb σ H (.ref a)) (ha : H a = some (.lst xs)) (hn : a ≠ W ∧ a ≠ G) (h : ∀ H1, Ex H H1 → EvA ta σ H1 [.ref W, vi xs.length]) (h0 : 0 < xs.length) (h1 : xs.length ≤ 1000) (hc : c < 1000) :
    EvX (tOp (rIx K) tb (tCall spDraw [] E ta)) σ H fun v H' => (∃ r, r < xs.length ∧ xs[r]? = some v) ∧ Frm W G H H' ∧ WellAt H' W G (c + 1) :=
  x_op (R2' := fun x y H' => x = .ref a ∧ ∃ r, y = vi r ∧ r < xs.length ∧ Frm W G H H' ∧ WellAt H' W G (c + 1)) (x_of hb) (fun x H1 ⟨ex, e1⟩ => (x_draw (hW.ex e1) (h H1 e1) h0 h1 hc).imp fun v H2 ⟨r, ev, hr, fr, hw⟩ => ⟨ex, r, ev, hr, (Frm.of e1).trans fr, hw⟩)
    (fun x y H2 ⟨ex, r, ey, hr, fr, hw⟩ Q q => by
      subst ex
      subst ey
      have hx : xs[r]? = some xs[r] := List.getElem?_eq_getElem hr
      exact rv_ixl (fr _ _ ha hn.1 hn.2) (atI_nat hx) H2 (Ex.refl H2) Q fun H3 e3 => q _ H3 ⟨⟨r, hr, hx⟩, fr.trans (.of e3), hw.ex e3⟩)
theorem q_asgTLV {i j : Nat} {xs : List V} {n : Nat} (h1 : EvL ta σ H xs) (h2 : Ev tb σ H y) (k : ∀ p H1, H p = none → Ex H H1 → H1 p = some (.lst xs) → tz D ((σ.set i (some (.ref p))).set j (some y)) H1) (hn : n = 2 := by rfl) : tSeq (tAsg (tTup (tCons ta (tCons tb tNil))) (gTup K n (gCons (gName i) (gCons (gName j) gNil)))) tz D σ H :=
  h1 H (Ex.refl H) _ fun p H1 np e1 hp => h2 H1 e1 _ fun H2 e2 => ⟨by show 2 ≤ sizeLine; decide, fun l hl => ⟨l, _, rfl, st_of upd_same, by rw [hn]; rfl, _, _, rfl, _, _, rfl, rfl, k p _ np ((e1.trans e2).trans (Ex.new hl)) ((Ex.new hl) _ _ (e2 _ _ hp))⟩⟩
/-- for i in reversed(range(n)) -/
theorem q_forRv {j n : Nat} (h : Ev ta σ H (vi n)) (hn : n ≤ 100000) (Pv : Nat → L2.St → Hp → Prop) (h0 : ∀ H1, Ex H H1 → Pv 0 σ H1)
    (hs : ∀ i σ' H', i < n → Pv i σ' H' → tu { D with nx := Pv (i + 1), ct := Pv (i + 1), bk := tz D } (σ'.set j (some (.int ((n : Int) - 1 - (i : Int))))) H') (hd : ∀ σ' H', Pv n σ' H' → tz D σ' H') : tSeq (tFor (iRevR (tRg1 ta)) (gName j) tu) tz D σ H :=
  h H (Ex.refl H) _ fun H1 e => ⟨(n : Int), rfl, by decide, by decide, by omega, by omega, by
    rw [show ((n : Int) - 0).toNat = n by omega]
    exact for_it (D := { D with nx := tz D }) walk_rangeC Pv (h0 H1 e) (fun _ _ _ _ _ => trivial) (fun i x σ' H' H2 hi p y => by
      obtain ⟨rfl, rfl⟩ := y
      have := hs i σ' _ hi p
      rw [show (n : Int) - 1 - (i : Int) = 0 + (n : Int) - 1 + (i : Nat) * (-1) by omega] at this
      exact this) hd⟩
theorem given_two (f : Int → Bool) : given ([V.int 1, V.int (-1)] : List V).length (fun i => f (if i = 0 then 1 else -1)) (fun i => .int (if i = 0 then 1 else -1)) = vz (([1, -1] : List Int).filter f) := by
  unfold given vz
  show (List.filter _ [0, 1]).map _ = _
  cases h1 : f 1 <;> cases h2 : f (-1) <;> simp [h1, h2]
end
section
variable {P : Program} {w : World} {K : PySem.W.Frag} {mg : Str → Option Value} {base : Heap}
def spDrawnHalf : Sp := fun vs H Q _ => ∃ (W G : Addr) (n k c : Nat), vs = [.ref W, vi n, vi k] ∧ 1 ≤ n ∧ n ≤ 16 ∧ k ≤ n ∧ (n - k) % 2 = 0 ∧ WellAt H W G c ∧ c ≤ 900 ∧
  ∀ v H', Frm W G H H' → WellAt H' W G (c + 16) → (∃ p d, v = .ref p ∧ MatAt H' p n k d ∧ Ma.Half n k d) → Q v H'
theorem ok_law_drawn_half (B : Bt mg) (D : DefOk K mg "_law_drawn_half" s__law_drawn_half) (C__law_draw : Cal P w K mg base 1 "_law_draw" spDraw) (C__law_half : Cal P w K mg base 1 "_law_half" spLawHalf) : Cal P w K mg base 2 "_law_drawn_half" spDrawnHalf := by
  refine cal_of D sc__law_drawn_half (fun _ _ _ _ _ _ us hl => match us, hl with | [_, _, _], _ => rfl) (fun vs H Q E h => ?_) (fun f cdv A outer s H vs Q E hr h => ?_)
  · obtain ⟨W, G, n, k, c, rfl, _⟩ := h; rfl
  · obtain ⟨W, G, n, k, c, rfl, h1, hn, hk, hp, hW, hc, ret⟩ := h
    refine ⟨_, (pss_cons (ps_asg (pe_tup (pa_cons (pe_lst pa_nil) (pa_cons pe_int pa_nil))) (pg_tup rfl (pgs_cons (pg_name (i := 3) sc__law_drawn_half.nd rfl (.inl rfl)) (pgs_cons (pg_name (i := 4) sc__law_drawn_half.nd rfl (.inr rfl)) pgs_nil))))
  (pss_cons (ps_for PassesOwn.never rfl (pi_revR (by rfl) B.reversed_ (prg_1 (by rfl) B.range_ (pv 1))) (pg_name (i := 5) sc__law_drawn_half.nd rfl (.inr rfl))
  (pss_cons (ps_setLc (i := 6) (own := [("_law_sign", 7)]) (g := gName 7) (tt := (tAnd (tTest (tOp rGe (tOp rAddI (tVar 4) (tVar 7)) (tC (.int 0)))) (tTest (tOp rLe (tCB rAbs (tCons (tOp rSubI (tOp rAddI (tVar 4) (tVar 7)) (tVar 2)) tNil)) (tVar 5))))) (te := (tVar 7)) rfl sc__law_drawn_half.nd rfl rfl (sw_true rfl rfl rfl (by decide +kernel)) (pi_list (pe_lst (pa_cons pe_int (pa_cons (pe_un un_neg pe_int) pa_nil)))) (blkOk_by (N := N__law_drawn_half) (sc := defScope s__law_drawn_half) (by decide +kernel)) (fun _ _ _ _ _ => (pg_name (i := 7) sc__law_drawn_half.nd rfl (.inl rfl))) (fun _ _ _ _ _ => pts_one (PW.pt (pw_and (pt_cmpR op_ge (pe_op op_add (pv 4) (pv 7)) pe_int (nomark _)) (pw_and1 (pt_cmpR op_le (pe_callB call_abs (by rfl) B.abs_ (by decide +kernel) (pa_cons (pe_op op_sub (pe_op op_add (pv 4) (pv 7)) (pv 2)) pa_nil)) (pv 5) (nomark _)))))) (fun _ _ _ _ _ => (pv 7)))
  (pss_cons (ps_expr (pe_bm PySem.F.plainAttrs_list PySem.F.slot_list_append PySem.F.type_list_append mt_append (pv 3) (pa_cons (pe_ix ix_seq (pv 6) (pe_c C__law_draw hr (by decide) (by rfl) (pa_cons (pv 0) (pa_cons (pe_callB call_len_seq (by rfl) B.len_ PySem.boot_len (pa_cons (pv 6) pa_nil)) pa_nil))) (fun _ _ => rfl)) pa_nil)))
  (pss_one (ps_set (i := 4) sc__law_drawn_half.nd rfl (.inr rfl) (pe_op op_add (pv 4) (pe_ix ix_seq (pv 3) (pe_un un_neg pe_int) (fun _ _ => rfl))))))))
  (pss_one (ps_ret (pe_c C__law_half hr (by decide) (by rfl) (pa_cons (pv 3) pa_nil)))))), ?_⟩
    refine q_asgTLV (xs := vz []) (y := .int 0) (el_lst ea_nil (by simp)) ev_c fun ps H1 np e1 hs => ?_
    obtain ⟨nW, nG⟩ := hW.fresh np
    refine q_forRv (n := n) (ev_var rfl) (by omega)
      (fun i σ' H' => Frm W G H H' ∧ WellAt H' W G (c + i) ∧ ∃ row h v5 v6, H' ps = some (.lst (vz row)) ∧ Ma.Way n k i row h ∧ σ' = [some (.ref W), some (vi n), some (vi k), some (.ref ps), some (.int h), v5, v6, none])
      (fun H2 e2 => ⟨.of (e1.trans e2), hW.ex (e1.trans e2), [], 0, none, none, e2 _ _ hs, .start hk hp, rfl⟩) ?_ ?_
    · rintro i σ' H' hi ⟨fr, hW', row, h, v5, v6, hs, way, rfl⟩
      have sgn : ∀ i x, ([V.int 1, V.int (-1)] : List V)[i]? = some x → x = V.int (if i = 0 then 1 else -1) := fun i x hx => by
        match i, hx with
        | 0, hx => simpa using hx.symm
        | 1, hx => simpa using hx.symm
        | i + 2, hx => simp at hx
      refine q_asgL (xs := vz (Ma.ways k ((n : Int) - 1 - i) h)) (el_is (el_lcNL (xs := [.int 1, .int (-1)]) (fun i' => Ma.pok k ((n : Int) - 1 - i) h (if i' = 0 then 1 else -1)) (fun i' => .int (if i' = 0 then 1 else -1)) (el_lst (ea_cons ev_c (ea_cons (ev_un ev_c ru_neg) ea_nil)) (by simp)) (by simp) (fun x => rfl) (fun i' x H2 e2 hx => ?_) (fun i' x H2 e2 hx _ => ?_)) (given_two _)) fun pw H2 npw e2 hw => ?_
      · rw [sgn i' x hx]
        generalize (if i' = 0 then (1 : Int) else -1) = s
        exact et_andB (et_ge (ev_op (ev_var rfl) (ev_var rfl) rv_I0) ev_c rfl) (fun _ => et_le (ev_cb (vs := [.int (h + s - k)]) (ea_cons (ev_op (ev_op (ev_var rfl) (ev_var rfl) rv_I0) (ev_var rfl) rv_I0) ea_nil) fun H1 e Q q => ⟨_, rfl, q H1 (Ex.refl H1)⟩) (ev_var rfl) rfl) rfl
      · rw [sgn i' x hx]
        exact ev_var rfl
      have wne := way.some hi
      have wlen : (Ma.ways k ((n : Int) - 1 - i) h).length ≤ 2 := List.length_filter_le (Ma.pok k ((n : Int) - 1 - i) h) [1, -1]
      have wpos : 0 < (Ma.ways k ((n : Int) - 1 - i) h).length := List.length_pos_iff.mpr wne
      obtain ⟨mW, mG⟩ := hW'.fresh npw
      have hW2 := hW'.ex e2
      refine q_appX (l := ps) (xs := vz row) rfl (e2 _ _ hs) (x_pick (a := pw) (xs := vz (Ma.ways k ((n : Int) - 1 - i) h)) hW2 (ev_var rfl) hw ⟨mW.symm, mG.symm⟩ (fun H3 e3 => ea_cons (ev_var rfl) (ea_cons (ev_lenL (p := pw) (ev_var rfl) (e3 _ _ hw) rfl) ea_nil)) (by rw [List.length_map]; exact wpos) (by rw [List.length_map]; omega) (by omega)) fun v H3 ⟨⟨r, hr, hv⟩, fr3, hW3⟩ => ?_
      obtain ⟨hr2, rfl⟩ := vz_get hv
      have hmem : (Ma.ways k ((n : Int) - 1 - i) h).getD r 0 ∈ Ma.ways k ((n : Int) - 1 - i) h := by
        rw [List.getD_eq_getElem?_getD, List.getElem?_eq_getElem hr2]
        exact List.getElem_mem hr2
      generalize (Ma.ways k ((n : Int) - 1 - i) h).getD r 0 = s at hmem ⊢
      have hs3 : H3 ps = some (.lst (vz row)) := fr3 _ _ (e2 _ _ hs) nW.symm nG.symm
      have lrow := way.pre.len
      refine ⟨vz row, hs3, by rw [List.length_map]; omega, ?_⟩
      rw [vz_one]
      refine s_asg (v := .int (h + s)) (ev_op (ev_var rfl) (ev_op (ev_var rfl) (ev_un ev_c ru_neg) (rv_ixl (xs := vz (row ++ [s])) upd_same (by rw [← vz_one]; exact atI_last _ _))) rv_I0) fun H4 e4 => ?_
      exact ⟨(((fr.trans (.of e2)).trans fr3).mut np).trans (.of e4), (hW3.upd nW nG).ex e4, row ++ [s], h + s, _, _, e4 _ _ upd_same, way.app hi hmem, rfl⟩
    · rintro σ' H' ⟨fr, hW', row, h, v5, v6, hs, way, rfl⟩
      have R := way.done
      refine s_retP (ep_call (vs := [.ref ps]) (P := fun v H' => ∃ p, v = .ref p ∧ MatAt H' p n k (Ma.hL row)) (ea_cons (ev_var rfl) ea_nil) fun H3 e3 Q q => ⟨ps, n, k, row, rfl, .inl (e3 _ _ hs), R, h1, by omega, q⟩) fun v H3 e3 ⟨p, ev, hp⟩ => ret v H3 (fr.trans (.of e3)) ((hW'.ex e3).le (by omega)) ⟨p, _, ev, hp, (Ma.half_of R h1).2⟩
end
end HM
namespace HM
open PySem PySem.Spec PyProof.Rows L2 Evl
section
variable {P : Program} {w : World} {K : PySem.W.Frag} {mg : Str → Option Value} {base : Heap}
theorem rpL_rev (a b : Nat) : List.range a ++ (List.range (a + b - a)).map (a + b - 1 - ·) = rpL a b := by
  unfold rpL
  rw [List.range_add, List.map_append, show a + b - a = b by omega, List.map_map]
  congr 1
  · conv => lhs; rw [← List.map_id (List.range a)]
    refine List.map_congr_left fun x hx => ?_
    have := List.mem_range.mp hx
    show x = Ma.rp a b x
    unfold Ma.rp
    rw [if_pos this]
  · refine List.map_congr_left fun x hx => ?_
    have := List.mem_range.mp hx
    show _ = Ma.rp a b (a + x)
    unfold Ma.rp
    rw [if_neg (by omega)]
    omega
def spLawMat : Sp := fun vs H Q _ => ∃ (W G : Addr) (a b c : Nat), vs = [.ref W, vi a, vi b] ∧ 1 ≤ a ∧ a + b ≤ 16 ∧ (a + b) % 2 = 0 ∧ WellAt H W G c ∧ c ≤ 900 ∧
  ∀ v H', Frm W G H H' → WellAt H' W G (c + 16) → (∃ p d, v = .ref p ∧ MatAt H' p a b d ∧ Ma.Mat a b d) → Q v H'
theorem ok_law_mat (B : Bt mg) (D : DefOk K mg "_law_mat" s__law_mat) (C__law_draw : Cal P w K mg base 1 "_law_draw" spDraw) : Cal P w K mg base 2 "_law_mat" spLawMat := by
  refine cal_of D sc__law_mat (fun _ _ _ _ _ _ us hl => match us, hl with | [_, _, _], _ => rfl) (fun vs H Q E h => ?_) (fun f cdv A outer s H vs Q E hr h => ?_)
  · obtain ⟨W, G, a, b, c, rfl, _⟩ := h; rfl
  · have hu64 := hu64_of hr
    obtain ⟨W, G, a, b, c, rfl, h1, hab, hp, hW, hc, ret⟩ := h
    refine ⟨_, (pss_cons (ps_par (i := 3) (j := 4) rfl sc__law_mat.nd rfl rfl (by decide) rfl rfl (pa_cons (pe_op op_add (pv 1) (pv 2)) (pa_cons (pe_lst pa_nil) pa_nil)) rfl)
  (pss_cons (ps_par (i := 5) (j := 6) rfl sc__law_mat.nd rfl rfl (by decide) rfl rfl (pa_cons (pe_op op_cat (pe_listRg rfl (by rfl) B.list_ (prg_1 (by rfl) B.range_ (pv 1))) (pe_listRev rfl (by rfl) B.list_ (by rfl) B.reversed_ (prg_2 (by rfl) B.range_ (pv 1) (pv 3)))) (pa_cons (pe_op op_rep (pe_lst (pa_cons pe_int pa_nil)) (pv 3)) pa_nil)) rfl)
  (pss_cons (ps_for PassesOwn.never rfl (pi_range1 (by rfl) B.range_ (pa_cons (pv 3) pa_nil)) (pg_name (i := 7) sc__law_mat.nd rfl (.inl rfl))
  (pss_one (ps_if (PW.pt (pw_or (pt_cmpR (op_eqD hu64) (pv 4) (pe_lst pa_nil) (nomark _)) (pw_or1 (PW.pt (pw_and (pt_cmpR op_lt (pe_callB call_len_seq (by rfl) B.len_ PySem.boot_len (pa_cons (pv 4) pa_nil)) (pe_op op_sub (pv 3) (pv 7)) (nomark _)) (pw_and1 (pt_cmpR op_eq (pe_c C__law_draw hr (by decide) (by rfl) (pa_cons (pv 0) (pa_cons pe_int pa_nil))) pe_int (nomark _)))))))) (pss_one (ps_expr (pe_bm PySem.F.plainAttrs_list PySem.F.slot_list_append PySem.F.type_list_append mt_append (pv 4) (pa_cons (pe_ix ix_seq (pv 5) (pv 7) (fun _ _ => rfl)) pa_nil)))) (pss_cons (ps_set (i := 8) sc__law_mat.nd rfl (.inl rfl) (pe_bm0 PySem.F.plainAttrs_list PySem.F.slot_list_pop PySem.F.type_list_pop mt_pop (pv 4)))
  (pss_one (ps_asg (pe_tup (pa_cons (pe_ix ix_seq (pv 5) (pv 7) (fun _ _ => rfl)) (pa_cons (pv 8) pa_nil))) (pg_tup rfl (pgs_cons (pg_sub (pv 6) (pv 8) set_list) (pgs_cons (pg_sub (pv 6) (pe_ix ix_seq (pv 5) (pv 7) (fun _ _ => rfl)) set_list) pgs_nil)))))))))
  (pss_one (ps_ret (pe_tup (pa_cons (pv 1) (pa_cons (pv 2) (pa_cons (pe_callTy call_tuple_of (by rfl) B.tuple_ (by decide +kernel) (pa_cons (pv 6) pa_nil)) pa_nil))))))))), ?_⟩
    refine q_parVL (x := vi (a + b)) (ev_is (ev_op (ev_var rfl) (ev_var rfl) rv_I0) (by simp)) (el_lst ea_nil (by simp)) fun pl H1 npl e1 hpl => ?_
    refine q_parLL (xs := vl (rpL a b)) (ys := vl (List.replicate (a + b) 0)) (el_is (el_cat (el_rg1 (n := a) (ev_var rfl) (by omega)) (el_rev (a := a) (b := a + b) (ev_var rfl) (ev_var rfl) (by omega) (by omega)) (by simp; omega)) (by rw [vl_app, rpL_rev])) (el_is (el_rep1 (k := a + b) (x := vi 0) (el_lst (ea_cons ev_c ea_nil) (by simp)) (ev_var rfl) (by omega)) (vl_rep _ _)) fun po pm H2 npo npm d1 e2 hpo hpm => ?_
    have d2 : pl ≠ po := ne_of_none hpl npo
    have d3 : pl ≠ pm := ne_of_none hpl npm
    have e12 := e1.trans e2
    have npo' := fresh_back e1 npo
    have npm' := fresh_back e1 npm
    obtain ⟨lW, lG⟩ := hW.fresh npl
    obtain ⟨oW, oG⟩ := hW.fresh npo'
    obtain ⟨mW, mG⟩ := hW.fresh npm'
    refine q_forR1 (n := ((a + b : Nat) : Int)) (ea_cons (ev_var rfl) ea_nil) ⟨by omega, by omega⟩
      (fun i σ' H' => Frm W G H H' ∧ WellAt H' W G (c + i) ∧ ∃ ws ms v7 v8, H' pl = some (.lst (vl (ws.map (Ma.rp a b)))) ∧ H' po = some (.lst (vl (rpL a b))) ∧ H' pm = some (.lst (vl ms)) ∧ Ma.LM a b i ws ms ∧ ws.length ≤ a + b - i ∧ (ws.length + i) % 2 = 0 ∧
        σ' = [some (.ref W), some (vi a), some (vi b), some (vi (a + b)), some (.ref pl), some (.ref po), some (.ref pm), v7, v8])
      (fun H3 e3 => ⟨.of (e12.trans e3), hW.ex (e12.trans e3), [], List.replicate (a + b) 0, none, none, e3 _ _ (e2 _ _ hpl), e3 _ _ hpo, e3 _ _ hpm, .start a b _ (by simp), Nat.zero_le _, rfl, rfl⟩) ?_ ?_
    · rintro i σ' H' hi ⟨fr, hW', ws, ms, v7, v8, hl, ho, hm, L, wl, par, rfl⟩
      have hi' : i < a + b := by omega
      have rl : Ma.rp a b i < a + b := Ma.rp_lt hi'
      have er : Ma.g (rpL a b) i = Ma.rp a b i := Ma.g_map hi'
      have lrp : (rpL a b).length = a + b := by simp [rpL]
      refine s_ifX (R := fun bb H3 => Frm W G H' H3 ∧ WellAt H3 W G (c + i + 1) ∧ (bb = true → ws.length + 1 ≤ a + b - (i + 1)) ∧ (bb = false → ws ≠ [])) ?_ (fun H3 ⟨fr3, hW3, ht, _⟩ => ?_) (fun H3 ⟨fr3, hW3, _, hf⟩ => ?_)
      · refine xt_or (xt_of (b := decide (ws.map (Ma.rp a b) = [])) (et_test (ev_eqNil (p := pl) (zs := (ws.map (Ma.rp a b)).map fun n : Nat => (n : Int)) (ev_var rfl) hl (vl_vz _) (by simp)))) (fun H1 ⟨e, eH⟩ => ?_) (fun H1 ⟨e, eH⟩ => ?_)
        · have e : ws = [] := by simpa using e.symm
          exact ⟨.of eH, (hW'.ex eH).le (by omega), fun _ => by rw [e] at par ⊢; simp at par ⊢; omega, fun z => by cases z⟩
        · have e : ws ≠ [] := by simpa using e.symm
          refine xt_and (xt_of (b := decide ((ws.length : Int) < ((a + b : Nat) : Int) - (i : Int))) (et_lt (ev_lenL (p := pl) (n := ws.length) (ev_var rfl) (eH _ _ hl) (by simp)) (ev_op (ev_var rfl) (ev_var rfl) rv_I0) rfl)) (fun H3 ⟨e3, eH3⟩ => ?_) (fun H3 ⟨e3, eH3⟩ => ?_)
          · have e3 := of_decide_eq_true e3.symm
            have eH' := eH.trans eH3
            refine xt_test (x_op (R2' := fun x y H4 => ∃ r, x = vi r ∧ y = vi 0 ∧ Frm W G H' H4 ∧ WellAt H4 W G (c + i + 1)) (x_draw (l := 2) (hW'.ex eH') (ea_cons (ev_var rfl) (ea_cons ev_c ea_nil)) (by decide) (by decide) (by omega)) (fun x H4 ⟨r, ex, hr, fr4, hW4⟩ => (x_of ev_c).imp fun y H5 ⟨ey, e5⟩ => ⟨r, ex, ey, ((Frm.of eH').trans fr4).trans (.of e5), hW4.ex e5⟩) (fun x y H4 ⟨r, ex, ey, fr4, hW4⟩ Q q => ?_))
            subst ex
            subst ey
            exact rv_eq rfl H4 (Ex.refl H4) Q fun H5 e5 => q _ H5 ⟨_, rfl, fr4.trans (.of e5), hW4.ex e5, fun _ => by omega, fun _ => e⟩
          · exact ⟨.of (eH.trans eH3), (hW'.ex (eH.trans eH3)).le (by omega), (fun z => by cases z), fun _ => e⟩
      · have wlen := ht rfl
        have hl3 := fr3 _ _ hl lW.symm lG.symm
        have ho3 := fr3 _ _ ho oW.symm oG.symm
        have hm3 := fr3 _ _ hm mW.symm mG.symm
        refine s_app (l := pl) (v := vi (Ma.rp a b i)) hl3 (ev_var rfl) (ev_is (ev_op (ev_var rfl) (ev_var rfl) (rv_ixl ho3 (at_vl (by omega)))) (by rw [er])) (by simp; omega) fun H4 e4 => ?_
        refine ⟨((fr.trans fr3).trans (.of e4)).mut npl, (hW3.ex e4).upd lW lG, ws ++ [i], ms, _, _, ?_, by rw [upd_ne d2.symm]; exact e4 _ _ ho3, by rw [upd_ne d3.symm]; exact e4 _ _ hm3, L.push, by simp; omega, by simp; omega, rfl⟩
        rw [upd_same, vl_one, List.map_append]
        rfl
      · have hne := hf rfl
        rcases List.eq_nil_or_concat ws with z | ⟨w', t, z⟩
        · exact absurd z hne
        rw [List.concat_eq_append] at z
        subst z
        have tl := L.lt t (by simp)
        have rt : Ma.rp a b t < a + b := Ma.rp_lt (by omega)
        have hl3 := fr3 _ _ hl lW.symm lG.symm
        have ho3 := fr3 _ _ ho oW.symm oG.symm
        have hm3 := fr3 _ _ hm mW.symm mG.symm
        have lms := L.len
        have em : vl ((w' ++ [t]).map (Ma.rp a b)) = vl (w'.map (Ma.rp a b)) ++ [vi (Ma.rp a b t)] := by rw [List.map_append, ← vl_app]; rfl
        rw [em] at hl3
        refine q_asgPop (l := pl) (ev_var rfl) hl3 fun H4 e4 => ?_
        have ho4 : (upd H4 pl (.lst (vl (w'.map (Ma.rp a b))))) po = some (.lst (vl (rpL a b))) := by rw [upd_ne d2.symm]; exact e4 _ _ ho3
        have hm4 : (upd H4 pl (.lst (vl (w'.map (Ma.rp a b))))) pm = some (.lst (vl ms)) := by rw [upd_ne d3.symm]; exact e4 _ _ hm3
        refine s_asgT (vs := [vi (Ma.rp a b i), vi (Ma.rp a b t)]) (ea_cons (ev_is (ev_op (ev_var rfl) (ev_var rfl) (rv_ixl ho4 (at_vl (by omega)))) (by rw [er])) (ea_cons (ev_var rfl) ea_nil)) rfl (by simp) fun H5 e5 => ?_
        refine g_cons (g_setL (l := pm) (xs := vl ms) (j := Ma.rp a b t) (e5 _ _ hm4) (ev_var rfl) (ev_var rfl) (by rw [List.length_map]; omega) fun H6 e6 => ?_)
        rw [vl_set]
        refine g_cons (g_setL (l := pm) (j := Ma.rp a b i) upd_same (ev_var rfl) (ev_is (ev_op (ev_var rfl) (ev_var rfl) (rv_ixl (by rw [upd_ne d1]; exact e6 _ _ (e5 _ _ ho4)) (at_vl (by omega)))) (by rw [er])) (by rw [List.length_map, List.length_set]; omega) fun H7 e7 => ?_)
        rw [vl_set]
        refine g_nil ⟨?_, ?_, w', _, _, _, ?_, ?_, upd_same, L.pop hi', ?_, ?_, rfl⟩
        · exact (((((((fr.trans fr3).trans (.of e4)).mut npl).trans (.of e5)).trans (.of e6)).mut npm').trans (.of e7)).mut npm'
        · exact (((((((hW3.ex e4).upd lW lG).ex e5).ex e6).upd mW mG).ex e7).upd mW mG)
        · rw [upd_ne d3]
          refine e7 _ _ ?_
          rw [upd_ne d3]
          exact e6 _ _ (e5 _ _ upd_same)
        · rw [upd_ne d1]
          refine e7 _ _ ?_
          rw [upd_ne d1]
          exact e6 _ _ (e5 _ _ ho4)
        · simp at wl ⊢; omega
        · simp at par ⊢; omega
    · rintro σ' H' ⟨fr, hW', ws, ms, v7, v8, hl, ho, hm, L, wl, par, rfl⟩
      rw [show (((a + b : Nat) : Int)).toNat = a + b by omega] at L wl hW'
      have e : ws = [] := List.eq_nil_of_length_eq_zero (by omega)
      subst e
      have M := L.done (by omega)
      refine s_retP (ep_mat (n := a) (m := b) (ms := ms) (ev_var rfl) (ev_var rfl) (etu_new (eu_tupL (p := pm) (ev_var rfl) hm))) fun v H3 e3 ⟨p, ev, hp⟩ => ret v H3 (fr.trans (.of e3)) ((hW'.ex e3).le (by omega)) ⟨p, ms, ev, hp, M⟩
end
end HM
namespace HM
open PySem PySem.Spec PyProof.Rows L2 Evl
section
variable {K : PySem.W.Frag} {σ : L2.St} {H H' : Hp} {ta tb tc te tx tl : TE} {t u tt : TT} {x y z v : V} {D : Ends} {tu tw tz : TS} {g : TG} {tr : TA}
theorem ep_if {b : Bool} {P : V → Hp → Prop} (h : EvT t σ H b) (h1 : b = true → EvP ta σ H P) (h2 : b = false → EvP tb σ H P) : EvP (tIf t ta tb) σ H P := fun H1 e Q q => h H1 e _ fun H2 e2 => by
  cases b with
  | true => exact (h1 rfl) H2 (e.trans e2) Q fun v H3 e3 p => q v H3 (e2.trans e3) p
  | false => exact (h2 rfl) H2 (e.trans e2) Q fun v H3 e3 p => q v H3 (e2.trans e3) p
theorem ep_ck0 {sp : Sp} {E : XK} {tk : TA} {zs : List V} {P : V → Hp → Prop} (h : EvA tk σ H zs) (hs : ∀ H1, Ex H H1 → ∀ Q : VK, (∀ v H2, Ex H1 H2 → P v H2 → Q v H2) → sp (gRev [] zs) H1 Q E) : EvP (tCk0 sp gRev E tk) σ H P := fun H1 e Q q =>
  h H1 e _ fun H2 e2 => hs H2 (e.trans e2) Q fun v H3 e3 p => q v H3 (e2.trans e3) p
theorem ev_callVP {sp : Sp} {E : XK} {P1 : V → Hp → Prop} (h1 : EvP ta σ H P1) (h2 : ∀ H1, Ex H H1 → Ev tb σ H1 y) (hs : ∀ v H1 H3, Ex H H1 → P1 v H1 → Ex H1 H3 → ∀ Q : VK, (∀ H2, Ex H3 H2 → Q z H2) → sp [v, y] H3 Q E) : Ev (tCall sp [] E (tCons ta (tCons tb tNil))) σ H z := fun H1 e Q q =>
  h1 H1 e _ fun v H2 e2 hv => h2 H2 (e.trans e2) H2 (Ex.refl H2) _ fun H3 e3 => hs v H2 H3 (e.trans e2) hv e3 Q fun H4 e4 => q H4 ((e2.trans e3).trans e4)
theorem ev_callVPP {sp : Sp} {E : XK} {P1 P2 : V → Hp → Prop} (h1 : EvP ta σ H P1) (h2 : ∀ H1, Ex H H1 → EvP tb σ H1 P2) (hs : ∀ v y H1 H3, Ex H H1 → P1 v H1 → Ex H1 H3 → P2 y H3 → ∀ Q : VK, (∀ H2, Ex H3 H2 → Q z H2) → sp [v, y] H3 Q E) : Ev (tCall sp [] E (tCons ta (tCons tb tNil))) σ H z := fun H1 e Q q =>
  h1 H1 e _ fun v H2 e2 hv => h2 H2 (e.trans e2) H2 (Ex.refl H2) _ fun y H3 e3 hy => hs v y H2 H3 (e.trans e2) hv e3 hy Q fun H4 e4 => q H4 ((e2.trans e3).trans e4)
theorem dv_tupZ {p q : Addr} {l : List Int} (h1 : H p = some (.tup (vz l))) (h2 : H q = some (.tup (vz l))) (hl : l.length ≤ 1000) : DV H 1 (.ref p) (.ref q) := .inr ⟨p, q, vz l, vz l, rfl, rfl, .inr ⟨h1, h2⟩, rfl, by rw [List.length_map]; exact hl, fun i x y hx hy => by
  obtain ⟨_, rfl⟩ := vz_get hx
  obtain ⟨_, rfl⟩ := vz_get hy
  exact ⟨_, rfl, rfl⟩⟩
theorem dv_mat {p q : Addr} {n k : Nat} {d : List Nat} (h1 : MatAt H p n k d) (h2 : MatAt H q n k d) (hl : d.length ≤ 1000) : DV H 2 (.ref p) (.ref q) := by
  obtain ⟨r, a1, a2⟩ := h1
  obtain ⟨s, b1, b2⟩ := h2
  refine .inr ⟨p, q, _, _, rfl, rfl, .inr ⟨a1, b1⟩, rfl, by simp, fun i x y hx hy => ?_⟩
  match i, hx, hy with
  | 0, hx, hy => exact .inl ⟨n, by simpa using hx.symm, by simpa using hy.symm⟩
  | 1, hx, hy => exact .inl ⟨k, by simpa using hx.symm, by simpa using hy.symm⟩
  | 2, hx, hy =>
    have ex : x = .ref r := by simpa using hx.symm
    have ey : y = .ref s := by simpa using hy.symm
    subst ex
    subst ey
    rw [vl_vz] at a2 b2
    exact dv_tupZ a2 b2 (by rw [List.length_map]; exact hl)
  | i + 3, hx, hy => simp at hx
theorem dv_mats {p q : Addr} {n k : Nat} {xs ys : List V} {ds : List (List Nat)} (h1 : H p = some (.lst xs)) (h2 : H q = some (.lst ys)) (a : Paired (MatV n k H) xs ds) (b : Paired (MatV n k H) ys ds) (hl : ds.length ≤ 1000) (hd : ∀ d ∈ ds, d.length ≤ 1000) : DV H 3 (.ref p) (.ref q) := by
  have l1 := paired_len a
  have l2 := paired_len b
  refine .inr ⟨p, q, xs, ys, rfl, rfl, .inl ⟨h1, h2⟩, by omega, by omega, fun i x y hx hy => ?_⟩
  obtain ⟨d, e1, r, rfl, hr⟩ := paired_at a hx
  obtain ⟨d', e2, s, rfl, hs⟩ := paired_at b hy
  rw [e1] at e2
  cases e2
  exact dv_mat hr hs (hd d (List.mem_of_getElem? e1))
end
section
variable {P : Program} {w : World} {K : PySem.W.Frag} {mg : Str → Option Value} {base : Heap}
theorem prV_len (al bl : List Nat) (n k : Nat) : (Ma.prV al bl n k).length ≤ n + 1 := by
  unfold Ma.prV Ma.wpow
  have := Ma.rgs_le (Ma.g al) (Ma.g bl) n n
  split
  · rw [List.length_append, List.length_replicate]; simp; omega
  · simp
def spPairRight : Sp := fun vs H Q _ => ∃ (a b : Addr) (n k : Nat) (al bl : List Nat) (nm : Bool), vs = [.ref a, .ref b, .bl nm] ∧ MatAt H a n k al ∧ MatAt H b n k bl ∧ Ma.Half n k al ∧ Ma.Half n k bl ∧ n ≤ 300 ∧ ∀ H', Ex H H' → Q (.bl true) H'
theorem ok_law_pair_right (B : Bt mg) (D : DefOk K mg "_law_pair_right" s__law_pair_right) (C__law_worth : Cal P w K mg base 1 "_law_worth" spWorth) (C__law_paired : Cal P w K mg base 2 "_law_paired" spLawPaired) (C_pairing : Cal P w K mg base 6 "pairing" spPairing)
    (KW_pairing : CalK P w K mg base 6 "pairing" spPairing ["other", "one"] gRev) (C__law_same : Cal P w K mg base 2 "_law_same" (spSame 1)) : Cal P w K mg base 7 "_law_pair_right" spPairRight := by
  refine cal_of D sc__law_pair_right (fun _ _ _ _ _ _ us hl => match us, hl with | [_, _, _], _ => rfl) (fun vs H Q E h => ?_) (fun f cdv A outer s H vs Q E hr h => ?_)
  · obtain ⟨a, b, n, k, al, bl, nm, rfl, _⟩ := h; rfl
  · obtain ⟨a, b, n, k1, al, bl, nm, rfl, hA, hB, HA, HB, hn, ret⟩ := h
    have hk := HA.le
    refine ⟨_, (pss_cons (ps_set (i := 3) sc__law_pair_right.nd rfl (.inl rfl) (pe_c C__law_worth hr (by decide) (by rfl) (pa_cons (pe_c C__law_paired hr (by decide) (by rfl) (pa_cons (pv 0) (pa_cons (pv 1) pa_nil))) pa_nil)))
  (pss_cons (ps_set (i := 4) sc__law_pair_right.nd rfl (.inl rfl) (pe_ifExp (pt_val (pv 2)) (pe_ck0 KW_pairing hr (by decide) (by rfl) (pk_cons (pv 1) (pk_cons (pv 0) pk_nil))) (pe_c C_pairing hr (by decide) (by rfl) (pa_cons (pv 0) (pa_cons (pv 1) pa_nil)))))
  (pss_cons (ps_if (PW.pt (pw_or (pt_not (pt_val (pe_c C__law_same hr (by decide) (by rfl) (pa_cons (pv 4) (pa_cons (pv 3) pa_nil))))) (pw_or1 (pt_not (pt_val (pe_c C__law_same hr (by decide) (by rfl) (pa_cons (pe_c C_pairing hr (by decide) (by rfl) (pa_cons (pv 1) (pa_cons (pv 0) pa_nil))) (pa_cons (pv 3) pa_nil)))))))) (pss_one (ps_ret pe_bl)) pss_nil)
  (pss_one (ps_ret (pe_c C__law_same hr (by decide) (by rfl) (pa_cons (pe_c C_pairing hr (by decide) (by rfl) (pa_cons (pv 0) (pa_cons (pv 0) pa_nil))) (pa_cons (pe_c C__law_worth hr (by decide) (by rfl) (pa_cons (pe_op op_fdivW (pe_op op_sub (pe_ix ix_seq (pv 0) pe_int (fun _ _ => rfl)) (pe_ix ix_seq (pv 0) pe_int (fun _ _ => rfl))) pe_int) pa_nil)) pa_nil)))))))), ?_⟩
    refine q_asgP (P := fun v H' => ∃ p, v = .ref p ∧ H' p = some (.tup (vz (Ma.prV al bl n k1)))) (ep_call (vs := [.int (prR al bl n k1)]) (ea_cons (ev_callV (vs := [.ref a, .ref b]) (ea_cons (ev_var rfl) (ea_cons (ev_var rfl) ea_nil)) fun H1 e1 Q q => ⟨a, b, n, k1, al, bl, rfl, hA.ex e1, hB.ex e1, HA, HB, hn, q⟩) ea_nil) fun H1 e1 Q q => ⟨_, rfl, by have := prR_le al bl n k1; omega, ?_⟩) fun v H1 e1 ⟨pd, ev, hd⟩ => ?_
    · rw [prR_worth]
      exact q
    subst ev
    refine q_asgP (P := fun v H' => ∃ p, v = .ref p ∧ H' p = some (.tup (vz (Ma.prV al bl n k1)))) (ep_if (b := nm) (et_B (ev_var rfl)) (fun _ => ep_ck0 (zs := [.ref b, .ref a]) (ea_cons (ev_var rfl) (ea_cons (ev_var rfl) ea_nil)) fun H2 e2 Q q => ⟨a, b, n, k1, al, bl, rfl, hA.ex (e1.trans e2), hB.ex (e1.trans e2), HA, HB, hn, q⟩) (fun _ => ep_call (vs := [.ref a, .ref b]) (ea_cons (ev_var rfl) (ea_cons (ev_var rfl) ea_nil)) fun H2 e2 Q q => ⟨a, b, n, k1, al, bl, rfl, hA.ex (e1.trans e2), hB.ex (e1.trans e2), HA, HB, hn, q⟩)) fun v H2 e2 ⟨pf, ev, hf⟩ => ?_
    subst ev
    have e12 := e1.trans e2
    have hlen := prV_len al bl n k1
    refine q_ifF (et_orF (et_is (et_not (et_B (ev_callV (z := .bl true) (ea_cons (ev_var rfl) (ea_cons (ev_var rfl) ea_nil)) fun H3 e3 Q q => ⟨_, _, rfl, dv_tupZ (e3 _ _ hf) (e3 _ _ (e2 _ _ hd)) (by omega), q⟩))) rfl)
      (et_is (et_not (et_B (ev_callVP (z := .bl true) (P1 := fun v H' => ∃ p, v = .ref p ∧ H' p = some (.tup (vz (Ma.prV al bl n k1)))) (ep_call (vs := [.ref b, .ref a]) (ea_cons (ev_var rfl) (ea_cons (ev_var rfl) ea_nil)) fun H3 e3 Q q => ⟨b, a, n, k1, bl, al, rfl, hB.ex (e12.trans e3), hA.ex (e12.trans e3), HB, HA, hn, by rw [Ma.prV_sym HB HA]; exact q⟩) (fun H3 e3 => ev_var rfl) fun v H3 H4 e3 ⟨p, ev, hp⟩ e4 Q q => ⟨_, _, by rw [ev], dv_tupZ (e4 _ _ hp) (e4 _ _ (e3 _ _ (e2 _ _ hd))) (by omega), q⟩))) rfl)) fun H3 e3 => ?_
    have e13 := e12.trans e3
    have hA3 := hA.ex e13
    have hA3' := hA3
    obtain ⟨q', ha, _⟩ := hA3'
    have ewp : Ma.prV al al n k1 = Ma.wpow ((n - k1) / 2) := Ma.prV_self HA
    refine s_ret (v := .bl true) (ev_callVPP (P1 := fun v H' => ∃ p, v = .ref p ∧ H' p = some (.tup (vz (Ma.wpow ((n - k1) / 2))))) (P2 := fun v H' => ∃ p, v = .ref p ∧ H' p = some (.tup (vz (Ma.wpow ((n - k1) / 2))))) (ep_call (vs := [.ref a, .ref a]) (ea_cons (ev_var rfl) (ea_cons (ev_var rfl) ea_nil)) fun H4 e4 Q q => ⟨a, a, n, k1, al, al, rfl, hA3.ex e4, hA3.ex e4, HA, HA, hn, by rw [ewp]; exact q⟩)
      (fun H4 e4 => ep_call (vs := [vi ((n - k1) / 2)]) (ea_cons (ev_div (b := 2) (ev_op (ev_op (ev_var rfl) ev_c (rv_ixt (e4 _ _ ha) (atI_nat (j := 0) rfl))) (ev_op (ev_var rfl) ev_c (rv_ixt (e4 _ _ ha) (atI_nat (j := 1) rfl))) rv_I0) ev_c (by decide) (by decide) (by decide) (by decide) (by omega)) ea_nil) fun H5 e5 Q q => ⟨_, rfl, by omega, ?_⟩)
      fun v y H4 H5 e4 ⟨p, ev, hp⟩ e5 ⟨p', ey, hp'⟩ Q q => ⟨_, _, by rw [ev, ey], dv_tupZ (e5 _ _ hp) hp' (by unfold Ma.wpow; rw [List.length_append, List.length_replicate]; simp; omega), q⟩) fun H4 e4 => ret H4 (e13.trans e4)
    rw [if_neg (by omega), Int.toNat_natCast]
    exact q
end
end HM
namespace HM
open PySem PySem.Spec PyProof.Rows L2 Evl
def twoN (n : Nat) : Nat := (min n (16 - n) - n % 2) / 2 + 1
def twoOk (n : Nat) : Bool := decide (n = 0) || (Builtin.Range.small ((n % 2 : Nat) : Int) ((min n (16 - n) + 1 : Nat) : Int) 2 && decide (Builtin.Range.rangeSize ((n % 2 : Nat) : Int) ((min n (16 - n) + 1 : Nat) : Int) 2 = (twoN n : Int)))
theorem twoOk_all : (List.range 17).all twoOk = true := by decide +kernel
theorem two_rg {n : Nat} (h1 : 1 ≤ n) (h2 : n ≤ 16) : RgC ((n % 2 : Nat) : Int) ((min n (16 - n) + 1 : Nat) : Int) 2 (twoN n) := by
  have h := List.all_eq_true.mp twoOk_all n (List.mem_range.mpr (by omega))
  unfold twoOk at h
  rw [Bool.or_eq_true, Bool.and_eq_true, decide_eq_true_eq, decide_eq_true_eq] at h
  rcases h with h | ⟨h3, h4⟩
  · omega
  · exact ⟨by decide, by decide, h3, h4⟩
section
variable {K : PySem.W.Frag} {σ : L2.St} {H H' : Hp} {ta tb tc te tx tl : TE} {t u tt : TT} {x y z v : V} {D : Ends} {tu tw tz : TS} {g : TG} {tr : TA}
theorem ev_min2 {i j : Int} (ha : Ev ta σ H (.int i)) (hb : Ev tb σ H (.int j)) : Ev (tCB (fun xs H Q => ∃ i j, xs = [.int i, .int j] ∧ Q (.int (if j < i then j else i)) H) (tCons ta (tCons tb tNil))) σ H (.int (if j < i then j else i)) := fun H1 e Q q =>
  ha H1 e _ fun H2 e2 => hb H2 (e.trans e2) _ fun H3 e3 => ⟨i, j, rfl, q H3 (e2.trans e3)⟩
theorem ev_max2' {i j : Int} (ha : Ev ta σ H (.int i)) (hb : Ev tb σ H (.int j)) : Ev (tCB (fun xs H Q => ∃ i j, xs = [.int i, .int j] ∧ Q (.int (if j > i then j else i)) H) (tCons ta (tCons tb tNil))) σ H (.int (if j > i then j else i)) := fun H1 e Q q =>
  ha H1 e _ fun H2 e2 => hb H2 (e.trans e2) _ fun H3 e3 => ⟨i, j, rfl, q H3 (e2.trans e3)⟩
theorem x_add1 {W G : Addr} {l c : Nat} (h : EvX tb σ H (Drawn W G H l c)) : EvX (tOp (rI0 fun i j => .int (i + j)) (tC (.int 1)) tb) σ H fun v H' => ∃ r, v = vi (1 + r) ∧ r < l ∧ Frm W G H H' ∧ WellAt H' W G (c + 1) := fun Q q =>
  h _ fun y H2 ⟨r, ey, hr, fr, hw⟩ => by
    subst ey
    exact ⟨1, r, rfl, rfl, by
      have := q (vi (1 + r)) H2 ⟨r, rfl, hr, fr, hw⟩
      rwa [show vi (1 + r) = V.int (1 + (r : Int)) by simp] at this⟩
theorem q_parXV {i j l : Nat} {R : V → Hp → Prop} (h : EvX ta σ H R) (hσ : σ[l]? = some (some y)) (k : ∀ v H1, R v H1 → tz D ((σ.set i (some v)).set j (some y)) H1) : tSeq (tPar i j (tCons ta (tCons (tVar l) tNil))) tz D σ H := h _ fun v H1 r => ⟨y, hσ, v, y, rfl, k v H1 r⟩
theorem q_parXX {i j : Nat} {R1 : V → Hp → Prop} {R : V → V → Hp → Prop} (h : EvX ta σ H R1) (h2 : ∀ v H1, R1 v H1 → EvX tb σ H1 (R v)) (k : ∀ v u H1, R v u H1 → tz D ((σ.set i (some v)).set j (some u)) H1) : tSeq (tPar i j (tCons ta (tCons tb tNil))) tz D σ H := h _ fun v H1 r => h2 v H1 r _ fun u H2 r2 => ⟨v, u, rfl, k v u H2 r2⟩
theorem s_retTVX {l : Nat} {R : V → Hp → Prop} (hσ : σ[l]? = some (some y)) (h : EvX te σ H R) (k : ∀ v H1, R v H1 → ∀ p, H1 p = none → D.rt (.ref p) (upd H1 p (.tup [y, v]))) : tRet (tTup (tCons (tVar l) (tCons te tNil))) D σ H :=
  ⟨y, hσ, h _ fun v H1 r => ⟨by show 2 ≤ sizeLine; decide, fun p hp => k v H1 r p hp⟩⟩
theorem x_dhalf {W G : Addr} {E : XK} {ta : TA} {n k c : Nat} (hW : WellAt H W G c) (h : EvA ta σ H [.ref W, vi n, vi k]) (h1 : 1 ≤ n) (h2 : n ≤ 16) (h3 : k ≤ n) (h4 : (n - k) % 2 = 0) (hc : c ≤ 900) : EvX (tCall spDrawnHalf [] E ta) σ H fun v H' => Frm W G H H' ∧ WellAt H' W G (c + 16) ∧ ∃ p d, v = .ref p ∧ MatAt H' p n k d ∧ Ma.Half n k d :=
  x_callA (xa_of h) fun vs H1 ⟨ev, e1⟩ Q q => ⟨W, G, n, k, c, ev, h1, h2, h3, h4, hW.ex e1, hc, fun v H2 fr hw hv => q _ _ ⟨(Frm.of e1).trans fr, hw, hv⟩⟩
theorem g_made {i j r n k l : Nat} {ms : List Nat} {p : Addr} {R : L2.St → Hp → Prop} (h : MadeAt H p r n k ms) (q : ∀ a, MatAt H a n k ms → R ((σ.set i (some (vi r))).set j (some (.ref a))) H) (hl : l = 2 := by rfl) : gTup K l (gCons (gName i) (gCons (gName j) gNil)) (.ref p) σ H R := by
  obtain ⟨a, h1, h2⟩ := h
  exact ⟨p, _, rfl, st_of h1, by rw [hl]; rfl, _, _, rfl, _, _, rfl, rfl, q a h2⟩
end
section
variable {P : Program} {w : World} {K : PySem.W.Frag} {mg : Str → Option Value} {base : Heap}
def spTwo : Sp := fun vs H Q _ => ∃ (W G : Addr) (c : Nat), vs = [.ref W] ∧ WellAt H W G c ∧ c ≤ 850 ∧
  ∀ v H', Frm W G H H' → WellAt H' W G (c + 40) → (∃ (p a b : Addr) (n k : Nat) (al bl : List Nat), v = .ref p ∧ H' p = some (.tup [.ref a, .ref b]) ∧ MatAt H' a n k al ∧ MatAt H' b n k bl ∧ Ma.Half n k al ∧ Ma.Half n k bl ∧ n ≤ 300) → Q v H'
theorem ok_law_two (B : Bt mg) (D : DefOk K mg "_law_two" s__law_two) (C__law_draw : Cal P w K mg base 1 "_law_draw" spDraw) (C__law_drawn_half : Cal P w K mg base 2 "_law_drawn_half" spDrawnHalf) (C__law_put : Cal P w K mg base 1 "_law_put" spLawPut) (C__law_hook : Cal P w K mg base 1 "_law_hook" spHook) : Cal P w K mg base 3 "_law_two" spTwo := by
  refine cal_of D sc__law_two (fun _ _ _ _ _ _ us hl => match us, hl with | [_], _ => rfl) (fun vs H Q E h => ?_) (fun f cdv A outer s H vs Q E hr h => ?_)
  · obtain ⟨W, G, c, rfl, _⟩ := h; rfl
  · obtain ⟨W, G, c, rfl, hW, hc, ret⟩ := h
    refine ⟨_, (pss_cons (ps_set (i := 1) sc__law_two.nd rfl (.inr rfl) (pe_op op_add pe_int (pe_c C__law_draw hr (by decide) (by rfl) (pa_cons (pv 0) (pa_cons pe_int pa_nil)))))
  (pss_cons (ps_set (i := 2) sc__law_two.nd rfl (.inl rfl) (pe_listRg3 rfl (by rfl) B.list_ (by rfl) B.range_ (pa_cons (pe_op op_mod (pe_callTy call_int1 (by rfl) B.int_ (by decide +kernel) (pa_cons (pv 1) pa_nil)) pe_int) (pa_cons (pe_op op_add (pe_callB (call_min2 rfl) (by rfl) B.min_ (by decide +kernel) (pa_cons (pv 1) (pa_cons (pe_op op_sub pe_int (pv 1)) pa_nil))) pe_int) (pa_cons pe_int pa_nil)))))
  (pss_cons (ps_set (i := 3) sc__law_two.nd rfl (.inl rfl) (pe_ix ix_seq (pv 2) (pe_c C__law_draw hr (by decide) (by rfl) (pa_cons (pv 0) (pa_cons (pe_callB call_len_seq (by rfl) B.len_ PySem.boot_len (pa_cons (pv 2) pa_nil)) pa_nil))) (fun _ _ => rfl)))
  (pss_cons (ps_set (i := 4) sc__law_two.nd rfl (.inl rfl) (pe_c C__law_drawn_half hr (by decide) (by rfl) (pa_cons (pv 0) (pa_cons (pv 1) (pa_cons (pv 3) pa_nil)))))
  (pss_cons (ps_par (i := 5) (j := 6) rfl sc__law_two.nd rfl rfl (by decide) rfl rfl (pa_cons (pe_c C__law_draw hr (by decide) (by rfl) (pa_cons (pv 0) (pa_cons pe_int pa_nil))) (pa_cons (pv 4) pa_nil)) rfl)
  (pss_cons (ps_if (pt_cmpR op_eq (pv 5) pe_int (nomark _)) (pss_one (ps_ret (pe_tup (pa_cons (pv 4) (pa_cons (pe_c C__law_drawn_half hr (by decide) (by rfl) (pa_cons (pv 0) (pa_cons (pv 1) (pa_cons (pv 3) pa_nil)))) pa_nil))))) pss_nil)
  (pss_cons (ps_for PassesOwn.never rfl (pi_range1 (by rfl) B.range_ (pa_cons (pe_op op_mulW (pv 5) (pe_callTy call_int1 (by rfl) B.int_ (by decide +kernel) (pa_cons (pe_cmpR op_gt (pv 1) pe_int (nomark _)) pa_nil))) pa_nil)) (pg_name (i := 7) sc__law_two.nd rfl (.inl rfl))
  (pss_cons (ps_asg (pe_c C__law_put hr (by decide) (by rfl) (pa_cons (pe_c C__law_hook hr (by decide) (by rfl) (pa_cons (pv 1) (pa_cons (pe_c C__law_draw hr (by decide) (by rfl) (pa_cons (pv 0) (pa_cons (pe_callB (call_max2 rfl) (by rfl) B.max_ (by decide +kernel) (pa_cons pe_int (pa_cons (pe_op op_sub (pv 1) pe_int) pa_nil))) pa_nil))) pa_nil))) (pa_cons (pv 6) pa_nil))) (pg_tup rfl (pgs_cons (pg_name (i := 8) sc__law_two.nd rfl (.inl rfl)) (pgs_cons (pg_name (i := 9) sc__law_two.nd rfl (.inl rfl)) pgs_nil))))
  (pss_one (ps_if (pt_cmpR op_eq (pe_callB call_len_seq (by rfl) B.len_ PySem.boot_len (pa_cons (pe_lc (own := [("_law_mate", 10)]) (g := gName 10) (tt := (tTest (tOp rGe (tVar 10) (tVar 1)))) (te := (tVar 10)) rfl sc__law_two.nd (pi_tup (pe_slice sl_tupA (pe_ix ix_seq (pv 9) pe_int (fun _ _ => rfl)) po_none (po_some (pv 1)))) (blkOk_by (N := N__law_two) (sc := defScope s__law_two) (by decide +kernel)) (fun _ _ _ _ _ => (pg_name (i := 10) sc__law_two.nd rfl (.inl rfl))) (fun _ _ _ _ _ => pts_one (pt_cmpR op_ge (pv 10) (pv 1) (nomark _))) (fun _ _ _ _ _ => (pv 10))) pa_nil)) (pv 3) (nomark _)) (pss_one (ps_set (i := 6) sc__law_two.nd rfl (.inl rfl) (pv 9))) pss_nil))))
  (pss_one (ps_ret (pe_tup (pa_cons (pv 4) (pa_cons (pv 6) pa_nil)))))))))))), ?_⟩
    refine q_asgX (x_add1 (x_draw (l := 16) hW (ea_cons (ev_var rfl) (ea_cons ev_c ea_nil)) (by decide) (by decide) (by omega))) fun v H1 ⟨r0, ev, hr0, fr1, hW1⟩ => ?_
    subst ev
    generalize hn : 1 + r0 = n
    have hn1 : 1 ≤ n := by omega
    have hn2 : n ≤ 16 := by omega
    have tn : 1 ≤ twoN n ∧ twoN n ≤ 5 := by unfold twoN; omega
    refine q_asgL (xs := vl ((List.range (twoN n)).map fun t => n % 2 + t * 2)) (el_is (el_rg3 (i := ((n % 2 : Nat) : Int)) (j := ((min n (16 - n) + 1 : Nat) : Int)) (c := 2) (n := twoN n) (ea_cons (ev_mod (ev_intI (ev_var rfl)) ev_c (by decide) (by omega)) (ea_cons (ev_add (ev_min2 (i := (n : Int)) (j := 16 - (n : Int)) (ev_var rfl) (ev_op ev_c (ev_var rfl) rv_I0)) ev_c ?_) (ea_cons ev_c ea_nil))) (two_rg hn1 hn2) (by omega)) ?_) fun ps H2 nps e2 hps => ?_
    · split <;> omega
    · unfold vl
      rw [List.map_map]
      refine List.map_congr_left fun t _ => ?_
      show V.int _ = V.int _
      congr 1
    have hW2 := hW1.ex e2
    obtain ⟨sW, sG⟩ := hW1.fresh nps
    have hlen : (vl ((List.range (twoN n)).map fun t => n % 2 + t * 2)).length = twoN n := by simp
    refine q_asgX (x_pick (a := ps) (xs := vl ((List.range (twoN n)).map fun t => n % 2 + t * 2)) hW2 (ev_var rfl) hps ⟨sW.symm, sG.symm⟩ (fun H3 e3 => ea_cons (ev_var rfl) (ea_cons (ev_lenL (p := ps) (ev_var rfl) (e3 _ _ hps) rfl) ea_nil)) (by rw [hlen]; omega) (by rw [hlen]; omega) (by omega)) fun v H3 ⟨⟨r, hr, hv⟩, fr3, hW3⟩ => ?_
    obtain ⟨hr2, rfl⟩ := vl_get hv
    rw [hlen] at hr
    rw [Ma.g_map hr]
    generalize hk : n % 2 + r * 2 = k
    have hk1 : k ≤ n ∧ (n - k) % 2 = 0 := by unfold twoN at hr; omega
    refine q_asgX (x_dhalf hW3 (ea_cons (ev_var rfl) (ea_cons (ev_var rfl) (ea_cons (ev_var rfl) ea_nil))) hn1 hn2 hk1.1 hk1.2 (by omega)) fun v H4 ⟨fr4, hW4, a, al, ev, hA, HA⟩ => ?_
    subst ev
    have fr14 : Frm W G H H4 := ((fr1.trans (.of e2)).trans fr3).trans fr4
    refine q_parXV (y := .ref a) (x_draw (l := 4) hW4 (ea_cons (ev_var rfl) (ea_cons ev_c ea_nil)) (by decide) (by decide) (by omega)) rfl fun v H5 ⟨kd, ev, hkd, fr5, hW5⟩ => ?_
    subst ev
    have hA5 := hA.frm hW4 fr5
    have fr15 := fr14.trans fr5
    refine q_when (b := decide (kd = 0)) (et_eq (ev_var rfl) ev_c (by simp)) (fun hb H6 e6 => ?_) (fun hb H6 e6 => ?_)
    · refine s_retTVX (y := .ref a) rfl (x_dhalf (hW5.ex e6) (ea_cons (ev_var rfl) (ea_cons (ev_var rfl) (ea_cons (ev_var rfl) ea_nil))) hn1 hn2 hk1.1 hk1.2 (by omega)) fun v H7 ⟨fr7, hW7, b, bl, ev, hB, HB⟩ p np => ?_
      subst ev
      have hA7 := (hA5.ex e6).frm (hW5.ex e6) fr7
      exact ret _ _ (((fr15.trans (.of e6)).trans fr7).trans (.of (Ex.new np))) ((hW7.ex (Ex.new np)).le (by omega)) ⟨p, a, b, n, k, al, bl, rfl, upd_same, hA7.ex (Ex.new np), hB.ex (Ex.new np), HA, HB, by omega⟩
    · refine q_forR1 (n := (kd : Int) * (if 1 < n then 1 else 0)) (ea_cons (ev_mul (a := (kd : Int)) (b := if 1 < n then 1 else 0) (ev_var rfl) (ev_is (ev_intB (b := decide (1 < n)) (ev_is (ev_op (ev_var rfl) ev_c rv_I0) (by congr 1; exact decide_eq_decide.mpr (by omega)))) (by simp)) (by omega) (by split <;> decide) rfl) ea_nil) ⟨by split <;> omega, by split <;> omega⟩
        (fun t σ' H' => Frm W G H H' ∧ WellAt H' W G (c + 19 + t) ∧ MatAt H' a n k al ∧ ∃ b bl v7 v8 v9, MatAt H' b n k bl ∧ Ma.Half n k bl ∧ σ' = [some (.ref W), some (vi n), some (.ref ps), some (vi k), some (.ref a), some (vi kd), some (.ref b), v7, v8, v9, none])
        (fun H7 e7 => ⟨fr15.trans (.of (e6.trans e7)), hW5.ex (e6.trans e7), hA5.ex (e6.trans e7), a, al, none, none, none, hA5.ex (e6.trans e7), HA, rfl⟩) ?_ ?_
      · rintro t σ' H' ht ⟨fr, hW', hA', b, bl, v7, v8, v9, hB', HB, rfl⟩
        have hn3 : 1 < n := by
          apply Classical.byContradiction
          intro z
          rw [if_neg z] at ht
          omega
        rw [if_pos hn3] at ht
        refine q_asgXG (R := fun v H2 => ∃ p i, i + 1 < n ∧ v = .ref p ∧ Frm W G H' H2 ∧ WellAt H2 W G (c + 19 + t + 1) ∧ MadeAt H2 p (Ma.rgs (Ma.g (Ma.hkL n i)) (Ma.g bl) n n) n k (Ma.putM (Ma.g (Ma.hkL n i)) (Ma.g bl) n n k)) (x_callA (RA := fun vs H2 => ∃ ah i, i + 1 < n ∧ vs = [.ref ah, .ref b] ∧ Frm W G H' H2 ∧ WellAt H2 W G (c + 19 + t + 1) ∧ MatAt H2 ah n n (Ma.hkL n i)) (xa_cons (R1 := fun v H2 => ∃ ah i, i + 1 < n ∧ v = .ref ah ∧ Frm W G H' H2 ∧ WellAt H2 W G (c + 19 + t + 1) ∧ MatAt H2 ah n n (Ma.hkL n i)) (x_callA (RA := fun vs H2 => ∃ i, i + 1 < n ∧ vs = [vi n, vi i] ∧ Frm W G H' H2 ∧ WellAt H2 W G (c + 19 + t + 1)) (xa_cons (x_of (v := vi n) (ev_var rfl)) (fun v H2 ⟨ev, e2⟩ => xa_cons (x_draw (l := n - 1) (hW'.ex e2) (ea_cons (ev_var rfl) (ea_cons (ev_is (ev_max2' (i := 1) (j := (n : Int) - 1) ev_c (ev_op (ev_var rfl) ev_c rv_I0)) ?_) ea_nil)) (by omega) (by omega) (by omega)) fun v' H3 ⟨i, ev', hi, fr3, hW3⟩ Q q => q [] H3 ⟨i, by omega, by rw [ev, ev'], (Frm.of e2).trans fr3, hW3⟩)) (fun vs H2 ⟨i, hi, ev, fr2, hW2⟩ Q q => ⟨n, i, ev, hi, by omega, fun v H3 e3 ⟨p, ev3, hp⟩ => q v H3 ⟨p, i, hi, ev3, fr2.trans (.of e3), hW2.ex e3, hp⟩⟩)) (fun v H2 ⟨ah, i, hi, ev, fr2, hW2, hh⟩ => xa_cons (x_of (v := .ref b) (ev_var rfl)) fun v' H3 ⟨ev', e3⟩ Q q => q [] H3 ⟨ah, i, hi, by rw [ev, ev'], fr2.trans (.of e3), hW2.ex e3, hh.ex e3⟩))
          (fun vs H2 ⟨ah, i, hi, ev, fr2, hW2, hh⟩ Q q => ⟨ah, b, n, n, k, Ma.hkL n i, Ma.hkL n i, bl, ev, ⟨hh, hB'.frm hW' fr2, Ma.hk_flip hi, Ma.hk_inv hi, HB.mat.inv_, HB.mat.len, by omega⟩, fun v H3 e3 ⟨p, ev3, hp⟩ => q v H3 ⟨p, i, hi, ev3, fr2.trans (.of e3), hW2.ex e3, hp⟩⟩)) fun v H2 ⟨p, i, hi, ev, fr2, hW2, hM⟩ => ?_
        · show V.int _ = V.int _
          congr 1
          split <;> omega
        subst ev
        refine g_made hM fun am hm => ?_
        have M := Ma.hk_put hi HB.mat
        have hA2 := hA'.frm hW' fr2
        have hB2 := hB'.frm hW' fr2
        have hm' := hm
        obtain ⟨qm, hm1, hm2⟩ := hm'
        generalize Ma.putM (Ma.g (Ma.hkL n i)) (Ma.g bl) n n k = ms at hm hm1 hm2 M ⊢
        refine s_when (b := decide (Ma.thr n ms = k)) (et_eq (a := (Ma.thr n ms : Int)) (ev_isI (ev_lenN (el_is (el_lcTu (xs := vl (ms.take n)) (fun i => decide (n ≤ Ma.g (ms.take n) i)) (fun i => vi (Ma.g (ms.take n) i)) (by rw [← vl_take]; exact etu_take (a := qm) (ev_op (ev_var rfl) ev_c (rv_ixt hm1 (atI_nat (j := 2) rfl))) (ev_var rfl) hm2) (by rw [List.length_map, List.length_take]; omega) (fun x => rfl) (fun j x H3 e3 hx => ?_) (fun j x H3 e3 hx _ => ?_)) (xs := _) (ys := vl ((ms.take n).filter fun x => decide (n ≤ x))) ?_)) ?_) (ev_var rfl) (decide_eq_decide.mpr (by omega))) (fun hb H3 e3 => ?_) (fun hb H3 e3 => ?_)
        · obtain ⟨_, rfl⟩ := vl_get hx
          exact et_ge (ev_var rfl) (ev_var rfl) (by simp)
        · obtain ⟨_, rfl⟩ := vl_get hx
          exact ev_var rfl
        · rw [List.length_map]
          exact given_list (ms.take n) (fun x => decide (n ≤ x)) vi
        · rw [List.length_map]
          rfl
        · have hb := of_decide_eq_true hb
          refine s_asg (v := .ref am) (ev_var rfl) fun H4 e4 => ?_
          have e34 := e3.trans e4
          exact ⟨(fr.trans fr2).trans (.of e34), (hW2.ex e34), hA2.ex e34, am, ms, _, _, _, hm.ex e34, ⟨M, hb⟩, rfl⟩
        · exact ⟨(fr.trans fr2).trans (.of e3), (hW2.ex e3), hA2.ex e3, b, bl, _, _, _, hB2.ex e3, HB, rfl⟩
      · rintro σ' H' ⟨fr, hW', hA', b, bl, v7, v8, v9, hB', HB, rfl⟩
        have ht : ((kd : Int) * (if 1 < n then 1 else 0)).toNat ≤ 3 := by split <;> omega
        refine s_retU (eu_tup (vs := [.ref a, .ref b]) (ea_cons (ev_var rfl) (ea_cons (ev_var rfl) ea_nil)) (by simp)) fun p H7 np e7 hp => ?_
        exact ret _ _ (fr.trans (.of e7)) ((hW'.ex e7).le (by omega)) ⟨p, a, b, n, k, al, bl, rfl, hp, hA'.ex e7, hB'.ex e7, HA, HB, by omega⟩
end
end HM
namespace HM
open PySem PySem.Spec PyProof.Rows L2 Evl
section
variable {K : PySem.W.Frag} {σ : L2.St} {H H' : Hp} {ta tb tc te tx tl : TE} {t u tt : TT} {x y z v : V} {D : Ends} {tu tw tz : TS} {g : TG} {tr : TA}
theorem elp_if {b : Bool} {P : List V → Hp → Prop} (h : EvT t σ H b) (h1 : b = true → EvLP ta σ H P) (h2 : b = false → EvLP tb σ H P) : EvLP (tIf t ta tb) σ H P := fun H1 e Q q => h H1 e _ fun H2 e2 => by
  cases b with
  | true => exact (h1 rfl) H2 (e.trans e2) Q fun p H3 ys np e3 h p' => q p H3 ys (fresh_back e2 np) (e2.trans e3) h p'
  | false => exact (h2 rfl) H2 (e.trans e2) Q fun p H3 ys np e3 h p' => q p H3 ys (fresh_back e2 np) (e2.trans e3) h p'
theorem elp_ck0 {sp : Sp} {E : XK} {tk : TA} {zs : List V} {P : List V → Hp → Prop} (h : EvA tk σ H zs) (hs : ∀ H1, Ex H H1 → ∀ Q : VK, (∀ p H2 ys, H1 p = none → Ex H1 H2 → H2 p = some (.lst ys) → P ys H2 → Q (.ref p) H2) → sp (gRev [] zs) H1 Q E) : EvLP (tCk0 sp gRev E tk) σ H P := fun H1 e Q q =>
  h H1 e _ fun H2 e2 => hs H2 (e.trans e2) Q fun p H3 ys np e3 h p' => q p H3 ys (fresh_back e2 np) (e2.trans e3) h p'
theorem ep_ofL {P : List V → Hp → Prop} (h : EvLP te σ H P) : EvP te σ H fun v H' => ∃ p ys, v = .ref p ∧ H' p = some (.lst ys) ∧ P ys H' := fun H1 e Q q => h H1 e Q fun p H2 ys _ e2 hp py => q _ H2 e2 ⟨p, ys, rfl, hp, py⟩
theorem x_lst {ta : TA} {RA : List V → Hp → Prop} (h : EvXA ta σ H RA) (hl : ∀ vs H1, RA vs H1 → vs.length ≤ 100000) : EvX (tLst ta) σ H fun v H' => ∃ vs H1 p, RA vs H1 ∧ v = .ref p ∧ H1 p = none ∧ H' = upd H1 p (.lst vs) := fun Q q =>
  h _ fun vs H1 r => ⟨sz_of (hl vs H1 r), fun p hp => q _ _ ⟨vs, H1, p, r, rfl, hp, rfl⟩⟩
/-- a draw, halved -/
theorem x_half {W G : Addr} {l c : Nat} (h : EvX ta σ H (Drawn W G H l c)) : EvX (tOp (rI CDivW fun i j => .int (i / j)) ta (tC (.int 2))) σ H fun v H' => ∃ r, v = vi (r / 2) ∧ r < l ∧ Frm W G H H' ∧ WellAt H' W G (c + 1) := fun Q q =>
  h _ fun y H2 ⟨r, ey, hr, fr, hw⟩ => by
    subst ey
    exact ⟨(r : Int), 2, rfl, rfl, wide_div (b := 2) (by decide) (by decide) (by decide) (by decide), by
      have := q (vi (r / 2)) H2 ⟨r, rfl, hr, fr, hw⟩
      rwa [show vi (r / 2) = V.int ((r : Int) / 2) by simp] at this⟩
theorem q_popAt {i : Nat} {l : Addr} {xs : List V} {R : V → Hp → Prop} (hσ : σ[i]? = some (some (.ref l))) (hl : H l = some (.lst xs)) (h : EvX te σ H R) (k : ∀ v H1, R v H1 → ∃ r, v = vi r ∧ r < xs.length ∧ r < 1000 ∧ H1 l = some (.lst xs) ∧ tz D σ (upd H1 l (.lst (xs.eraseIdx r)))) :
    tSeq (tDrop (tBM K "list" rPopAt (tVar i) (tCons te tNil))) tz D σ H :=
  ⟨.ref l, hσ, Or.inl ⟨rfl, xs, sq_of hl⟩, h _ fun v H1 rr => by
    obtain ⟨r, rfl, hr, h3, hl1, h4⟩ := k v H1 rr
    refine ⟨l, xs, (r : Int), r, xs[r], rfl, rfl, hl1, by omega, by omega, ?_, List.getElem?_eq_getElem hr, h4⟩
    have h0 : ¬ ((r : Int) < 0) := by omega
    have h1 : (0 : Int) ≤ (r : Int) := by omega
    have h2 : (r : Int) < (xs.length : Int) := by omega
    simp only [seqIndex?, if_neg h0]
    simp [hr]⟩
theorem q_insert0 {l : Addr} {xs : List V} (hl : H l = some (.lst xs)) (ha : Ev ta σ H (.ref l)) (hi : Ev tb σ H (.int 0)) (h : Ev te σ H v) (hz : xs.length < 100000) (k : ∀ H1, Ex H H1 → tz D σ (upd H1 l (.lst (v :: xs)))) :
    tSeq (tDrop (tBM K "list" (fun x vs H Q => ∃ (l : Addr) (xs : List V) (i : Int) (y : V), x = .ref l ∧ vs = [.int i, y] ∧ H l = some (.lst xs) ∧ xs.length < sizeLine ∧ 0 ≤ i ∧ i < 2 ^ 63 ∧ Q .non (upd H l (.lst (xs.take i.toNat ++ [y] ++ xs.drop i.toNat)))) ta (tCons tb (tCons te tNil)))) tz D σ H := s_insert0 (D := { D with nx := tz D }) hl ha hi h hz k
theorem paired_frm {W G : Addr} {n k c : Nat} {ys : List V} {ds : List (List Nat)} (h : Paired (MatV n k H) ys ds) (w : WellAt H W G c) (f : Frm W G H H') : Paired (MatV n k H') ys ds := L2.Paired.mapP h fun _ _ ⟨p, e, m⟩ => ⟨p, e, m.frm w f⟩
end
section
variable {P : Program} {w : World} {K : PySem.W.Frag} {mg : Str → Option Value} {base : Heap}
def spListRight : Sp := fun vs H Q _ => ∃ (W G : Addr) (c : Nat) (nm : Bool), vs = [.ref W, .bl nm] ∧ WellAt H W G c ∧ c ≤ 800 ∧ ∀ H', Frm W G H H' → WellAt H' W G (c + 50) → Q (.bl true) H'
theorem ok_law_list_right (B : Bt mg) (D : DefOk K mg "_law_list_right" s__law_list_right) (C__law_draw : Cal P w K mg base 1 "_law_draw" spDraw) (C__law_halves : Cal P w K mg base 2 "_law_halves" spLawHalves) (C_half_mats : Cal P w K mg base 3 "half_mats" spHalfMats) (KW_half_mats : CalK P w K mg base 3 "half_mats" spHalfMats ["k", "n"] gRev)
    (C__law_same : Cal P w K mg base 4 "_law_same" (spSame 3)) (C__law_pair_right : Cal P w K mg base 7 "_law_pair_right" spPairRight) (C__law_mat : Cal P w K mg base 2 "_law_mat" spLawMat) (C_upper_half : Cal P w K mg base 4 "upper_half" spUpper) (C__law_drawn_half : Cal P w K mg base 2 "_law_drawn_half" spDrawnHalf) :
    Cal P w K mg base 8 "_law_list_right" spListRight := by
  refine cal_of D sc__law_list_right (fun _ _ _ _ _ _ us hl => match us, hl with | [_, _], _ => rfl) (fun vs H Q E h => ?_) (fun f cdv A outer s H vs Q E hr h => ?_)
  · obtain ⟨W, G, c, nm, rfl, _⟩ := h; rfl
  · obtain ⟨W, G, c, nm, rfl, hW, hc, ret⟩ := h
    refine ⟨_, (pss_cons (ps_set (i := 2) sc__law_list_right.nd rfl (.inl rfl) (pe_op op_add pe_int (pe_ix ix_seq (pe_lst (pa_cons (pe_c C__law_draw hr (by decide) (by rfl) (pa_cons (pv 0) (pa_cons pe_int pa_nil))) (pa_cons (pe_c C__law_draw hr (by decide) (by rfl) (pa_cons (pv 0) (pa_cons pe_int pa_nil))) (pa_cons (pe_c C__law_draw hr (by decide) (by rfl) (pa_cons (pv 0) (pa_cons pe_int pa_nil))) pa_nil)))) (pe_op op_fdivW (pe_c C__law_draw hr (by decide) (by rfl) (pa_cons (pv 0) (pa_cons pe_int pa_nil))) pe_int) (fun _ _ => rfl))))
  (pss_cons (ps_set (i := 3) sc__law_list_right.nd rfl (.inl rfl) (pe_op op_add (pe_op op_mod (pe_callTy call_int1 (by rfl) B.int_ (by decide +kernel) (pa_cons (pv 2) pa_nil)) pe_int) (pe_op op_mulW pe_int (pe_c C__law_draw hr (by decide) (by rfl) (pa_cons (pv 0) (pa_cons (pe_op op_add (pe_op op_fdivW (pv 2) pe_int) pe_int) pa_nil))))))
  (pss_cons (ps_set (i := 4) sc__law_list_right.nd rfl (.inl rfl) (pe_c C__law_halves hr (by decide) (by rfl) (pa_cons (pv 2) (pa_cons (pv 3) pa_nil))))
  (pss_cons (ps_set (i := 5) sc__law_list_right.nd rfl (.inl rfl) (pe_ifExp (pt_val (pv 1)) (pe_ck0 KW_half_mats hr (by decide) (by rfl) (pk_cons (pv 3) (pk_cons (pv 2) pk_nil))) (pe_c C_half_mats hr (by decide) (by rfl) (pa_cons (pv 2) (pa_cons (pv 3) pa_nil)))))
  (pss_cons (ps_if (pt_not (pt_val (pe_c C__law_same hr (by decide) (by rfl) (pa_cons (pv 5) (pa_cons (pv 4) pa_nil))))) (pss_one (ps_ret pe_bl)) pss_nil)
  (pss_cons (ps_par (i := 6) (j := 7) rfl sc__law_list_right.nd rfl rfl (by decide) rfl rfl (pa_cons (pe_ix ix_seq (pv 5) (pe_c C__law_draw hr (by decide) (by rfl) (pa_cons (pv 0) (pa_cons (pe_callB call_len_seq (by rfl) B.len_ PySem.boot_len (pa_cons (pv 5) pa_nil)) pa_nil))) (fun _ _ => rfl)) (pa_cons (pe_ix ix_seq (pv 5) (pe_c C__law_draw hr (by decide) (by rfl) (pa_cons (pv 0) (pa_cons (pe_callB call_len_seq (by rfl) B.len_ PySem.boot_len (pa_cons (pv 5) pa_nil)) pa_nil))) (fun _ _ => rfl)) pa_nil)) rfl)
  (pss_cons (ps_expr (pe_bm PySem.F.plainAttrs_list PySem.F.slot_list_pop PySem.F.type_list_pop mt_popAt (pv 5) (pa_cons (pe_c C__law_draw hr (by decide) (by rfl) (pa_cons (pv 0) (pa_cons (pe_callB call_len_seq (by rfl) B.len_ PySem.boot_len (pa_cons (pv 5) pa_nil)) pa_nil))) pa_nil)))
  (pss_cons (ps_expr (pe_bm PySem.F.plainAttrs_list PySem.F.slot_list_insert PySem.F.type_list_insert mt_insert (pv 5) (pa_cons pe_int (pa_cons pe_non pa_nil))))
  (pss_cons (ps_if (PW.pt (pw_or (pt_not (pt_val (pe_c C__law_same hr (by decide) (by rfl) (pa_cons (pe_c C_half_mats hr (by decide) (by rfl) (pa_cons (pv 2) (pa_cons (pv 3) pa_nil))) (pa_cons (pv 4) pa_nil))))) (pw_or1 (pt_not (pt_val (pe_c C__law_pair_right hr (by decide) (by rfl) (pa_cons (pv 6) (pa_cons (pv 7) (pa_cons (pv 1) pa_nil))))))))) (pss_one (ps_ret pe_bl)) pss_nil)
  (pss_cons (ps_par (i := 8) (j := 9) rfl sc__law_list_right.nd rfl rfl (by decide) rfl rfl (pa_cons (pe_op op_add pe_int (pe_c C__law_draw hr (by decide) (by rfl) (pa_cons (pv 0) (pa_cons pe_int pa_nil)))) (pa_cons (pe_op op_add pe_int (pe_c C__law_draw hr (by decide) (by rfl) (pa_cons (pv 0) (pa_cons pe_int pa_nil)))) pa_nil)) rfl)
  (pss_cons (ps_set (i := 10) sc__law_list_right.nd rfl (.inl rfl) (pe_c C__law_mat hr (by decide) (by rfl) (pa_cons (pv 0) (pa_cons (pv 8) (pa_cons (pe_op op_add (pv 9) (pe_callTy call_int1 (by rfl) B.int_ (by decide +kernel) (pa_cons (pe_cmpR op_eq (pe_op op_mod (pe_callTy call_int1 (by rfl) B.int_ (by decide +kernel) (pa_cons (pe_op op_add (pv 8) (pv 9)) pa_nil)) pe_int) pe_int (nomark _)) pa_nil))) pa_nil)))))
  (pss_cons (ps_set (i := 11) sc__law_list_right.nd rfl (.inl rfl) (pe_c C_upper_half hr (by decide) (by rfl) (pa_cons (pv 10) pa_nil)))
  (pss_one (ps_ret (pe_c C__law_pair_right hr (by decide) (by rfl) (pa_cons (pv 11) (pa_cons (pe_c C__law_drawn_half hr (by decide) (by rfl) (pa_cons (pv 0) (pa_cons (pe_ix ix_seq (pv 11) pe_int (fun _ _ => rfl)) (pa_cons (pe_ix ix_seq (pv 11) pe_int (fun _ _ => rfl)) pa_nil)))) (pa_cons (pv 1) pa_nil)))))))))))))))))), ?_⟩
    -- n
    refine q_asgX (R := fun v H2 => ∃ r, r < 8 ∧ v = vi (1 + r) ∧ Frm W G H H2 ∧ WellAt H2 W G (c + 4)) (x_op (R2' := fun x y H2 => ∃ r, r < 8 ∧ x = .int 1 ∧ y = vi r ∧ Frm W G H H2 ∧ WellAt H2 W G (c + 4)) (x_of ev_c) (fun x H1 ⟨ex, e1⟩ => (x_op (R := fun v H2 => ∃ r, r < 8 ∧ v = vi r ∧ Frm W G H H2 ∧ WellAt H2 W G (c + 4)) (R2' := fun p j H2 => ∃ (q : Addr) (a b d r : Nat), a < 6 ∧ b < 6 ∧ d < 8 ∧ r < 6 ∧ p = .ref q ∧ j = vi (r / 2) ∧ H2 q = some (.lst [vi a, vi b, vi d]) ∧ Frm W G H H2 ∧ WellAt H2 W G (c + 4))
        (x_lst (RA := fun vs H2 => ∃ (a b d : Nat), a < 6 ∧ b < 6 ∧ d < 8 ∧ vs = [vi a, vi b, vi d] ∧ Frm W G H H2 ∧ WellAt H2 W G (c + 3)) (xa_cons (x_draw (l := 6) (hW.ex e1) (ea_cons (ev_var rfl) (ea_cons ev_c ea_nil)) (by decide) (by decide) (by omega)) fun v1 H2 ⟨a, ev1, ha, fr2, hW2⟩ => xa_cons (x_draw (l := 6) hW2 (ea_cons (ev_var rfl) (ea_cons ev_c ea_nil)) (by decide) (by decide) (by omega)) fun v2 H3 ⟨b, ev2, hb, fr3, hW3⟩ => xa_cons (x_draw (l := 8) hW3 (ea_cons (ev_var rfl) (ea_cons ev_c ea_nil)) (by decide) (by decide) (by omega)) fun v3 H4 ⟨d, ev3, hd, fr4, hW4⟩ Q q => q [] H4 ⟨a, b, d, ha, hb, hd, by rw [ev1, ev2, ev3], (((Frm.of e1).trans fr2).trans fr3).trans fr4, hW4⟩) (fun vs H1 ⟨a, b, d, _, _, _, ev, _⟩ => by rw [ev]; simp))
        (fun v H5 ⟨vs, H4, p, ⟨a, b, d, ha, hb, hd, ev, fr4, hW4⟩, evp, np, eH⟩ => by
          subst eH
          subst ev
          obtain ⟨pW, pG⟩ := hW4.fresh np
          exact (x_half (x_draw (l := 6) (hW4.upd pW pG) (ea_cons (ev_var rfl) (ea_cons ev_c ea_nil)) (by decide) (by decide) (by omega))).imp fun y H6 ⟨r, ey, hr, fr6, hW6⟩ => ⟨p, a, b, d, r, ha, hb, hd, hr, evp, ey, fr6 _ _ upd_same pW.symm pG.symm, (fr4.trans (.of (Ex.new np))).trans fr6, hW6⟩)
        (fun p j H2 ⟨q, a, b, d, r, ha, hb, hd, hr, ep, ej, hq, fr2, hW2⟩ Q k => by
          subst ep
          subst ej
          have hget : ∃ y : Nat, y < 8 ∧ ([vi a, vi b, vi d] : List V)[r / 2]? = some (vi y) := by
            have : r / 2 = 0 ∨ r / 2 = 1 ∨ r / 2 = 2 := by omega
            rcases this with e | e | e
            · exact ⟨a, by omega, by rw [e]; rfl⟩
            · exact ⟨b, by omega, by rw [e]; rfl⟩
            · exact ⟨d, by omega, by rw [e]; rfl⟩
          obtain ⟨y, hy, hg⟩ := hget
          exact rv_ixl hq (atI_nat hg) H2 (Ex.refl H2) Q fun H3 e3 => k _ H3 ⟨y, hy, rfl, fr2.trans (.of e3), hW2.ex e3⟩)).imp fun v H2 ⟨r, hr, ev, fr2, hW2⟩ => ⟨r, hr, ex, ev, fr2, hW2⟩)
      (fun x y H2 ⟨r, hr, ex, ey, fr2, hW2⟩ Q q => by
        subst ex
        subst ey
        exact ⟨1, r, rfl, rfl, q _ H2 ⟨r, hr, by simp, fr2, hW2⟩⟩)) fun v H1 ⟨r0, hr0, ev, fr1, hW1⟩ => ?_
    subst ev
    generalize hn : 1 + r0 = n
    have hn1 : 1 ≤ n := by omega
    have hn8 : n ≤ 8 := by omega
    -- k
    refine q_asgX (R := fun v H2 => ∃ r, r < n / 2 + 1 ∧ v = vi (n % 2 + 2 * r) ∧ Frm W G H1 H2 ∧ WellAt H2 W G (c + 5)) (x_op (R2' := fun x y H2 => ∃ r, r < n / 2 + 1 ∧ x = vi (n % 2) ∧ y = vi (2 * r) ∧ Frm W G H1 H2 ∧ WellAt H2 W G (c + 5)) (x_of (v := vi (n % 2)) (ev_mod (ev_intI (ev_var rfl)) ev_c (by decide) (by omega)))
      (fun x H2 ⟨ex, e2⟩ => x_op (R2' := fun x' y H3 => ∃ r, r < n / 2 + 1 ∧ x' = .int 2 ∧ y = vi r ∧ Frm W G H1 H3 ∧ WellAt H3 W G (c + 5)) (x_of ev_c) (fun x' H3 ⟨ex', e3⟩ => (x_draw (l := n / 2 + 1) (hW1.ex (e2.trans e3)) (ea_cons (ev_var rfl) (ea_cons (ev_is (ev_op (ev_div (c := ((n / 2 : Nat) : Int)) (b := 2) (ev_var rfl) ev_c (by decide) (by decide) (by decide) (by decide) (by omega)) ev_c rv_I0) (by simp)) ea_nil)) (by omega) (by omega) (by omega)).imp fun y H4 ⟨r, ey, hr, fr4, hW4⟩ => ⟨r, hr, ex', ey, (Frm.of (e2.trans e3)).trans fr4, hW4⟩) fun x' y H3 ⟨r, hr, ex', ey, fr3, hW3⟩ Q q => by
        subst ex'
        subst ey
        exact ⟨2, (r : Int), rfl, rfl, cmul_small (by decide) (by omega), q _ H3 ⟨r, hr, ex, by simp, fr3, hW3⟩⟩)
      (fun x y H2 ⟨r, hr, ex, ey, fr2, hW2⟩ Q q => by
        subst ex
        subst ey
        exact ⟨((n % 2 : Nat) : Int), ((2 * r : Nat) : Int), rfl, rfl, q _ H2 ⟨r, hr, by simp, fr2, hW2⟩⟩)) fun v H2 ⟨r1, hr1, ev, fr2, hW2⟩ => ?_
    subst ev
    generalize hk : n % 2 + 2 * r1 = k
    have hk1 : k ≤ n := by omega
    have hk2 : (n - k) % 2 = 0 := by omega
    have fr02 := fr1.trans fr2
    -- due, found
    refine q_asgLP (P := fun ys H' => ∃ ds, Paired (MatV n k H') ys ds ∧ ds.Perm ((Ma.lsigns n k).map Ma.hL) ∧ Srt ds) (elp_call (vs := [vi n, vi k]) (ea_cons (ev_var rfl) (ea_cons (ev_var rfl) ea_nil)) fun H3 e3 Q q => ⟨n, k, rfl, hn1, hn8, hk1, hk2, fun p H4 ys ds np e4 hp py pm st => q p H4 ys np e4 hp ⟨ds, py, pm, st⟩⟩) fun pd ysd H3 npd e3 hpd hdd => ?_
    obtain ⟨ds, pyd, pmd, std⟩ := hdd
    have PP := Ma.rows_perm hn1 hn8 hk1 hk2
    have hdsl : ∀ d ∈ ds, Ma.Half n k d := fun d hd => by
      obtain ⟨row, hrow, rfl⟩ := List.mem_map.mp (pmd.mem_iff.mp hd)
      exact (Ma.half_of (Ma.lsigns_ok hrow) hn1).2
    have hdlen : ∀ d ∈ ds, d.length = n + k := fun d hd => (hdsl d hd).mat.len
    have hdsz : ds.length ≤ 256 := by
      rw [pmd.length_eq, List.length_map]
      have h1 := Ma.lsigns_len n k
      have h2 : 2 ^ n ≤ 2 ^ 8 := Nat.pow_le_pow_right (by decide) hn8
      omega
    have hdne : 0 < ds.length := by
      rw [pmd.length_eq, List.length_map]
      exact List.length_pos_iff.mpr (Ma.rows_some hn1 hn8 hk1 hk2)
    have uniq : ∀ es : List (List Nat), es.Perm ((Ma.psigns n k).map Ma.hL) → Srt es → es = ds := fun es p s => (srt_uniq std s (pmd.trans ((PP.map _).symm.trans p.symm)) hdlen).symm
    have callHM : ∀ {σ : L2.St} {H4 : Hp}, σ[2]? = some (some (vi n)) → σ[3]? = some (some (vi k)) → EvLP (tCall spHalfMats [] E0 (tCons (tVar 2) (tCons (tVar 3) tNil))) σ H4 fun ys H' => Paired (MatV n k H') ys ds := fun h2 h3 => elp_call (vs := [vi n, vi k]) (ea_cons (ev_var h2) (ea_cons (ev_var h3) ea_nil)) fun H5 e5 Q q => ⟨n, k, rfl, hn1, hn8, hk1, hk2, fun p H6 ys es np e6 hp py pm st => q p H6 ys np e6 hp (by rw [← uniq es pm st]; exact py)⟩
    refine q_asgLP (P := fun ys H' => Paired (MatV n k H') ys ds) (elp_if (b := nm) (et_B (ev_var rfl)) (fun _ => elp_ck0 (zs := [vi k, vi n]) (ea_cons (ev_var rfl) (ea_cons (ev_var rfl) ea_nil)) fun H5 e5 Q q => ⟨n, k, rfl, hn1, hn8, hk1, hk2, fun p H6 ys es np e6 hp py pm st => q p H6 ys np e6 hp (by rw [← uniq es pm st]; exact py)⟩) (fun _ => callHM rfl rfl)) fun pf ysf H4 npf e4 hpf pyf => ?_
    have dne : pd ≠ pf := ne_of_none hpd npf
    refine q_ifF (et_is (et_not (et_B (ev_callV (z := .bl true) (ea_cons (ev_var rfl) (ea_cons (ev_var rfl) ea_nil)) fun H5 e5 Q q => ⟨_, _, rfl, dv_mats (e5 _ _ hpf) (e5 _ _ (e4 _ _ hpd)) ((matV_sta n k).exs pyf e5) ((matV_sta n k).exs pyd (e4.trans e5)) (by omega) (fun d hd => by rw [hdlen d hd]; omega), q⟩))) rfl) fun H5 e5 => ?_
    have e35 := e3.trans (e4.trans e5)
    have hW5 := hW2.ex e35
    have npf2 : H2 pf = none := fresh_back e3 npf
    obtain ⟨fW, fG⟩ := (hW2.ex e3).fresh npf
    obtain ⟨dW, dG⟩ := hW2.fresh npd
    have hpf5 := e5 _ _ hpf
    have hpd5 := e5 _ _ (e4 _ _ hpd)
    have pyf5 := (matV_sta n k).exs pyf e5
    have pyd5 := (matV_sta n k).exs pyd (e4.trans e5)
    have lysf := paired_len pyf5
    -- one, other
    refine q_parXX (R1 := fun v H6 => (∃ r, r < ysf.length ∧ ysf[r]? = some v) ∧ Frm W G H5 H6 ∧ WellAt H6 W G (c + 6)) (R := fun v u H7 => (∃ r, r < ysf.length ∧ ysf[r]? = some v) ∧ (∃ r, r < ysf.length ∧ ysf[r]? = some u) ∧ Frm W G H5 H7 ∧ WellAt H7 W G (c + 7)) (x_pick (a := pf) (xs := ysf) hW5 (ev_var rfl) hpf5 ⟨fW.symm, fG.symm⟩ (fun H6 e6 => ea_cons (ev_var rfl) (ea_cons (ev_lenL (p := pf) (ev_var rfl) (e6 _ _ hpf5) rfl) ea_nil)) (by omega) (by omega) (by omega))
      (fun v H6 ⟨hv, fr6, hW6⟩ => (x_pick (a := pf) (xs := ysf) hW6 (ev_var rfl) (fr6 _ _ hpf5 fW.symm fG.symm) ⟨fW.symm, fG.symm⟩ (fun H7 e7 => ea_cons (ev_var rfl) (ea_cons (ev_lenL (p := pf) (ev_var rfl) (e7 _ _ (fr6 _ _ hpf5 fW.symm fG.symm)) rfl) ea_nil)) (by omega) (by omega) (by omega)).imp fun u H7 ⟨hu, fr7, hW7⟩ => ⟨hv, hu, fr6.trans fr7, hW7⟩) fun v u H7 ⟨⟨ra, hra, hv⟩, ⟨rb, hrb, hu⟩, fr57, hW7⟩ => ?_
    obtain ⟨al, eal, a, ev, hA5⟩ := paired_at pyf5 hv
    obtain ⟨bl, ebl, b, eu, hB5⟩ := paired_at pyf5 hu
    subst ev
    subst eu
    have HA := hdsl al (List.mem_of_getElem? eal)
    have HB := hdsl bl (List.mem_of_getElem? ebl)
    have hA7 := hA5.frm hW5 fr57
    have hB7 := hB5.frm hW5 fr57
    have hpf7 := fr57 _ _ hpf5 fW.symm fG.symm
    have hpd7 := fr57 _ _ hpd5 dW.symm dG.symm
    have pyd7 := paired_frm pyd5 hW5 fr57
    -- found.pop(..), found.insert(0, None)
    refine q_popAt (l := pf) (xs := ysf) (R := fun v H8 => ∃ r, v = vi r ∧ r < ysf.length ∧ Frm W G H7 H8 ∧ WellAt H8 W G (c + 8)) rfl hpf7 ((x_draw (l := ysf.length) hW7 (ea_cons (ev_var rfl) (ea_cons (ev_lenL (p := pf) (ev_var rfl) hpf7 rfl) ea_nil)) (by omega) (by omega) (by omega)).imp fun v H8 ⟨r, ev, hr, fr8, hW8⟩ => ⟨r, ev, hr, fr8, hW8⟩) fun v H8 ⟨r, ev, hr, fr8, hW8⟩ => ⟨r, ev, hr, by omega, fr8 _ _ hpf7 fW.symm fG.symm, ?_⟩
    have hpf8 := fr8 _ _ hpf7 fW.symm fG.symm
    have hpd8 := fr8 _ _ hpd7 dW.symm dG.symm
    have hA8 := hA7.frm hW7 fr8
    have hB8 := hB7.frm hW7 fr8
    have pyd8 := paired_frm pyd7 hW7 fr8
    have leE : (ysf.eraseIdx r).length ≤ 256 := by
      rw [List.length_eraseIdx]
      split <;> omega
    refine q_insert0 (l := pf) (xs := ysf.eraseIdx r) (v := .non) upd_same (ev_var rfl) ev_c ev_c (by omega) fun H9 e9 => ?_
    have f89 : Fr1 pf H8 (upd (upd H9 pf (.lst (.non :: ysf.eraseIdx r))) pf (.lst (.non :: ysf.eraseIdx r))) := fun b o hb hn => by
      rw [upd_ne hn, upd_ne hn]
      refine e9 _ _ ?_
      rw [upd_ne hn]
      exact hb
    have f9 : Fr1 pf H8 (upd H9 pf (.lst (.non :: ysf.eraseIdx r))) := fun b o hb hn => by
      rw [upd_ne hn]
      refine e9 _ _ ?_
      rw [upd_ne hn]
      exact hb
    have hA9 := hA8.fr hpf8 f9
    have hB9 := hB8.fr hpf8 f9
    have hpd9 := f9 _ _ hpd8 dne
    have pyd9 := (matV_sta n k).frs pyd8 hpf8 f9
    have hW9 := (((hW8.upd fW fG (o := .lst (ysf.eraseIdx r))).ex e9).upd fW fG (o := .lst (.non :: ysf.eraseIdx r)))
    have fr25 : Frm W G H2 H5 := .of e35
    have fr29 := (((((fr25.trans fr57).trans fr8).mut npf2 (o := .lst (ysf.eraseIdx r))).trans (.of e9)).mut npf2 (o := .lst (.non :: ysf.eraseIdx r)))
    generalize upd H9 pf (.lst (.non :: ysf.eraseIdx r)) = H10 at f9 hA9 hB9 hpd9 pyd9 hW9 fr29 ⊢
    refine q_ifF (et_orF (et_is (et_not (et_B (ev_callVP (z := .bl true) (ep_ofL (callHM rfl rfl)) (fun H11 e11 => ev_var rfl) fun v H11 H12 e11 ⟨p, ys, ev, hp, py⟩ e12 Q q => ⟨_, _, by rw [ev], dv_mats (e12 _ _ hp) (e12 _ _ (e11 _ _ hpd9)) ((matV_sta n k).exs py e12) ((matV_sta n k).exs pyd9 (e11.trans e12)) (by omega) (fun d hd => by rw [hdlen d hd]; omega), q⟩))) rfl)
      (et_is (et_not (et_B (ev_callV (z := .bl true) (ea_cons (ev_var rfl) (ea_cons (ev_var rfl) (ea_cons (ev_var rfl) ea_nil))) fun H11 e11 Q q => ⟨a, b, n, k, al, bl, nm, rfl, hA9.ex e11, hB9.ex e11, HA, HB, by omega, q⟩))) rfl)) fun H11 e11 => ?_
    have hW11 := hW9.ex e11
    have fr011 : Frm W G H H11 := (fr02.trans fr29).trans (.of e11)
    -- above, below
    refine q_parXX (R1 := fun v H12 => ∃ r, v = vi (1 + r) ∧ r < 8 ∧ Frm W G H11 H12 ∧ WellAt H12 W G (c + 9)) (R := fun v u H13 => ∃ r q, v = vi (1 + r) ∧ u = vi (1 + q) ∧ r < 8 ∧ q < 7 ∧ Frm W G H11 H13 ∧ WellAt H13 W G (c + 10)) (x_add1 (x_draw (l := 8) hW11 (ea_cons (ev_var rfl) (ea_cons ev_c ea_nil)) (by decide) (by decide) (by omega)))
      (fun v H12 ⟨r, ev, hr, fr12, hW12⟩ => (x_add1 (x_draw (l := 7) hW12 (ea_cons (ev_var rfl) (ea_cons ev_c ea_nil)) (by decide) (by decide) (by omega))).imp fun u H13 ⟨q, eu, hq, fr13, hW13⟩ => ⟨r, q, ev, eu, hr, hq, fr12.trans fr13, hW13⟩) fun v u H13 ⟨r, q, ev, eu, hr', hq', fr13, hW13⟩ => ?_
    subst ev
    subst eu
    generalize ha : 1 + r = ab
    generalize hb : 1 + q = be
    have hpar : ∃ be', be' = be + (if (ab + be) % 2 = 1 then 1 else 0) ∧ (ab + be') % 2 = 0 ∧ ab + be' ≤ 16 := ⟨_, rfl, by split <;> omega, by split <;> omega⟩
    obtain ⟨be', ebe, hp2, hp16⟩ := hpar
    refine q_asgX (R := fun v H14 => Frm W G H13 H14 ∧ WellAt H14 W G (c + 26) ∧ ∃ p d, v = .ref p ∧ MatAt H14 p ab be' d ∧ Ma.Mat ab be' d) (x_callA (xa_of (vs := [.ref W, vi ab, vi be']) (ea_cons (ev_var rfl) (ea_cons (ev_var rfl) (ea_cons (ev_is (ev_op (ev_var rfl) (ev_intB (b := decide (((ab : Int) + (be : Int)) % 2 = 1)) (ev_is (ev_op (ev_mod (ev_intI (ev_op (ev_var rfl) (ev_var rfl) rv_I0)) ev_c (by decide) rfl) ev_c (rv_eq rfl)) (by simp))) rv_I0) ?_) ea_nil)))) fun vs H14 ⟨evs, e14⟩ Q q => ⟨W, G, ab, be', c + 10, evs, by omega, hp16, hp2, hW13.ex e14, by omega, fun v H15 fr15 hW15 hv => q v H15 ⟨(Frm.of e14).trans fr15, hW15, hv⟩⟩) fun v H14 ⟨fr14, hW14, pm, md, ev, hM, M⟩ => ?_
    · rw [ebe]
      show V.int _ = V.int _
      congr 1
      by_cases z : (ab + be) % 2 = 1
      · rw [if_pos z, decide_eq_true (by omega)]; simp
      · rw [if_neg z, decide_eq_false (by omega)]; simp
    subst ev
    refine q_asgP (P := fun v H' => ∃ p, v = .ref p ∧ MatAt H' p ab (Ma.upRow ab md ab).2.length (Ma.upL ab md)) (ep_call (vs := [.ref pm]) (ea_cons (ev_var rfl) ea_nil) fun H15 e15 Q q => ⟨pm, ab, be', md, rfl, hM.ex e15, M, by omega, q⟩) fun v H15 e15 ⟨ph, ev, hH⟩ => ?_
    subst ev
    have HH := Ma.upper_half M (by omega)
    have hle := HH.le
    have hpa := HH.par
    generalize (Ma.upRow ab md ab).2.length = kk at hH HH hle hpa ⊢
    have hH' := hH
    obtain ⟨qh, hh1, hh2⟩ := hH'
    have hW15 := hW14.ex e15
    refine s_retX (R := fun v H' => v = .bl true ∧ Frm W G H15 H' ∧ WellAt H' W G (c + 42)) (x_callA (RA := fun vs H16 => ∃ p2 d2, vs = [.ref ph, .ref p2, .bl nm] ∧ Frm W G H15 H16 ∧ WellAt H16 W G (c + 42) ∧ MatAt H16 p2 ab kk d2 ∧ Ma.Half ab kk d2) (xa_cons (x_of (v := .ref ph) (ev_var rfl)) fun v H16 ⟨ev, e16⟩ => xa_cons (x_dhalf (n := ab) (k := kk) (hW15.ex e16) (ea_cons (ev_var rfl) (ea_cons (ev_op (ev_var rfl) ev_c (rv_ixt (e16 _ _ hh1) (atI_nat (j := 0) rfl))) (ea_cons (ev_op (ev_var rfl) ev_c (rv_ixt (e16 _ _ hh1) (atI_nat (j := 1) rfl))) ea_nil))) (by omega) (by omega) hle (by omega) (by omega)) fun v2 H17 ⟨fr17, hW17, p2, d2, ev2, hM2, HM2⟩ => xa_cons (x_of (v := .bl nm) (ev_var rfl)) fun v3 H18 ⟨ev3, e18⟩ Q q => q [] H18 ⟨p2, d2, by rw [ev, ev2, ev3], ((Frm.of e16).trans fr17).trans (.of e18), hW17.ex e18, hM2.ex e18, HM2⟩)
      fun vs H16 ⟨p2, d2, evs, fr16, hW16, hM2, HM2⟩ Q q => ⟨ph, p2, ab, kk, Ma.upL ab md, d2, nm, evs, hH.frm hW15 fr16, hM2, HH, HM2, by omega, fun H17 e17 => q _ H17 ⟨rfl, fr16.trans (.of e17), hW16.ex e17⟩⟩) fun v H16 ⟨ev, fr16, hW16⟩ => ?_
    subst ev
    exact ret H16 ((((fr011.trans fr13).trans fr14).trans (.of e15)).trans fr16) (hW16.le (by omega))
def spLaw : Sp := fun vs H Q _ => ∃ (a : Addr) (ns : List Int), vs = [.ref a] ∧ SqL K H a (vz ns) ∧ ns.length ≤ 63 ∧ ∀ H', Q (.bl true) H'
theorem ok_law {f : Addr} {fd : FuncData} (B : Bt mg) (F : Fun K "law" "law" s_law f fd) (C__law_well : Cal P w K mg base 1 "_law_well" (spWell (K := K))) (C__law_draw : Cal P w K mg base 1 "_law_draw" spDraw) (C__law_list_right : Cal P w K mg base 8 "_law_list_right" spListRight) (C__law_two : Cal P w K mg base 3 "_law_two" spTwo) (C__law_pair_right : Cal P w K mg base 7 "_law_pair_right" spPairRight) : FnOk P w K mg base CX0 9 f fd ["_law_script"] (spLaw (K := K)) := by
  refine F.ok sc_law (fun vs H Q E h => ?_) (fun cdv A outer s H vs Q E hr h => ?_)
  · obtain ⟨a, ns, rfl, _⟩ := h; rfl
  · obtain ⟨a, ns, rfl, ha, hn, ret⟩ := h
    refine ⟨_, (pss_cons (ps_set (i := 1) sc_law.nd rfl (.inl rfl) (pe_c C__law_well hr (by decide) (by rfl) (pa_cons (pv 0) pa_nil)))
  (pss_cons (ps_for PassesOwn.never rfl (pi_range1 (by rfl) B.range_ (pa_cons pe_int pa_nil)) (pg_name (i := 2) sc_law.nd rfl (.inl rfl))
  (pss_one (ps_if (pt_not (pt_val (pe_c C__law_list_right hr (by decide) (by rfl) (pa_cons (pv 1) (pa_cons (pe_cmpR op_eq (pe_c C__law_draw hr (by decide) (by rfl) (pa_cons (pv 1) (pa_cons pe_int pa_nil))) pe_int (nomark _)) pa_nil))))) (pss_one (ps_ret pe_bl)) pss_nil)))
  (pss_cons (ps_for PassesOwn.never rfl (pi_range1 (by rfl) B.range_ (pa_cons pe_int pa_nil)) (pg_name (i := 2) sc_law.nd rfl (.inl rfl))
  (pss_cons (ps_asg (pe_c C__law_two hr (by decide) (by rfl) (pa_cons (pv 1) pa_nil)) (pg_tup rfl (pgs_cons (pg_name (i := 3) sc_law.nd rfl (.inl rfl)) (pgs_cons (pg_name (i := 4) sc_law.nd rfl (.inl rfl)) pgs_nil))))
  (pss_one (ps_if (pt_not (pt_val (pe_c C__law_pair_right hr (by decide) (by rfl) (pa_cons (pv 3) (pa_cons (pv 4) (pa_cons (pe_cmpR op_eq (pe_c C__law_draw hr (by decide) (by rfl) (pa_cons (pv 1) (pa_cons pe_int pa_nil))) pe_int (nomark _)) pa_nil)))))) (pss_one (ps_ret pe_bl)) pss_nil))))
  (pss_one (ps_ret pe_bl))))), ?_⟩
    refine q_asgX (R := fun v H1 => ∃ W G, v = .ref W ∧ WellAt H1 W G 0) (x_callA (xa_of (vs := [.ref a]) (ea_cons (ev_var rfl) ea_nil)) fun vs H1 ⟨ev, e1⟩ Q q => ⟨a, ns, ev, ex_l e1 ha, hn, fun W G H2 e2 hW => q _ H2 ⟨W, G, rfl, hW⟩⟩) fun v H1 ⟨W, G, ev, hW⟩ => ?_
    subst ev
    refine q_forR1 (n := 2) (ea_cons ev_c ea_nil) ⟨by decide, by decide⟩
      (fun t σ' H' => WellAt H' W G (51 * t) ∧ ∃ v2, σ' = [some (.ref a), some (.ref W), v2, none, none])
      (fun H2 e2 => ⟨(hW.ex e2).le (by omega), none, rfl⟩) ?_ ?_
    · rintro t σ' H' ht ⟨hW', v2, rfl⟩
      refine s_ifXF (R := fun H2 => WellAt H2 W G (51 * (t + 1))) (xt_not (xt_B ((x_callA (R := fun v H2 => v = .bl true ∧ WellAt H2 W G (51 * (t + 1))) (RA := fun vs H2 => ∃ nm, vs = [.ref W, .bl nm] ∧ WellAt H2 W G (51 * t + 1)) (xa_cons (x_of (v := .ref W) (ev_var rfl)) fun v H2 ⟨ev, e2⟩ => xa_cons (x_op (R := fun v H3 => ∃ nm, v = .bl nm ∧ WellAt H3 W G (51 * t + 1)) (R2' := fun x y H3 => ∃ r, x = vi r ∧ y = .int 1 ∧ WellAt H3 W G (51 * t + 1)) (x_draw (l := 2) (hW'.ex e2) (ea_cons (ev_var rfl) (ea_cons ev_c ea_nil)) (by decide) (by decide) (by omega)) (fun x H3 ⟨r, ex, hr, fr3, hW3⟩ => (x_of (v := .int 1) ev_c).imp fun y H4 ⟨ey, e4⟩ => ⟨r, ex, ey, hW3.ex e4⟩) (fun x y H3 ⟨r, ex, ey, hW3⟩ Q q => by
          subst ex
          subst ey
          exact rv_eq rfl H3 (Ex.refl H3) Q fun H4 e4 => q _ H4 ⟨_, rfl, hW3.ex e4⟩)) fun v2 H3 ⟨nm, ev2, hW3⟩ Q q => q [] H3 ⟨nm, by rw [ev, ev2], hW3⟩)
        fun vs H2 ⟨nm, ev, hW2⟩ Q q => ⟨W, G, 51 * t + 1, nm, ev, hW2, by omega, fun H3 _ hW3 => q _ H3 ⟨rfl, hW3.le (by omega)⟩⟩).imp fun v H2 ⟨ev, hW2⟩ => ⟨true, ev, rfl, hW2⟩))) fun H2 hW2 => ⟨hW2, _, rfl⟩
    · rintro σ' H' ⟨hW', v2, rfl⟩
      have hW2 : WellAt H' W G 102 := hW'
      refine q_forR1 (n := 4) (ea_cons ev_c ea_nil) ⟨by decide, by decide⟩
        (fun t σ' H' => WellAt H' W G (102 + 51 * t) ∧ ∃ v2 v3 v4, σ' = [some (.ref a), some (.ref W), v2, v3, v4])
        (fun H3 e3 => ⟨(hW2.ex e3).le (by omega), v2, none, none, rfl⟩) ?_ ?_
      · rintro t σ' H' ht ⟨hW', v2, v3, v4, rfl⟩
        refine q_asgXG (R := fun v H2 => WellAt H2 W G (102 + 51 * t + 40) ∧ ∃ (p a b : Addr) (n k : Nat) (al bl : List Nat), v = .ref p ∧ H2 p = some (.tup [.ref a, .ref b]) ∧ MatAt H2 a n k al ∧ MatAt H2 b n k bl ∧ Ma.Half n k al ∧ Ma.Half n k bl ∧ n ≤ 300) (x_callA (xa_of (vs := [.ref W]) (ea_cons (ev_var rfl) ea_nil)) fun vs H2 ⟨ev, e2⟩ Q q => ⟨W, G, 102 + 51 * t, ev, hW'.ex e2, by omega, fun v H3 _ hW3 hv => q v H3 ⟨hW3, hv⟩⟩) fun v H2 ⟨hW2, p, a2, b2, n, k, al, bl, ev, hp, hA, hB, HA, HB, hn⟩ => ?_
        subst ev
        refine g2_new hp ?_
        refine s_ifXF (R := fun H3 => WellAt H3 W G (102 + 51 * (t + 1))) (xt_not (xt_B ((x_callA (R := fun v H3 => v = .bl true ∧ WellAt H3 W G (102 + 51 * (t + 1))) (RA := fun vs H3 => ∃ nm, vs = [.ref a2, .ref b2, .bl nm] ∧ MatAt H3 a2 n k al ∧ MatAt H3 b2 n k bl ∧ WellAt H3 W G (102 + 51 * t + 41)) (xa_cons (x_of (v := .ref a2) (ev_var rfl)) fun v H3 ⟨ev, e3⟩ => xa_cons (x_of (v := .ref b2) (ev_var rfl)) fun v' H4 ⟨ev', e4⟩ => xa_cons (x_op (R := fun v H5 => ∃ nm, v = .bl nm ∧ Frm W G H2 H5 ∧ WellAt H5 W G (102 + 51 * t + 41)) (R2' := fun x y H5 => ∃ r, x = vi r ∧ y = .int 1 ∧ Frm W G H2 H5 ∧ WellAt H5 W G (102 + 51 * t + 41)) (x_draw (l := 2) (hW2.ex (e3.trans e4)) (ea_cons (ev_var rfl) (ea_cons ev_c ea_nil)) (by decide) (by decide) (by omega)) (fun x H5 ⟨r, ex, hr, fr5, hW5⟩ => (x_of (v := .int 1) ev_c).imp fun y H6 ⟨ey, e6⟩ => ⟨r, ex, ey, ((Frm.of (e3.trans e4)).trans fr5).trans (.of e6), hW5.ex e6⟩) (fun x y H5 ⟨r, ex, ey, fr5, hW5⟩ Q q => by
            subst ex
            subst ey
            exact rv_eq rfl H5 (Ex.refl H5) Q fun H6 e6 => q _ H6 ⟨_, rfl, fr5.trans (.of e6), hW5.ex e6⟩)) fun v2 H5 ⟨nm, ev2, fr5, hW5⟩ Q q => q [] H5 ⟨nm, by rw [ev, ev', ev2], hA.frm hW2 fr5, hB.frm hW2 fr5, hW5⟩)
          fun vs H3 ⟨nm, ev, hA3, hB3, hW3⟩ Q q => ⟨a2, b2, n, k, al, bl, nm, ev, hA3, hB3, HA, HB, hn, fun H4 e4 => q _ H4 ⟨rfl, (hW3.ex e4).le (by omega)⟩⟩).imp fun v H3 ⟨ev, hW3⟩ => ⟨true, ev, rfl, hW3⟩))) fun H3 hW3 => ⟨hW3, _, _, _, rfl⟩
      · rintro σ' H' ⟨hW', v2, v3, v4, rfl⟩
        exact s_ret (v := .bl true) ev_c fun H3 e3 => ret H3
end
end HM
namespace HM
open PySem PySem.Spec PyProof.Rows L2 Evl
section
variable {P : Program} {w : World} {K : PySem.W.Frag} {mg : Str → Option Value} {base : Heap}
theorem law_ok {f : Addr} {fd : FuncData} (B : Bt mg) (D_round_of : DefOk K mg "round_of" s_round_of) (D_check_size : DefOk K mg "check_size" s_check_size) (D_check_pair : DefOk K mg "check_pair" s_check_pair) (D_is_mat : DefOk K mg "is_mat" s_is_mat) (D_checked_mat : DefOk K mg "checked_mat" s_checked_mat) (D_remade : DefOk K mg "remade" s_remade) (D_upside_down : DefOk K mg "upside_down" s_upside_down) (D_through : DefOk K mg "through" s_through) (D_upper_half : DefOk K mg "upper_half" s_upper_half) (D_far_end : DefOk K mg "far_end" s_far_end) (D_loose_rings : DefOk K mg "loose_rings" s_loose_rings) (D_put_behind : DefOk K mg "put_behind" s_put_behind) (D_check_halves : DefOk K mg "check_halves" s_check_halves) (D_check_half : DefOk K mg "check_half" s_check_half) (D_rows_of_signs : DefOk K mg "rows_of_signs" s_rows_of_signs) (D_half_of_signs : DefOk K mg "half_of_signs" s_half_of_signs) (D_half_mats : DefOk K mg "half_mats" s_half_mats) (D_paired : DefOk K mg "paired" s_paired) (D_pairing : DefOk K mg "pairing" s_pairing) (D__law_well : DefOk K mg "_law_well" s__law_well) (D__law_draw : DefOk K mg "_law_draw" s__law_draw) (D__law_hook : DefOk K mg "_law_hook" s__law_hook) (D__law_put : DefOk K mg "_law_put" s__law_put) (D__law_signs : DefOk K mg "_law_signs" s__law_signs) (D__law_half : DefOk K mg "_law_half" s__law_half) (D__law_halves : DefOk K mg "_law_halves" s__law_halves) (D__law_flip : DefOk K mg "_law_flip" s__law_flip) (D__law_paired : DefOk K mg "_law_paired" s__law_paired) (D__law_drawn_half : DefOk K mg "_law_drawn_half" s__law_drawn_half) (D__law_worth : DefOk K mg "_law_worth" s__law_worth) (D__law_two : DefOk K mg "_law_two" s__law_two) (D__law_mat : DefOk K mg "_law_mat" s__law_mat) (D__law_same : DefOk K mg "_law_same" s__law_same) (D__law_pair_right : DefOk K mg "_law_pair_right" s__law_pair_right) (D__law_list_right : DefOk K mg "_law_list_right" s__law_list_right) (F : Fun K "law" "law" s_law f fd) : FnOk P w K mg base CX0 9 f fd ["_law_script"] (spLaw (K := K)) := by
  have C_round_of := ok_round_of (P := P) (w := w) (base := base) B D_round_of 
  have C_check_size := ok_check_size (P := P) (w := w) (base := base) B D_check_size 
  have C_check_pair := ok_check_pair (P := P) (w := w) (base := base) B D_check_pair 
  have C_is_mat := ok_is_mat (P := P) (w := w) (base := base) B D_is_mat C_round_of
  have C_checked_mat := ok_checked_mat (P := P) (w := w) (base := base) B D_checked_mat C_is_mat
  have C_remade := ok_remade (P := P) (w := w) (base := base) B D_remade 
  have C_upside_down := ok_upside_down (P := P) (w := w) (base := base) B D_upside_down C_checked_mat C_remade
  have C_through := ok_through (P := P) (w := w) (base := base) B D_through C_checked_mat
  have C_upper_half := ok_upper_half (P := P) (w := w) (base := base) B D_upper_half C_checked_mat
  have C_far_end := ok_far_end (P := P) (w := w) (base := base) B D_far_end 
  have C_loose_rings := ok_loose_rings (P := P) (w := w) (base := base) B D_loose_rings 
  have C_put_behind := ok_put_behind (P := P) (w := w) (base := base) B D_put_behind C_far_end C_loose_rings
  have C_check_halves := ok_check_halves (P := P) (w := w) (base := base) B D_check_halves C_check_size
  have C_check_half := ok_check_half (P := P) (w := w) (base := base) B D_check_half C_checked_mat C_through
  have C_rows_of_signs := ok_rows_of_signs (P := P) (w := w) (base := base) B D_rows_of_signs 
  have C_half_of_signs := ok_half_of_signs (P := P) (w := w) (base := base) B D_half_of_signs 
  have Fn_half_mats := ok_half_mats (P := P) (w := w) (base := base) B D_half_mats C_check_halves C_rows_of_signs C_half_of_signs
  have C_half_mats := Fn_half_mats.cal (fun _ _ _ _ _ _ us hl => match us, hl with | [_, _], _ => rfl)
  have KW_half_mats := Fn_half_mats.calK (fun _ _ _ _ _ _ _ _ => rfl)
  have C_paired := ok_paired (P := P) (w := w) (base := base) B D_paired C_put_behind
  have Fn_pairing := ok_pairing (P := P) (w := w) (base := base) B D_pairing C_check_half C_check_pair C_paired C_upside_down
  have C_pairing := Fn_pairing.cal (fun _ _ _ _ _ _ us hl => match us, hl with | [_, _], _ => rfl)
  have KW_pairing := Fn_pairing.calK (fun _ _ _ _ _ _ _ _ => rfl)
  have C__law_well := ok_law_well (P := P) (w := w) (base := base) B D__law_well 
  have C__law_draw := ok_law_draw (P := P) (w := w) (base := base) B D__law_draw 
  have C__law_hook := ok_law_hook (P := P) (w := w) (base := base) B D__law_hook 
  have C__law_put := ok_law_put (P := P) (w := w) (base := base) B D__law_put 
  have C__law_signs := ok_law_signs (P := P) (w := w) (base := base) B D__law_signs 
  have C__law_half := ok_law_half (P := P) (w := w) (base := base) B D__law_half 
  have C__law_halves := ok_law_halves (P := P) (w := w) (base := base) B D__law_halves C__law_signs C__law_half
  have C__law_flip := ok_law_flip (P := P) (w := w) (base := base) B D__law_flip 
  have C__law_paired := ok_law_paired (P := P) (w := w) (base := base) B D__law_paired C__law_put C__law_flip
  have C__law_drawn_half := ok_law_drawn_half (P := P) (w := w) (base := base) B D__law_drawn_half C__law_draw C__law_half
  have C__law_worth := ok_law_worth (P := P) (w := w) (base := base) B D__law_worth 
  have C__law_two := ok_law_two (P := P) (w := w) (base := base) B D__law_two C__law_draw C__law_drawn_half C__law_put C__law_hook
  have C__law_mat := ok_law_mat (P := P) (w := w) (base := base) B D__law_mat C__law_draw
  have S0 := ok_law_same0 (P := P) (w := w) (base := base) B D__law_same
  have S1 := ok_law_same1 B D__law_same S0
  have S2 := ok_law_same1 B D__law_same S1
  have S3 := ok_law_same1 B D__law_same S2
  have C__law_pair_right := ok_law_pair_right (P := P) (w := w) (base := base) B D__law_pair_right C__law_worth C__law_paired C_pairing KW_pairing S1
  have C__law_list_right := ok_law_list_right (P := P) (w := w) (base := base) B D__law_list_right C__law_draw C__law_halves C_half_mats KW_half_mats S3 C__law_pair_right C__law_mat C_upper_half C__law_drawn_half
  exact ok_law B F C__law_well C__law_draw C__law_list_right C__law_two C__law_pair_right
theorem def_mk {h : Heap} {x : Str} {st : Stmt} {f : Addr} {oc kV doc pm cdv ct : Value} {od an : Option Addr} {osl : Array (Option Value)} (X : K.In h) (G : h.Ns mainGlobals mg) (a : PySem.W.nsIn K mainGlobals x = some (some (.ref f)))
    (l : K.lookup f = some ⟨oc, od, .func (PySem.W.fnOf x x (defArgs st) (defBody st) (defScope st) .none kV doc pm an cdv ct), osl⟩) (c : PySem.W.codeIn K cdv x = true) (k : PySem.W.keepIn K (.ref f) = true) : DefOk K mg x st := ⟨f, _, fun_mk l c k, PySem.W.mg_of X G a⟩
theorem law_end {l : PySem.W.OpenLaw} {h : Heap} {fa f : Addr} {oc kV doc pm cdv ct : Value} {od an : Option Addr} {osl : Array (Option Value)} (X : K.In h) (G : h.Ns mainGlobals mg) (hfa : mg "law" = some (.ref fa)) (B : Bt mg) (D_round_of : DefOk K mg "round_of" s_round_of) (D_check_size : DefOk K mg "check_size" s_check_size) (D_check_pair : DefOk K mg "check_pair" s_check_pair) (D_is_mat : DefOk K mg "is_mat" s_is_mat) (D_checked_mat : DefOk K mg "checked_mat" s_checked_mat) (D_remade : DefOk K mg "remade" s_remade) (D_upside_down : DefOk K mg "upside_down" s_upside_down) (D_through : DefOk K mg "through" s_through) (D_upper_half : DefOk K mg "upper_half" s_upper_half) (D_far_end : DefOk K mg "far_end" s_far_end) (D_loose_rings : DefOk K mg "loose_rings" s_loose_rings) (D_put_behind : DefOk K mg "put_behind" s_put_behind) (D_check_halves : DefOk K mg "check_halves" s_check_halves) (D_check_half : DefOk K mg "check_half" s_check_half) (D_rows_of_signs : DefOk K mg "rows_of_signs" s_rows_of_signs) (D_half_of_signs : DefOk K mg "half_of_signs" s_half_of_signs) (D_half_mats : DefOk K mg "half_mats" s_half_mats) (D_paired : DefOk K mg "paired" s_paired) (D_pairing : DefOk K mg "pairing" s_pairing) (D__law_well : DefOk K mg "_law_well" s__law_well) (D__law_draw : DefOk K mg "_law_draw" s__law_draw) (D__law_hook : DefOk K mg "_law_hook" s__law_hook) (D__law_put : DefOk K mg "_law_put" s__law_put) (D__law_signs : DefOk K mg "_law_signs" s__law_signs) (D__law_half : DefOk K mg "_law_half" s__law_half) (D__law_halves : DefOk K mg "_law_halves" s__law_halves) (D__law_flip : DefOk K mg "_law_flip" s__law_flip) (D__law_paired : DefOk K mg "_law_paired" s__law_paired) (D__law_drawn_half : DefOk K mg "_law_drawn_half" s__law_drawn_half) (D__law_worth : DefOk K mg "_law_worth" s__law_worth) (D__law_two : DefOk K mg "_law_two" s__law_two) (D__law_mat : DefOk K mg "_law_mat" s__law_mat) (D__law_same : DefOk K mg "_law_same" s__law_same) (D__law_pair_right : DefOk K mg "_law_pair_right" s__law_pair_right) (D__law_list_right : DefOk K mg "_law_list_right" s__law_list_right)
    (a : PySem.W.nsIn K mainGlobals "law" = some (some (.ref f))) (lk : K.lookup f = some ⟨oc, od, .func (PySem.W.fnOf "law" "law" (defArgs s_law) (defBody s_law) (defScope s_law) .none kV doc pm an cdv ct), osl⟩) (c : PySem.W.codeIn K cdv "law" = true) (k : PySem.W.keepIn K (.ref f) = true) :
    ∃ fd : FuncData, (∀ (s : Shared) (v : Value), BindsTo s fd ⟨[v], []⟩ [("_law_script", v)]) ∧ ∀ base : Heap, K.In base → base.Ns mainGlobals mg → FnOk l.prog w K mg base CX0 9 fa fd ["_law_script"] (spLaw (K := K)) := by
  have e := hfa.symm.trans (PySem.W.mg_of X G a)
  cases e
  exact ⟨_, fun s v => .of_eq rfl, fun base _ _ => law_ok B D_round_of D_check_size D_check_pair D_is_mat D_checked_mat D_remade D_upside_down D_through D_upper_half D_far_end D_loose_rings D_put_behind D_check_halves D_check_half D_rows_of_signs D_half_of_signs D_half_mats D_paired D_pairing D__law_well D__law_draw D__law_hook D__law_put D__law_signs D__law_half D__law_halves D__law_flip D__law_paired D__law_drawn_half D__law_worth D__law_two D__law_mat D__law_same D__law_pair_right D__law_list_right (fun_mk lk c k)⟩
end
end HM
open PySem PySem.W PyProof.Rows
set_option maxHeartbeats 0 in
theorem PySem.Challenge.cw_hookmats_k48_whole_half_mats_and_their_p_holds : PySem.Challenge.rw_hookmats_k48_whole_half_mats_and_their_p.Holds := by
  w_on; o_law; k_head; (case hw => w_witness2)
  k_fill
  refine L2.walk_of (l := PySem.Challenge.rw_hookmats_k48_whole_half_mats_and_their_p) (n := 63) (k := 9) (x := "_law_script") (CX := fun _ => L2.CX0) (sp := fun w => HM.spLaw (K := _)) rfl (by decide) rfl ⟨rfl, by decide, by decide⟩ (fun w h Y => PySem.W.kIn_of Y) ?F (fun _ _ a ns hl _ hS => ⟨a, ns, rfl, hS, hl, fun _ => rfl⟩) (fun _ _ _ _ _ h => h)
  case F =>
    intro w mg fa h KX G hmg
    refine' HM.law_end KX G hmg ⟨PySem.W.mg_none_of KX G ?z_len, PySem.W.mg_none_of KX G ?z_range, PySem.W.mg_none_of KX G ?z_list, PySem.W.mg_none_of KX G ?z_tuple, PySem.W.mg_none_of KX G ?z_enumerate, PySem.W.mg_none_of KX G ?z_abs, PySem.W.mg_none_of KX G ?z_sorted, PySem.W.mg_none_of KX G ?z_all, PySem.W.mg_none_of KX G ?z_int, PySem.W.mg_none_of KX G ?z_isinstance, PySem.W.mg_none_of KX G ?z_min, PySem.W.mg_none_of KX G ?z_max, PySem.W.mg_none_of KX G ?z_reversed, PySem.W.mg_none_of KX G ?z_str⟩ (HM.def_mk KX G ?a_round_of ?l_round_of ?c_round_of ?k_round_of) (HM.def_mk KX G ?a_check_size ?l_check_size ?c_check_size ?k_check_size) (HM.def_mk KX G ?a_check_pair ?l_check_pair ?c_check_pair ?k_check_pair) (HM.def_mk KX G ?a_is_mat ?l_is_mat ?c_is_mat ?k_is_mat) (HM.def_mk KX G ?a_checked_mat ?l_checked_mat ?c_checked_mat ?k_checked_mat) (HM.def_mk KX G ?a_remade ?l_remade ?c_remade ?k_remade) (HM.def_mk KX G ?a_upside_down ?l_upside_down ?c_upside_down ?k_upside_down) (HM.def_mk KX G ?a_through ?l_through ?c_through ?k_through) (HM.def_mk KX G ?a_upper_half ?l_upper_half ?c_upper_half ?k_upper_half) (HM.def_mk KX G ?a_far_end ?l_far_end ?c_far_end ?k_far_end) (HM.def_mk KX G ?a_loose_rings ?l_loose_rings ?c_loose_rings ?k_loose_rings) (HM.def_mk KX G ?a_put_behind ?l_put_behind ?c_put_behind ?k_put_behind) (HM.def_mk KX G ?a_check_halves ?l_check_halves ?c_check_halves ?k_check_halves) (HM.def_mk KX G ?a_check_half ?l_check_half ?c_check_half ?k_check_half) (HM.def_mk KX G ?a_rows_of_signs ?l_rows_of_signs ?c_rows_of_signs ?k_rows_of_signs) (HM.def_mk KX G ?a_half_of_signs ?l_half_of_signs ?c_half_of_signs ?k_half_of_signs) (HM.def_mk KX G ?a_half_mats ?l_half_mats ?c_half_mats ?k_half_mats) (HM.def_mk KX G ?a_paired ?l_paired ?c_paired ?k_paired) (HM.def_mk KX G ?a_pairing ?l_pairing ?c_pairing ?k_pairing) (HM.def_mk KX G ?a__law_well ?l__law_well ?c__law_well ?k__law_well) (HM.def_mk KX G ?a__law_draw ?l__law_draw ?c__law_draw ?k__law_draw) (HM.def_mk KX G ?a__law_hook ?l__law_hook ?c__law_hook ?k__law_hook) (HM.def_mk KX G ?a__law_put ?l__law_put ?c__law_put ?k__law_put) (HM.def_mk KX G ?a__law_signs ?l__law_signs ?c__law_signs ?k__law_signs) (HM.def_mk KX G ?a__law_half ?l__law_half ?c__law_half ?k__law_half) (HM.def_mk KX G ?a__law_halves ?l__law_halves ?c__law_halves ?k__law_halves) (HM.def_mk KX G ?a__law_flip ?l__law_flip ?c__law_flip ?k__law_flip) (HM.def_mk KX G ?a__law_paired ?l__law_paired ?c__law_paired ?k__law_paired) (HM.def_mk KX G ?a__law_drawn_half ?l__law_drawn_half ?c__law_drawn_half ?k__law_drawn_half) (HM.def_mk KX G ?a__law_worth ?l__law_worth ?c__law_worth ?k__law_worth) (HM.def_mk KX G ?a__law_two ?l__law_two ?c__law_two ?k__law_two) (HM.def_mk KX G ?a__law_mat ?l__law_mat ?c__law_mat ?k__law_mat) (HM.def_mk KX G ?a__law_same ?l__law_same ?c__law_same ?k__law_same) (HM.def_mk KX G ?a__law_pair_right ?l__law_pair_right ?c__law_pair_right ?k__law_pair_right) (HM.def_mk KX G ?a__law_list_right ?l__law_list_right ?c__law_list_right ?k__law_list_right) ?a_law ?l_law ?c_law ?k_law
    (case z_len => k_is)
    (case z_range => k_is)
    (case z_list => k_is)
    (case z_tuple => k_is)
    (case z_enumerate => k_is)
    (case z_abs => k_is)
    (case z_sorted => k_is)
    (case z_all => k_is)
    (case z_int => k_is)
    (case z_isinstance => k_is)
    (case z_min => k_is)
    (case z_max => k_is)
    (case z_reversed => k_is)
    (case z_str => k_is)
    (case a_round_of => k_is); (case l_round_of => k_is); (case c_round_of => k_is); (case k_round_of => k_is)
    (case a_check_size => k_is); (case l_check_size => k_is); (case c_check_size => k_is); (case k_check_size => k_is)
    (case a_check_pair => k_is); (case l_check_pair => k_is); (case c_check_pair => k_is); (case k_check_pair => k_is)
    (case a_is_mat => k_is); (case l_is_mat => k_is); (case c_is_mat => k_is); (case k_is_mat => k_is)
    (case a_checked_mat => k_is); (case l_checked_mat => k_is); (case c_checked_mat => k_is); (case k_checked_mat => k_is)
    (case a_remade => k_is); (case l_remade => k_is); (case c_remade => k_is); (case k_remade => k_is)
    (case a_upside_down => k_is); (case l_upside_down => k_is); (case c_upside_down => k_is); (case k_upside_down => k_is)
    (case a_through => k_is); (case l_through => k_is); (case c_through => k_is); (case k_through => k_is)
    (case a_upper_half => k_is); (case l_upper_half => k_is); (case c_upper_half => k_is); (case k_upper_half => k_is)
    (case a_far_end => k_is); (case l_far_end => k_is); (case c_far_end => k_is); (case k_far_end => k_is)
    (case a_loose_rings => k_is); (case l_loose_rings => k_is); (case c_loose_rings => k_is); (case k_loose_rings => k_is)
    (case a_put_behind => k_is); (case l_put_behind => k_is); (case c_put_behind => k_is); (case k_put_behind => k_is)
    (case a_check_halves => k_is); (case l_check_halves => k_is); (case c_check_halves => k_is); (case k_check_halves => k_is)
    (case a_check_half => k_is); (case l_check_half => k_is); (case c_check_half => k_is); (case k_check_half => k_is)
    (case a_rows_of_signs => k_is); (case l_rows_of_signs => k_is); (case c_rows_of_signs => k_is); (case k_rows_of_signs => k_is)
    (case a_half_of_signs => k_is); (case l_half_of_signs => k_is); (case c_half_of_signs => k_is); (case k_half_of_signs => k_is)
    (case a_half_mats => k_is); (case l_half_mats => k_is); (case c_half_mats => k_is); (case k_half_mats => k_is)
    (case a_paired => k_is); (case l_paired => k_is); (case c_paired => k_is); (case k_paired => k_is)
    (case a_pairing => k_is); (case l_pairing => k_is); (case c_pairing => k_is); (case k_pairing => k_is)
    (case a__law_well => k_is); (case l__law_well => k_is); (case c__law_well => k_is); (case k__law_well => k_is)
    (case a__law_draw => k_is); (case l__law_draw => k_is); (case c__law_draw => k_is); (case k__law_draw => k_is)
    (case a__law_hook => k_is); (case l__law_hook => k_is); (case c__law_hook => k_is); (case k__law_hook => k_is)
    (case a__law_put => k_is); (case l__law_put => k_is); (case c__law_put => k_is); (case k__law_put => k_is)
    (case a__law_signs => k_is); (case l__law_signs => k_is); (case c__law_signs => k_is); (case k__law_signs => k_is)
    (case a__law_half => k_is); (case l__law_half => k_is); (case c__law_half => k_is); (case k__law_half => k_is)
    (case a__law_halves => k_is); (case l__law_halves => k_is); (case c__law_halves => k_is); (case k__law_halves => k_is)
    (case a__law_flip => k_is); (case l__law_flip => k_is); (case c__law_flip => k_is); (case k__law_flip => k_is)
    (case a__law_paired => k_is); (case l__law_paired => k_is); (case c__law_paired => k_is); (case k__law_paired => k_is)
    (case a__law_drawn_half => k_is); (case l__law_drawn_half => k_is); (case c__law_drawn_half => k_is); (case k__law_drawn_half => k_is)
    (case a__law_worth => k_is); (case l__law_worth => k_is); (case c__law_worth => k_is); (case k__law_worth => k_is)
    (case a__law_two => k_is); (case l__law_two => k_is); (case c__law_two => k_is); (case k__law_two => k_is)
    (case a__law_mat => k_is); (case l__law_mat => k_is); (case c__law_mat => k_is); (case k__law_mat => k_is)
    (case a__law_same => k_is); (case l__law_same => k_is); (case c__law_same => k_is); (case k__law_same => k_is)
    (case a__law_pair_right => k_is); (case l__law_pair_right => k_is); (case c__law_pair_right => k_is); (case k__law_pair_right => k_is)
    (case a__law_list_right => k_is); (case l__law_list_right => k_is); (case c__law_list_right => k_is); (case k__law_list_right => k_is)
    (case a_law => k_is); (case l_law => k_is); (case c_law => k_is); (case k_law => k_is)
