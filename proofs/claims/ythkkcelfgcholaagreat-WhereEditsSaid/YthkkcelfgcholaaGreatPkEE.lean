/- Plain laws for an edit on the transform: an order of a text's places that is right but for one of them, and the move that rights it (plain Lean). No conditions. Plain laws for an edit: the next row that may stand wrong, the start behind an insert and a delete (plain Lean). No conditions. Plain laws for an edit: the start behind a delete and behind a change (plain Lean). No conditions. Plain laws for an edit: the start behind a change of a letter (plain Lean). No conditions. -/
import Derived.Test.YthkkcelfgcholaaGreatQFnLF
import Derived.Test.YthkkcelfgcholaaGreatPkK
import Derived.Test.YthkkcelfgcholaaGreatPkEA
namespace Go.Proofs.YthkkcelfgcholaaGreat
set_option linter.unusedVariables false
set_option linter.unusedSimpArgs false
/-- in, out. -/
def inR (r c : Nat) : Nat := if c ≤ r then r + 1 else r
def outR (r g : Nat) : Nat := if g < r then r - 1 else r
/-- Where p stands. -/
abbrev ro (R : List Nat) (p : Nat) : Nat := R.idxOf p
theorem ro_get {R : List Nat} {p : Nat} (h : p ∈ R) : R[ro R p]? = some p := List.getElem?_eq_some_iff.2 ⟨List.idxOf_lt_length_iff.2 h, List.getElem_idxOf _⟩
theorem ro_of {R : List Nat} (hn : R.Nodup) {r p : Nat} (h : R[r]? = some p) : ro R p = r := by
  obtain ⟨hr, e⟩ := List.getElem?_eq_some_iff.1 h
  subst e
  exact hn.idxOf_getElem r hr
theorem ro_inj {R : List Nat} {p q : Nat} (hp : p ∈ R) (hq : q ∈ R) (h : ro R p = ro R q) : p = q := by
  have h1 := ro_get hp
  rw [h, ro_get hq] at h1
  injection h1 with h1
  exact h1.symm
/-- Where they stand behind a move of x from a to t. -/
theorem ro_move {R : List Nat} (hn : R.Nodup) {a t x : Nat} (ha : R[a]? = some x) (ht : t < R.length) :
    (insN (delN R a) t x).Perm R ∧ ro (insN (delN R a) t x) x = t ∧ ∀ p ∈ R, p ≠ x → ro (insN (delN R a) t x) p = inR (outR (ro R p) a) t := by
  have hal := (List.getElem?_eq_some_iff.1 ha).1
  have hdl := delN_len R hal
  have hperm : (insN (delN R a) t x).Perm R := (insN_perm _ _ _).trans (delN_perm ha)
  have hn' : (insN (delN R a) t x).Nodup := hperm.nodup_iff.2 hn
  refine ⟨hperm, ?_, fun p hp hpx => ?_⟩
  · refine ro_of hn' ?_
    rw [insN_get _ _ (by omega), if_neg (by omega), if_pos rfl]
  · have h1 := ro_get hp
    have hne : ro R p ≠ a := fun e => by
      rw [e, ha] at h1
      injection h1 with h1
      exact hpx h1.symm
    refine ro_of hn' ?_
    have hlt := (List.getElem?_eq_some_iff.1 h1).1
    rw [insN_get _ _ (by omega)]
    unfold inR outR
    by_cases c1 : a < ro R p
    · rw [if_pos c1]
      by_cases c2 : t ≤ ro R p - 1
      · rw [if_pos c2, if_neg (by omega), if_neg (by omega), delN_get _ hal, if_neg (by omega)]
        rw [← h1]
        congr 1
        omega
      · rw [if_neg c2, if_pos (by omega), delN_get _ hal, if_neg (by omega), ← h1]
        congr 1
        omega
    · rw [if_neg c1]
      by_cases c2 : t ≤ ro R p
      · rw [if_pos c2, if_neg (by omega), if_neg (by omega), delN_get _ hal, if_pos (by omega), ← h1]
        congr 1
      · rw [if_neg c2, if_pos (by omega), delN_get _ hal, if_pos (by omega), ← h1]
/-- The suffix from p on is less than that from q on, if the order R is right one further. -/
def keyR (S R : List Nat) (p q : Nat) : Prop := S.getD p 0 < S.getD q 0 ∨ (S.getD p 0 = S.getD q 0 ∧ ro R (p + 1) < ro R (q + 1))
/-- R is right but that the place i - 1 may stand wrong among those with its symbol (i = 0: it is right). -/
structure Near (S R : List Nat) (N i : Nat) : Prop where
  endk : EndOk S N
  perm : R.Perm (List.range (N + 1))
  first : ∀ p q, p ≤ N → q ≤ N → ro R p < ro R q → S.getD p 0 ≤ S.getD q 0
  cons : ∀ p q, p ≤ N → q ≤ N → p ≠ q → p + 1 ≠ i → q + 1 ≠ i → (ro R p < ro R q ↔ keyR S R p q)
section
variable {S R : List Nat} {N i : Nat}
theorem Near.nodup (h : Near S R N i) : R.Nodup := h.perm.nodup_iff.2 List.nodup_range
theorem Near.mem (h : Near S R N i) {p : Nat} : p ∈ R ↔ p ≤ N := by
  rw [h.perm.mem_iff, List.mem_range]
  omega
theorem Near.len (h : Near S R N i) : R.length = N + 1 := by simpa using h.perm.length_eq
theorem ltS_step {S : List Nat} {p q : Nat} (hp : p < S.length) (hq : q < S.length) (he : S.getD p 0 = S.getD q 0) (h : sufLt S (p + 1) (q + 1)) : sufLt S p q := by
  obtain ⟨w, k, h1, h2, h3⟩ := h
  refine ⟨w + 1, k + 1, by omega, fun m hm => ?_, ?_⟩
  · cases m with
    | zero =>
      rw [Nat.add_zero, Nat.add_zero, aN_getD hp, aN_getD hq, he]
    | succ m =>
      have := h2 m (by omega)
      rw [show p + (m + 1) = p + 1 + m by omega, show q + (m + 1) = q + 1 + m by omega]
      exact this
  · rw [show p + (k + 1) = p + 1 + k by omega, show q + (k + 1) = q + 1 + k by omega]
    exact h3
theorem ltS_now {S : List Nat} {p q : Nat} (hp : p < S.length) (hq : q < S.length) (he : S.getD p 0 < S.getD q 0) : sufLt S p q := by
  refine ⟨1, 0, by omega, fun m hm => by omega, ?_⟩
  rw [Nat.add_zero, Nat.add_zero, aN_getD hp, aN_getD hq]
  omega
/-- An order that is right is that of the sorted suffixes. -/
theorem Near.sorted (h : Near S R N 0) : IsSuf S R := by
  obtain ⟨e1, e2, e3⟩ := h.endk
  have key : ∀ d p q, N < p + d → p ≤ N → q ≤ N → p ≠ q → ro R p < ro R q → sufLt S p q := by
    intro d
    induction d with
    | zero => intro p q hd hp; omega
    | succ d ih =>
      intro p q hd hp hq hpq hlt
      rcases (h.cons p q hp hq hpq (by omega) (by omega)).1 hlt with h1 | ⟨h1, h2⟩
      · exact ltS_now (by omega) (by omega) h1
      · have hpN : p ≠ N := fun e => by
          subst e
          have := e3 q (by omega)
          omega
        have hqN : q ≠ N := fun e => by
          subst e
          have := e3 p (by omega)
          omega
        exact ltS_step (by omega) (by omega) h1 (ih (p + 1) (q + 1) (by omega) (by omega) (by omega) (by omega) h2)
  refine ⟨by rw [e1]; exact h.perm, ?_⟩
  rw [List.pairwise_iff_getElem]
  intro a b ha hb hab
  have hn := h.nodup
  have hpa : R[a] ≤ N := h.mem.1 (List.getElem_mem ha)
  have hpb : R[b] ≤ N := h.mem.1 (List.getElem_mem hb)
  have ra : ro R R[a] = a := ro_of hn (List.getElem?_eq_getElem ha)
  have rb : ro R R[b] = b := ro_of hn (List.getElem?_eq_getElem hb)
  exact key (N + 1) _ _ (by omega) hpa hpb (fun e => by rw [e, rb] at ra; omega) (by rw [ra, rb]; exact hab)
/-- A sorted order is right. -/
theorem IsSuf.near (h : IsSuf S R) (he : EndOk S N) : Near S R N 0 := by
  obtain ⟨e1, e2, e3⟩ := he
  have hperm : R.Perm (List.range (N + 1)) := by rw [← e1]; exact h.perm
  have hn := h.nodup
  have hm : ∀ p, p ≤ N → p ∈ R := fun p hp => h.mem (by omega)
  have hs : ∀ p q, p ≤ N → q ≤ N → ro R p < ro R q → sufLt S p q := fun p q hp hq hlt => by
    have hpl := (List.getElem?_eq_some_iff.1 (ro_get (hm p hp)))
    have hql := (List.getElem?_eq_some_iff.1 (ro_get (hm q hq)))
    obtain ⟨h1, h2⟩ := hpl
    obtain ⟨h3, h4⟩ := hql
    have := List.pairwise_iff_getElem.1 h.sorted _ _ h1 h3 hlt
    rwa [h2, h4] at this
  have hs2 : ∀ p q, p ≤ N → q ≤ N → sufLt S p q → ro R p < ro R q := fun p q hp hq hlt => by
    rcases Nat.lt_trichotomy (ro R p) (ro R q) with h1 | h1 | h1
    · exact h1
    · have := ro_inj (hm p hp) (hm q hq) h1
      subst this
      exact (hlt.asymm hlt).elim
    · exact (hlt.asymm (hs q p hq hp h1)).elim
  have hk : ∀ p q, p ≤ N → q ≤ N → sufLt S p q → S.getD p 0 ≤ S.getD q 0 := fun p q hp hq ⟨w, k, h1, h2, h3⟩ => by
    cases k with
    | zero =>
      rw [Nat.add_zero, Nat.add_zero, aN_getD (by omega), aN_getD (by omega)] at h3
      omega
    | succ k =>
      have := h2 0 (by omega)
      rw [Nat.add_zero, Nat.add_zero, aN_getD (by omega), aN_getD (by omega)] at this
      omega
  have hk2 : ∀ p q, p ≤ N → q ≤ N → p ≠ q → S.getD p 0 = S.getD q 0 → (sufLt S p q ↔ sufLt S (p + 1) (q + 1)) := fun p q hp hq hpq heq => by
    constructor
    · rintro ⟨w, k, h1, h2, h3⟩
      cases k with
      | zero =>
        rw [Nat.add_zero, Nat.add_zero, aN_getD (by omega), aN_getD (by omega)] at h3
        omega
      | succ k =>
        refine ⟨k + 1, k, by omega, fun m hm => ?_, ?_⟩
        · have := h2 (m + 1) (by omega)
          rw [show p + 1 + m = p + (m + 1) by omega, show q + 1 + m = q + (m + 1) by omega]
          exact this
        · rw [show p + 1 + k = p + (k + 1) by omega, show q + 1 + k = q + (k + 1) by omega]
          exact h3
    · exact ltS_step (by omega) (by omega) heq
  refine ⟨⟨e1, e2, e3⟩, hperm, fun p q hp hq hlt => hk p q hp hq (hs p q hp hq hlt), fun p q hp hq hpq _ _ => ?_⟩
  unfold keyR
  constructor
  · intro hlt
    have h1 := hs p q hp hq hlt
    rcases Nat.lt_or_eq_of_le (hk p q hp hq h1) with h2 | h2
    · exact .inl h2
    · refine .inr ⟨h2, ?_⟩
      have hpN : p ≠ N := fun e => by
        subst e
        have := e3 q (by omega)
        omega
      have hqN : q ≠ N := fun e => by
        subst e
        have := e3 p (by omega)
        omega
      exact hs2 _ _ (by omega) (by omega) ((hk2 p q hp hq hpq h2).1 h1)
  · rintro (h1 | ⟨h1, h2⟩)
    · exact hs2 p q hp hq (ltS_now (by omega) (by omega) h1)
    · have hpN : p ≠ N := fun e => by
        subst e
        have := e3 q (by omega)
        omega
      have hqN : q ≠ N := fun e => by
        subst e
        have := e3 p (by omega)
        omega
      exact hs2 p q hp hq ((hk2 p q hp hq hpq h1).2 (hs _ _ (by omega) (by omega) h2))
/-- How many places are ahead of c's rows whose next place stands ahead of row r. -/
def kcnt (S R : List Nat) (N c r : Nat) : Nat := (List.range (N + 1)).countP fun p => decide (S.getD p 0 < c ∨ (S.getD p 0 = c ∧ ro R (p + 1) < r))
theorem take_cntP {R : List Nat} (hn : R.Nodup) (r : Nat) (f : Nat → Bool) : (R.take r).countP f = R.countP fun p => f p && decide (ro R p < r) := by
  have h1 : R.countP (fun p => f p && decide (ro R p < r)) = (R.take r).countP (fun p => f p && decide (ro R p < r)) + (R.drop r).countP (fun p => f p && decide (ro R p < r)) := by
    rw [← List.countP_append, List.take_append_drop]
  have h2 : (R.drop r).countP (fun p => f p && decide (ro R p < r)) = 0 := by
    rw [List.countP_eq_zero]
    intro p hp
    obtain ⟨j, hj, e⟩ := List.mem_iff_getElem.1 hp
    rw [List.getElem_drop] at e
    have : ro R p = r + j := ro_of hn (by rw [← e]; exact List.getElem?_eq_getElem _)
    simp
    omega
  have h3 : (R.take r).countP (fun p => f p && decide (ro R p < r)) = (R.take r).countP f := by
    refine List.countP_congr fun p hp => ?_
    obtain ⟨j, hj, e⟩ := List.mem_iff_getElem.1 hp
    rw [List.length_take] at hj
    rw [List.getElem_take] at e
    have : ro R p = j := ro_of hn (by rw [← e]; exact List.getElem?_eq_getElem _)
    have hjr : ro R p < r := by omega
    simp [hjr]
  rw [h1, h2, h3]
  rfl
theorem countP_split {l : List Nat} {f g : Nat → Bool} (h : ∀ x ∈ l, ¬ (f x = true ∧ g x = true)) : l.countP f + l.countP g = l.countP fun x => f x || g x := by
  induction l with
  | nil => rfl
  | cons x l ih =>
    have hx := h x (by simp)
    rw [List.countP_cons, List.countP_cons, List.countP_cons, ← ih fun y hy => h y (by simp [hy])]
    cases hf : f x <;> cases hg : g x <;> simp_all <;> omega
/-- Where a row with the symbol c ahead leads to. -/
theorem narL_cnt (he : EndOk S N) (hp : R.Perm (List.range (N + 1))) {c : Nat} (hc : 0 < c) (r : Nat) : narL (lastL S R) c r = kcnt S R N c r := by
  obtain ⟨e1, e2, e3⟩ := he
  have hn : R.Nodup := hp.nodup_iff.2 List.nodup_range
  unfold narL kcnt
  have h1 : (lastL S R).countP (fun x => decide (x < c)) = (List.range (N + 1)).countP fun p => decide (S.getD p 0 < c) := by
    unfold lastL
    rw [List.countP_map, hp.countP_eq]
    refine count_prev _ _ ?_ fun p hp => ?_
    · simp only [Function.comp]
      rw [prevL_zero (by omega), e1]
      rfl
    · simp only [Function.comp]
      rw [prevL_succ (by omega)]
  have h2 : ((lastL S R).take r).count c = (List.range (N + 1)).countP fun p => decide (S.getD p 0 = c) && decide (ro R (p + 1) < r) := by
    unfold lastL
    rw [← List.map_take, List.count_eq_countP, List.countP_map, take_cntP hn, hp.countP_eq]
    refine count_prev _ _ ?_ fun p hp => ?_
    · simp only [Function.comp]
      rw [prevL_zero (by omega), e1]
      have : (N + 1 - 1) = N := by omega
      rw [this, e2]
      have hc0 : ¬ (0 : Nat) = c := by omega
      simp [hc0]
    · simp only [Function.comp]
      rw [prevL_succ (by omega)]
      rfl
  rw [h1, h2, countP_split]
  · refine List.countP_congr fun p _ => ?_
    simp
  · intro p _ ⟨ha, hb⟩
    simp at ha hb
    omega
/-- Of a list in which the ones with K stand ahead, the j-th has K where j is below their number. -/
theorem pre_lt {K : Nat → Bool} : ∀ {O : List Nat}, O.Pairwise (fun p q => K q = true → K p = true) → ∀ (j p : Nat), O[j]? = some p → (K p = true ↔ j < O.countP K)
  | [], _, j, p, h => by simp at h
  | x :: O, hO, j, p, h => by
    obtain ⟨h1, h2⟩ := List.pairwise_cons.1 hO
    cases hx : K x with
    | true =>
      rw [List.countP_cons_of_pos hx]
      cases j with
      | zero =>
        injection h with h
        subst h
        simp [hx]
      | succ j =>
        rw [pre_lt h2 j p h]
        omega
    | false =>
      have h0 : (x :: O).countP K = 0 := by
        rw [List.countP_eq_zero]
        intro y hy
        rcases List.mem_cons.1 hy with rfl | hy
        · simp [hx]
        · intro hk
          have := h1 y hy hk
          rw [hx] at this
          cases this
      rw [h0]
      have hp : p ∈ x :: O := List.mem_of_getElem? h
      have := (List.countP_eq_zero.1 h0) p hp
      simp [this]
/-- The places that belong ahead of i's, by one symbol and the row of the next one. -/
def KB (S R : List Nat) (i p : Nat) : Bool := decide (S.getD p 0 < S.getD i 0 ∨ (S.getD p 0 = S.getD i 0 ∧ ro R (p + 1) < ro R (i + 1)))
theorem kcnt_lt (h : Near S R N (i + 1)) (hi : i ≤ N) : ∀ p, p ≤ N → p ≠ i → (KB S R i p = true ↔ outR (ro R p) (ro R i) < kcnt S R N (S.getD i 0) (ro R (i + 1))) := by
  intro p hp hpi
  have hn := h.nodup
  have hgi := ro_get (h.mem.2 hi)
  have hgp := ro_get (h.mem.2 hp)
  have hil := (List.getElem?_eq_some_iff.1 hgi).1
  have hperm := delN_perm hgi
  have hnd : (delN R (ro R i)).Nodup := (List.nodup_cons.1 (hperm.nodup_iff.2 hn)).2
  have hne : ro R p ≠ ro R i := fun e => hpi (ro_inj (h.mem.2 hp) (h.mem.2 hi) e)
  have hat : (delN R (ro R i))[outR (ro R p) (ro R i)]? = some p := by
    unfold outR
    rw [delN_get _ hil]
    by_cases c : ro R i < ro R p
    · rw [if_pos c, if_neg (by omega), ← hgp]
      congr 1
      omega
    · rw [if_neg c, if_pos (by omega), ← hgp]
  have hcnt : kcnt S R N (S.getD i 0) (ro R (i + 1)) = (delN R (ro R i)).countP (KB S R i) := by
    unfold kcnt
    rw [← h.perm.countP_eq, ← hperm.countP_eq, List.countP_cons]
    have h0 : decide (S.getD i 0 < S.getD i 0 ∨ (S.getD i 0 = S.getD i 0 ∧ ro R (i + 1) < ro R (i + 1))) = false := by
      rw [decide_eq_false_iff_not]
      omega
    rw [h0]
    rfl
  rw [hcnt]
  refine pre_lt ?_ _ _ hat
  rw [List.pairwise_iff_getElem]
  intro a b ha hb hab hkb
  have hda : (delN R (ro R i))[a]? = some (delN R (ro R i))[a] := List.getElem?_eq_getElem ha
  have hdb : (delN R (ro R i))[b]? = some (delN R (ro R i))[b] := List.getElem?_eq_getElem hb
  obtain ⟨x, hx⟩ : ∃ x, (delN R (ro R i))[a] = x := ⟨_, rfl⟩
  obtain ⟨y, hy⟩ : ∃ y, (delN R (ro R i))[b] = y := ⟨_, rfl⟩
  rw [hx] at hda ⊢
  rw [hy] at hdb hkb
  have hni := (List.nodup_cons.1 (hperm.nodup_iff.2 hn)).1
  have hma := List.mem_of_getElem? hda
  have hmb := List.mem_of_getElem? hdb
  have hxi : x ≠ i := fun e => hni (by rw [e] at hma; exact hma)
  have hyi : y ≠ i := fun e => hni (by rw [e] at hmb; exact hmb)
  have hxR : x ∈ R := hperm.subset (by simp [List.mem_of_getElem? hda])
  have hyR : y ∈ R := hperm.subset (by simp [List.mem_of_getElem? hdb])
  have hxN := h.mem.1 hxR
  have hyN := h.mem.1 hyR
  have rx : ∀ {a' x' : Nat}, (delN R (ro R i))[a']? = some x' → ro R x' = if a' < ro R i then a' else a' + 1 := fun {a' x'} hh => by
    rw [delN_get _ hil] at hh
    split at hh
    · rw [if_pos (by assumption)]
      exact ro_of hn hh
    · rw [if_neg (by assumption)]
      exact ro_of hn hh
  have hlt : ro R x < ro R y := by
    rw [rx hda, rx hdb]
    split <;> split <;> omega
  have hxy : x ≠ y := fun e => by
    subst e
    omega
  have hk := (h.cons x y hxN hyN hxy (by omega) (by omega)).1 hlt
  unfold KB at hkb ⊢
  rw [decide_eq_true_eq] at hkb ⊢
  unfold keyR at hk
  omega
/-- The row to which the symbol ahead of i + 1's row leads. -/
def tgt (S R : List Nat) (i : Nat) : Nat := narL (lastL S R) (S.getD i 0) (ro R (i + 1))
theorem tgt_eq (h : Near S R N (i + 1)) (hi : i < N) : tgt S R i = kcnt S R N (S.getD i 0) (ro R (i + 1)) := narL_cnt h.endk h.perm (h.endk.pos i hi) _
theorem tgt_lt (h : Near S R N (i + 1)) (hi : i < N) : tgt S R i < N + 1 := by
  rw [tgt_eq h hi]
  unfold kcnt
  have hb : (List.range (N + 1)).countP (fun p => decide (S.getD p 0 < S.getD i 0 ∨ (S.getD p 0 = S.getD i 0 ∧ ro R (p + 1) < ro R (i + 1)))) ≠ (List.range (N + 1)).length := fun e => by
    have := (List.countP_eq_length.1 e) i (by simp; omega)
    rw [decide_eq_true_eq] at this
    omega
  have hle := List.countP_le_length (p := fun p => decide (S.getD p 0 < S.getD i 0 ∨ (S.getD p 0 = S.getD i 0 ∧ ro R (p + 1) < ro R (i + 1)))) (l := List.range (N + 1))
  rw [List.length_range] at hb hle
  omega
theorem near_go (h : Near S R N (i + 1)) (hi : i < N) {R' : List Nat} {t : Nat} (ht : t = tgt S R i) (hp' : R'.Perm R) (hi' : ro R' i = t) (ho : ∀ p ∈ R, p ≠ i → ro R' p = inR (outR (ro R p) (ro R i)) t) (j : Nat) (hj : j = i ∨ (ro R i = t ∧ j = 0)) : Near S R' N j := by
  have hk := kcnt_lt h (by omega)
  rw [← tgt_eq h hi, ← ht] at hk
  have hmem : ∀ p, p ≤ N → p ∈ R := fun p hp => h.mem.2 hp
  have hne : ∀ p, p ≤ N → p ≠ i → ro R p ≠ ro R i := fun p hp hpi e => hpi (ro_inj (hmem p hp) (hmem i (by omega)) e)
  have hord : ∀ p q, p ≤ N → q ≤ N → p ≠ i → q ≠ i → (ro R' p < ro R' q ↔ ro R p < ro R q) := fun p q hp hq hpi hqi => by
    rw [ho p (hmem p hp) hpi, ho q (hmem q hq) hqi]
    have h1 := hne p hp hpi
    have h2 := hne q hq hqi
    unfold inR outR
    split <;> split <;> split <;> split <;> omega
  have hbef : ∀ p, p ≤ N → p ≠ i → (ro R' p < ro R' i ↔ KB S R i p = true) := fun p hp hpi => by
    rw [hk p hp hpi, hi', ho p (hmem p hp) hpi]
    unfold inR
    split <;> omega
  have haft : ∀ p, p ≤ N → p ≠ i → (ro R' i < ro R' p ↔ ¬ KB S R i p = true) := fun p hp hpi => by
    rw [hk p hp hpi, hi', ho p (hmem p hp) hpi]
    unfold inR
    split <;> omega
  have hsucc : ∀ p, p < N → p ≠ i → (p + 1 ≠ i ∨ ro R i = t) → (ro R (p + 1) < ro R (i + 1) ↔ ro R' (p + 1) < ro R' (i + 1)) := fun p hp hpi hc => by
    rcases hc with hc | hc
    · exact (hord (p + 1) (i + 1) (by omega) (by omega) hc (by omega)).symm
    · have he : ∀ q, q ≤ N → ro R' q = ro R q := fun q hq => by
        by_cases hqi : q = i
        · subst hqi
          omega
        · rw [ho q (hmem q hq) hqi, hc]
          have := hne q hq hqi
          unfold inR outR
          split <;> split <;> omega
      rw [he _ (by omega), he _ (by omega)]
  obtain ⟨e1, e2, e3⟩ := h.endk
  refine ⟨h.endk, hp'.trans h.perm, fun p q hp hq hlt => ?_, fun p q hp hq hpq hpj hqj => ?_⟩
  · by_cases hpi : p = i
    · subst hpi
      by_cases hqi : q = p
      · subst hqi
        omega
      · have := (haft q hq hqi).1 hlt
        unfold KB at this
        rw [decide_eq_true_eq] at this
        omega
    · by_cases hqi : q = i
      · subst hqi
        have := (hbef p hp hpi).1 hlt
        unfold KB at this
        rw [decide_eq_true_eq] at this
        omega
      · exact h.first p q hp hq ((hord p q hp hq hpi hqi).1 hlt)
  · have hend : ∀ x y, x ≤ N → y ≤ N → x ≠ y → S.getD x 0 = S.getD y 0 → x < N ∧ y < N := fun x y hx hy hxy hxye => by
      refine ⟨Nat.lt_of_le_of_ne hx fun e => ?_, Nat.lt_of_le_of_ne hy fun e => ?_⟩
      · subst e
        have := e3 y (by omega)
        omega
      · subst e
        have := e3 x (by omega)
        omega
    by_cases hpi : p = i
    · subst hpi
      have hqi : q ≠ p := fun e => hpq e.symm
      rw [haft q hq hqi]
      unfold KB keyR
      rw [decide_eq_true_eq]
      by_cases hee : S.getD q 0 = S.getD p 0
      · obtain ⟨hx1, hx2⟩ := hend q p hq hp hqi hee
        have := hsucc q hx1 hqi (by omega)
        have hneq : ro R (q + 1) ≠ ro R (p + 1) := fun e => hqi (by have := ro_inj (hmem (q + 1) (by omega)) (hmem (p + 1) (by omega)) e; omega)
        have hneq' : ro R' (q + 1) ≠ ro R' (p + 1) := fun e => hqi (by have := ro_inj ((hp'.trans h.perm).mem_iff.2 (by simp; omega)) ((hp'.trans h.perm).mem_iff.2 (by simp; omega)) e; omega)
        omega
      · omega
    · by_cases hqi : q = i
      · subst hqi
        rw [hbef p hp hpi]
        unfold KB keyR
        rw [decide_eq_true_eq]
        by_cases hee : S.getD p 0 = S.getD q 0
        · obtain ⟨hx1, hx2⟩ := hend p q hp hq hpi hee
          have := hsucc p hx1 hpi (by omega)
          omega
        · omega
      · rw [hord p q hp hq hpi hqi, h.cons p q hp hq hpq (by omega) (by omega)]
        unfold keyR
        by_cases hee : S.getD p 0 = S.getD q 0
        · obtain ⟨hx1, hx2⟩ := hend p q hp hq hpq hee
          by_cases hz : ro R i = t
          · have he : ∀ q, q ≤ N → ro R' q = ro R q := fun q hq => by
              by_cases hqi : q = i
              · subst hqi
                omega
              · rw [ho q (hmem q hq) hqi, hz]
                have := hne q hq hqi
                unfold inR outR
                split <;> split <;> omega
            rw [he _ (by omega), he _ (by omega)]
          · rw [hord (p + 1) (q + 1) (by omega) (by omega) (by omega) (by omega)]
        · omega
end
end Go.Proofs.YthkkcelfgcholaaGreat
namespace Go.Proofs.YthkkcelfgcholaaGreat
set_option linter.unusedVariables false
set_option linter.unusedSimpArgs false
/-- Two tests that agree but at x. -/
theorem countP_but {l : List Nat} (hn : l.Nodup) {x : Nat} (hx : x ∈ l) {f g : Nat → Bool} (h : ∀ y ∈ l, y ≠ x → f y = g y) : l.countP f + (if g x then 1 else 0) = l.countP g + (if f x then 1 else 0) := by
  have hp := List.perm_cons_erase hx
  have hn2 := hp.nodup_iff.1 hn
  have e : (l.erase x).countP f = (l.erase x).countP g := List.countP_congr fun y hy => by
    rw [h y (List.mem_of_mem_erase hy) (fun e => (List.nodup_cons.1 hn2).1 (e ▸ hy))]
  rw [hp.countP_eq, hp.countP_eq, List.countP_cons, List.countP_cons, e]
  omega
theorem ro_cnt {R : List Nat} (hn : R.Nodup) {y : Nat} (hy : y ∈ R) : R.countP (fun p => decide (ro R p < ro R y)) = ro R y := by
  have h := take_cntP hn (ro R y) (fun _ => true)
  have h2 : (R.take (ro R y)).countP (fun _ => true) = (R.take (ro R y)).length := List.countP_eq_length.2 fun _ _ => rfl
  rw [h2, List.length_take] at h
  have hl : ro R y < R.length := List.idxOf_lt_length_iff.2 hy
  rw [Nat.min_eq_left (by omega)] at h
  simp only [Bool.true_and] at h
  exact h.symm
/-- beside. -/
def besN (n cur a : Nat) : Nat := let m := if cur < a then n - 1 else n; if a ≤ m then m + 1 else m
section
variable {S R : List Nat} {N i : Nat}
/-- The row of the next place ahead, from the row that may stand wrong. -/
theorem next_row (h : Near S R N (i + 2)) (hi : i + 1 < N) : (if S.getD (i + 1) 0 = S.getD i 0 then besN (narL (lastL S R) (S.getD i 0) (ro R (i + 1))) (ro R (i + 2)) (ro R (i + 1)) else narL (lastL S R) (S.getD i 0) (ro R (i + 1))) = ro R i ∧
    (S.getD (i + 1) 0 = S.getD i 0 → ro R (i + 2) < ro R (i + 1) → 0 < narL (lastL S R) (S.getD i 0) (ro R (i + 1))) := by
  have hn := h.nodup
  have hm : ∀ p, p ≤ N → p ∈ R := fun p hp => h.mem.2 hp
  have hne : ∀ p q, p ≤ N → q ≤ N → p ≠ q → ro R p ≠ ro R q := fun p q hp hq hpq e => hpq (ro_inj (hm p hp) (hm q hq) e)
  have hd := h.endk.pos i (by omega)
  rw [narL_cnt h.endk h.perm hd]
  have c1 : (List.range (N + 1)).countP (fun p => decide (ro R p < ro R i)) = ro R i := by
    rw [← h.perm.countP_eq]
    exact ro_cnt hn (hm i (by omega))
  have hcons : ∀ y ∈ List.range (N + 1), y ≠ i + 1 → decide (ro R y < ro R i) = decide (S.getD y 0 < S.getD i 0 ∨ (S.getD y 0 = S.getD i 0 ∧ ro R (y + 1) < ro R (i + 1))) := fun y hy hyi => by
    rw [List.mem_range] at hy
    rw [decide_eq_decide]
    by_cases hy2 : y = i
    · subst hy2
      omega
    · exact h.cons y i (by omega) (by omega) hy2 (by omega) (by omega)
  have hb := countP_but List.nodup_range (x := i + 1) (by simp; omega) hcons
  rw [c1] at hb
  unfold kcnt
  generalize hn0 : List.countP (fun p => decide (S.getD p 0 < S.getD i 0 ∨ (S.getD p 0 = S.getD i 0 ∧ ro R (p + 1) < ro R (i + 1)))) (List.range (N + 1)) = n0 at hb ⊢
  have hia := hne i (i + 1) (by omega) (by omega) (by omega)
  have hca := hne (i + 2) (i + 1) (by omega) (by omega) (by omega)
  have f1 := h.first (i + 1) i (by omega) (by omega)
  have f2 := h.first i (i + 1) (by omega) (by omega)
  simp only [decide_eq_true_eq, show i + 1 + 1 = i + 2 by omega] at hb
  by_cases he : S.getD (i + 1) 0 = S.getD i 0
  · have e1 : (S.getD (i + 1) 0 < S.getD i 0 ∨ (S.getD (i + 1) 0 = S.getD i 0 ∧ ro R (i + 2) < ro R (i + 1))) ↔ ro R (i + 2) < ro R (i + 1) := by omega
    simp only [e1] at hb
    rw [if_pos he]
    unfold besN
    refine ⟨?_, fun _ hlt => ?_⟩
    · by_cases q1 : ro R (i + 2) < ro R (i + 1)
      · rw [if_pos q1] at hb
        simp only [if_pos q1]
        split at hb <;> split <;> omega
      · rw [if_neg q1] at hb
        simp only [if_neg q1]
        split at hb <;> split <;> omega
    · rw [if_pos hlt] at hb
      split at hb <;> omega
  · have e1 : (S.getD (i + 1) 0 < S.getD i 0 ∨ (S.getD (i + 1) 0 = S.getD i 0 ∧ ro R (i + 2) < ro R (i + 1))) ↔ ro R (i + 1) < ro R i := by omega
    simp only [e1] at hb
    rw [if_neg he]
    exact ⟨by omega, fun e => absurd e he⟩
/-- Where a place stands in a text with a place more. -/
def sh (k p : Nat) : Nat := if p < k then p else p + 1
theorem sh_inj {k p q : Nat} (h : sh k p = sh k q) : p = q := by unfold sh at h; split at h <;> split at h <;> omega
theorem sh_ne (k p : Nat) : sh k p ≠ k := by unfold sh; split <;> omega
theorem sh_onto {k q : Nat} (h : q ≠ k) : ∃ p, sh k p = q := by
  by_cases c : q < k
  · exact ⟨q, by unfold sh; rw [if_pos c]⟩
  · exact ⟨q - 1, by unfold sh; rw [if_neg (by omega)]; omega⟩
theorem insN_gD (l : List Nat) {k : Nat} (x : Nat) (h : k ≤ l.length) (j : Nat) : (insN l k x).getD j 0 = if j < k then l.getD j 0 else if j = k then x else l.getD (j - 1) 0 := by
  rw [List.getD_eq_getElem?_getD, insN_get l x h]
  split
  · rw [List.getD_eq_getElem?_getD]
  · split
    · rfl
    · rw [List.getD_eq_getElem?_getD]
theorem ins_sh (l : List Nat) {k : Nat} (x p : Nat) (h : k ≤ l.length) : (insN l k x).getD (sh k p) 0 = l.getD p 0 := by
  rw [insN_gD l x h]
  by_cases c : p < k
  · rw [show sh k p = p by unfold sh; rw [if_pos c], if_pos c]
  · rw [show sh k p = p + 1 by unfold sh; rw [if_neg c], if_neg (by omega), if_neg (by omega), Nat.add_sub_cancel]
theorem ins_at (l : List Nat) {k : Nat} (x : Nat) (h : k ≤ l.length) : (insN l k x).getD k 0 = x := by
  rw [insN_gD l x h, if_neg (by omega), if_pos rfl]
/-- Where rows stand behind a row that came in. -/
theorem ro_ins {R : List Nat} (hn : R.Nodup) {at_ row : Nat} (hr : row ≤ R.length) : ro (insN (R.map (sh at_)) row at_) at_ = row ∧ (∀ p ∈ R, ro (insN (R.map (sh at_)) row at_) (sh at_ p) = inR (ro R p) row) ∧ (insN (R.map (sh at_)) row at_).Nodup := by
  have hl : row ≤ (R.map (sh at_)).length := by simpa using hr
  have hnd : (insN (R.map (sh at_)) row at_).Nodup := by
    rw [(insN_perm _ _ _).nodup_iff, List.nodup_cons]
    refine ⟨fun hm => ?_, List.pairwise_map.2 (hn.imp fun h1 h2 => h1 (sh_inj h2))⟩
    obtain ⟨p, _, e⟩ := List.mem_map.1 hm
    exact sh_ne _ _ e
  refine ⟨ro_of hnd ?_, fun p hp => ro_of hnd ?_, hnd⟩
  · rw [insN_get _ _ hl, if_neg (by omega), if_pos rfl]
  · rw [insN_get _ _ hl]
    have hg := ro_get hp
    unfold inR
    by_cases c : row ≤ ro R p
    · rw [if_pos c, if_neg (by omega), if_neg (by omega), Nat.add_sub_cancel, List.getElem?_map, hg]
      rfl
    · rw [if_neg c, if_pos (by omega), List.getElem?_map, hg]
      rfl
theorem ins_end (h : EndOk S N) {at_ s : Nat} (ha : at_ ≤ N) (hs : 0 < s) : EndOk (insN S at_ s) (N + 1) := by
  obtain ⟨e1, e2, e3⟩ := h
  refine ⟨by rw [insN_len _ _ (by omega), e1], ?_, fun p hp => ?_⟩
  · rw [insN_gD _ _ (by omega), if_neg (by omega), if_neg (by omega), Nat.add_sub_cancel, e2]
  · rw [insN_gD _ _ (by omega)]
    split
    · exact e3 p (by omega)
    · split
      · exact hs
      · exact e3 _ (by omega)
theorem perm_ins {R : List Nat} (hp : R.Perm (List.range (N + 1))) {at_ : Nat} (row : Nat) (ha : at_ ≤ N) : (insN (R.map (sh at_)) row at_).Perm (List.range (N + 1 + 1)) := by
  refine (List.perm_ext_iff_of_nodup ?_ List.nodup_range).2 fun q => ?_
  · rw [(insN_perm _ _ _).nodup_iff, List.nodup_cons]
    refine ⟨fun hm => ?_, List.pairwise_map.2 ((hp.nodup_iff.2 List.nodup_range).imp fun h1 h2 => h1 (sh_inj h2))⟩
    obtain ⟨p, _, e⟩ := List.mem_map.1 hm
    exact sh_ne _ _ e
  · rw [(insN_perm _ _ _).mem_iff, List.mem_cons, List.mem_map, List.mem_range]
    constructor
    · rintro (rfl | ⟨p, hpm, rfl⟩)
      · omega
      · have := List.mem_range.1 (hp.mem_iff.1 hpm)
        unfold sh
        split <;> omega
    · intro hq
      by_cases c : q = at_
      · exact .inl c
      · obtain ⟨p, rfl⟩ := sh_onto c
        refine .inr ⟨p, hp.mem_iff.2 (List.mem_range.2 ?_), rfl⟩
        unfold sh at hq c
        split at hq <;> omega
/-- The order behind an insert is right but for the place ahead. -/
theorem near_ins (h0 : IsSuf S R) (he : EndOk S N) {at_ s : Nat} (ha : at_ ≤ N) (hs : 0 < s) : narL (lastL S R) s (ro R at_) ≤ R.length ∧ Near (insN S at_ s) (insN (R.map (sh at_)) (narL (lastL S R) s (ro R at_)) at_) (N + 1) at_ := by
  have h := h0.near he
  have hn := h.nodup
  have hm : ∀ p, p ≤ N → p ∈ R := fun p hp => h.mem.2 hp
  obtain ⟨row, hrow⟩ : ∃ row, narL (lastL S R) s (ro R at_) = row := ⟨_, rfl⟩
  have hcnt : R.countP (fun p => decide (S.getD p 0 < s ∨ (S.getD p 0 = s ∧ ro R (p + 1) < ro R at_))) = row := by
    rw [← hrow, narL_cnt he h.perm hs, h.perm.countP_eq]
    rfl
  rw [hrow]
  have hle : row ≤ R.length := by rw [← hcnt]; exact List.countP_le_length
  have hpre : ∀ p, p ≤ N → (decide (S.getD p 0 < s ∨ (S.getD p 0 = s ∧ ro R (p + 1) < ro R at_)) = true ↔ ro R p < row) := fun p hp => by
    rw [← hcnt]
    refine pre_lt (K := fun p => decide (S.getD p 0 < s ∨ (S.getD p 0 = s ∧ ro R (p + 1) < ro R at_))) ?_ _ _ (ro_get (hm p hp))
    rw [List.pairwise_iff_getElem]
    intro a b ha' hb hab hk
    have ra : ro R R[a] = a := ro_of hn (List.getElem?_eq_getElem ha')
    have rb : ro R R[b] = b := ro_of hn (List.getElem?_eq_getElem hb)
    have hpa : R[a] ≤ N := h.mem.1 (List.getElem_mem ha')
    have hpb : R[b] ≤ N := h.mem.1 (List.getElem_mem hb)
    have hc := (h.cons R[a] R[b] hpa hpb (fun e => by rw [e, rb] at ra; omega) (by omega) (by omega)).1 (by omega)
    unfold keyR at hc
    rw [decide_eq_true_eq] at hk ⊢
    omega
  obtain ⟨r1, r2, r3⟩ := ro_ins hn (at_ := at_) hle
  have hS := he.len
  refine ⟨hle, ins_end he ha hs, perm_ins h.perm row ha, fun p q hp hq hlt => ?_, fun p q hp hq hpq hpi hqi => ?_⟩
  · by_cases cp : p = at_
    · subst cp
      by_cases cq : q = p
      · subst cq; omega
      · obtain ⟨q0, rfl⟩ := sh_onto cq
        have hq0 : q0 ≤ N := by unfold sh at hq; split at hq <;> omega
        rw [r1, r2 q0 (hm q0 hq0)] at hlt
        rw [ins_at _ _ (by omega), ins_sh _ _ _ (by omega)]
        have hk := hpre q0 hq0
        rw [decide_eq_true_eq] at hk
        unfold inR at hlt
        split at hlt <;> omega
    · obtain ⟨p0, rfl⟩ := sh_onto cp
      have hp0 : p0 ≤ N := by unfold sh at hp; split at hp <;> omega
      by_cases cq : q = at_
      · subst cq
        rw [r1, r2 p0 (hm p0 hp0)] at hlt
        rw [ins_at _ _ (by omega), ins_sh _ _ _ (by omega)]
        have hk := hpre p0 hp0
        rw [decide_eq_true_eq] at hk
        unfold inR at hlt
        split at hlt <;> omega
      · obtain ⟨q0, rfl⟩ := sh_onto cq
        have hq0 : q0 ≤ N := by unfold sh at hq; split at hq <;> omega
        rw [r2 p0 (hm p0 hp0), r2 q0 (hm q0 hq0)] at hlt
        rw [ins_sh _ _ _ (by omega), ins_sh _ _ _ (by omega)]
        refine h.first p0 q0 hp0 hq0 ?_
        unfold inR at hlt
        split at hlt <;> split at hlt <;> omega
  · have hsu : ∀ p0, p0 ≤ N → sh at_ p0 + 1 ≠ at_ → p0 < N → sh at_ p0 + 1 = sh at_ (p0 + 1) := fun p0 hp0 hc _ => by
      unfold sh at hc ⊢
      by_cases c1 : p0 < at_ <;> by_cases c2 : p0 + 1 < at_ <;> simp only [c1, c2, if_true, if_false] at hc ⊢ <;> omega
    have hat1 : at_ + 1 = sh at_ at_ := by unfold sh; rw [if_neg (by omega)]
    have ordS : ∀ p0 q0, p0 ≤ N → q0 ≤ N → (ro (insN (R.map (sh at_)) row at_) (sh at_ p0) < ro (insN (R.map (sh at_)) row at_) (sh at_ q0) ↔ ro R p0 < ro R q0) := fun p0 q0 hp0 hq0 => by
      rw [r2 p0 (hm p0 hp0), r2 q0 (hm q0 hq0)]
      unfold inR
      split <;> split <;> omega
    have eN : ∀ x, x ≤ N → S.getD x 0 ≠ 0 → x < N := fun x hx hne => Nat.lt_of_le_of_ne hx fun e => by subst e; exact hne he.last
    unfold keyR
    by_cases cp : p = at_
    · subst cp
      obtain ⟨q0, rfl⟩ := sh_onto (fun e => hpq e.symm)
      have hq0 : q0 ≤ N := by unfold sh at hq; split at hq <;> omega
      rw [r1, r2 q0 (hm q0 hq0), ins_at _ _ (by omega), ins_sh _ _ _ (by omega)]
      have hk := hpre q0 hq0
      rw [decide_eq_true_eq] at hk
      have hlt : row < inR (ro R q0) row ↔ ¬ ro R q0 < row := by unfold inR; split <;> omega
      rw [hlt, ← hk]
      by_cases ce : S.getD q0 0 = s
      · have hqN := eN q0 hq0 (by omega)
        rw [hsu q0 hq0 hqi hqN, hat1, ordS p (q0 + 1) ha (by omega)]
        have := fun e => ro_inj (hm (q0 + 1) (by omega)) (hm p ha) e
        have hne : ro R (q0 + 1) ≠ ro R p := fun e => by
          have := this e
          unfold sh at hqi
          split at hqi <;> omega
        omega
      · omega
    · obtain ⟨p0, rfl⟩ := sh_onto cp
      have hp0 : p0 ≤ N := by unfold sh at hp; split at hp <;> omega
      by_cases cq : q = at_
      · subst cq
        rw [r1, r2 p0 (hm p0 hp0), ins_at _ _ (by omega), ins_sh _ _ _ (by omega)]
        have hk := hpre p0 hp0
        rw [decide_eq_true_eq] at hk
        have hlt : inR (ro R p0) row < row ↔ ro R p0 < row := by unfold inR; split <;> omega
        rw [hlt, ← hk]
        by_cases ce : S.getD p0 0 = s
        · have hpN := eN p0 hp0 (by omega)
          rw [hsu p0 hp0 hpi hpN, hat1, ordS (p0 + 1) q (by omega) ha]
        · omega
      · obtain ⟨q0, rfl⟩ := sh_onto cq
        have hq0 : q0 ≤ N := by unfold sh at hq; split at hq <;> omega
        have hpq0 : p0 ≠ q0 := fun e => hpq (by rw [e])
        rw [ordS p0 q0 hp0 hq0, ins_sh _ _ _ (by omega), ins_sh _ _ _ (by omega), h.cons p0 q0 hp0 hq0 hpq0 (by omega) (by omega)]
        unfold keyR
        by_cases ce : S.getD p0 0 = S.getD q0 0
        · by_cases cz : S.getD p0 0 = 0
          · have x1 : p0 = N := Nat.le_antisymm hp0 (Nat.not_lt.1 fun hl => by have := he.pos p0 hl; omega)
            have x2 : q0 = N := Nat.le_antisymm hq0 (Nat.not_lt.1 fun hl => by have := he.pos q0 hl; omega)
            omega
          · have hpN := eN p0 hp0 cz
            have hqN := eN q0 hq0 (by omega)
            rw [hsu p0 hp0 hpi hpN, hsu q0 hq0 hqi hqN, ordS (p0 + 1) (q0 + 1) (by omega) (by omega)]
        · omega
/-- The transform behind an insert. -/
theorem lastL_ins (hn : R.Nodup) (hp : R.Perm (List.range (N + 1))) (he : EndOk S N) {at_ s row : Nat} (ha : at_ ≤ N) (hr : row ≤ R.length) : lastL (insN S at_ s) (insN (R.map (sh at_)) row at_) = insN ((lastL S R).set (ro R at_) s) row (prevL S at_) := by
  have hS := he.len
  have hS' : (insN S at_ s).length = N + 1 + 1 := by rw [insN_len _ _ (by omega), hS]
  have hmem : ∀ p, p ∈ R → p ≤ N := fun p hpm => by have := List.mem_range.1 (hp.mem_iff.1 hpm); omega
  have hat : at_ ∈ R := hp.mem_iff.2 (List.mem_range.2 (by omega))
  unfold lastL
  rw [insN_map]
  congr 1
  · apply List.ext_getElem?
    intro j
    rw [List.getElem?_map, List.getElem?_map, List.getElem?_set, List.getElem?_map]
    cases hg : R[j]? with
    | none =>
      simp
      intro e
      subst e
      rw [ro_get hat] at hg
      cases hg
    | some p =>
      have hpN := hmem p (List.mem_of_getElem? hg)
      have hj : ro R p = j := ro_of hn hg
      show some (prevL (insN S at_ s) (sh at_ p)) = _
      by_cases c : p = at_
      · subst c
        rw [if_pos hj, if_pos (by simpa using (List.getElem?_eq_some_iff.1 (hj ▸ hg)).1)]
        congr 1
        rw [show sh p p = p + 1 by unfold sh; rw [if_neg (by omega)], prevL_succ (by omega), ins_at _ _ (by omega)]
      · rw [if_neg (fun e => c (by have h1 := ro_get hat; rw [e, hg] at h1; injection h1))]
        show some _ = some (prevL S p)
        congr 1
        rcases p with _ | p
        · rw [show sh at_ 0 = 0 by unfold sh; rw [if_pos (by omega)], prevL_zero (by omega), prevL_zero (by omega), hS', hS, Nat.add_sub_cancel, Nat.add_sub_cancel, insN_gD _ _ (by omega), if_neg (by omega), if_neg (by omega), Nat.add_sub_cancel]
        · have e1 : sh at_ (p + 1) = sh at_ p + 1 := by unfold sh; split <;> split <;> omega
          have hlt : sh at_ p + 1 < N + 1 + 1 := by unfold sh; split <;> omega
          rw [e1, prevL_succ (by omega), prevL_succ (by omega), ins_sh _ _ _ (by omega)]
  · rcases at_ with _ | a
    · rw [prevL_zero (by omega), prevL_zero (by omega), hS', hS, Nat.add_sub_cancel, Nat.add_sub_cancel, insN_gD _ _ (by omega), if_neg (by omega), if_neg (by omega), Nat.add_sub_cancel]
    · rw [prevL_succ (by omega), prevL_succ (by omega), insN_gD _ _ (by omega), if_pos (by omega)]
/-- The transform behind a move. -/
theorem lastL_move {a t x : Nat} (ha : R[a]? = some x) : lastL S (insN (delN R a) t x) = insN (delN (lastL S R) a) t (prevL S x) := by
  unfold lastL
  rw [insN_map, delN_map]
end
end Go.Proofs.YthkkcelfgcholaaGreat
namespace Go.Proofs.YthkkcelfgcholaaGreat
set_option linter.unusedVariables false
set_option linter.unusedSimpArgs false
section
variable {S R : List Nat} {N : Nat}
end
end Go.Proofs.YthkkcelfgcholaaGreat
namespace Go.Proofs.YthkkcelfgcholaaGreat
set_option linter.unusedVariables false
set_option linter.unusedSimpArgs false
section
variable {S R : List Nat} {N : Nat}
end
end Go.Proofs.YthkkcelfgcholaaGreat
