/- The plain laws of runs: what run.Of, run.All, run.Put, run.Get compute, on lists. No program in sight. -/
import Derived.Test.YthcoldomeedbnaaNumMath
namespace Go.Proofs.Ythcoldomeedbnaa

/-- Runs, and one symbol more. -/
def runStep (r : List (Int × Nat)) (s : Int) : List (Int × Nat) :=
  match r.getLast? with
  | some (x, n) => if x = s then r.dropLast ++ [(x, n + 1)] else r ++ [(s, 1)]
  | none => [(s, 1)]
/-- The runs of symbols. -/
def runsOf (l : List Int) : List (Int × Nat) := l.foldl runStep []
theorem runsOf_snoc (l : List Int) (k : Nat) (s : Int) (h : l[k]? = some s) : runsOf (l.take (k + 1)) = runStep (runsOf (l.take k)) s := by
  have hk : k < l.length := (List.getElem?_eq_some_iff.1 h).1
  rw [List.take_succ_eq_append_getElem hk, (List.getElem?_eq_some_iff.1 h).2]
  simp [runsOf, List.foldl_append]
theorem runStep_same (r : List (Int × Nat)) (x : Int) (n : Nat) : runStep (r ++ [(x, n)]) x = r ++ [(x, n + 1)] := by simp [runStep]
theorem runStep_other (r : List (Int × Nat)) (x s : Int) (n : Nat) (h : x ≠ s) : runStep (r ++ [(x, n)]) s = r ++ [(x, n)] ++ [(s, 1)] := by simp [runStep, h]
theorem runStep_nil (s : Int) : runStep [] s = [(s, 1)] := by simp [runStep]
theorem runStep_len (r : List (Int × Nat)) (s : Int) : (runStep r s).length ≤ r.length + 1 ∧ r.length ≤ (runStep r s).length := by
  rcases List.eq_nil_or_concat r with rfl | ⟨q, ⟨x, n⟩, rfl⟩
  · simp [runStep]
  · rw [List.concat_eq_append]
    by_cases h : x = s
    · subst h; rw [runStep_same]; simp
    · rw [runStep_other _ _ _ _ h]; simp
theorem runsOf_len (l : List Int) : (runsOf l).length ≤ l.length := by
  have key : ∀ (l : List Int) (r : List (Int × Nat)), (l.foldl runStep r).length ≤ r.length + l.length := by
    intro l
    induction l with
    | nil => intro r; simp
    | cons s l ih => intro r; have := ih (runStep r s); have h := (runStep_len r s).1; simp only [List.foldl_cons, List.length_cons]; omega
  have := key l []
  simpa [runsOf] using this
/-- The symbols of runs. -/
def expand (r : List (Int × Nat)) : List Int := r.flatMap fun x => List.replicate x.2 x.1
theorem expand_step (r : List (Int × Nat)) (s : Int) : expand (runStep r s) = expand r ++ [s] := by
  rcases List.eq_nil_or_concat r with rfl | ⟨q, ⟨x, n⟩, rfl⟩
  · simp [runStep, expand]
  · rw [List.concat_eq_append]
    by_cases h : x = s
    · subst h
      rw [runStep_same]
      simp [expand, List.flatMap_append, List.replicate_succ']
    · rw [runStep_other _ _ _ _ h]
      simp [expand, List.flatMap_append]
theorem expand_runs (l : List Int) : expand (runsOf l) = l := by
  have key : ∀ (l : List Int) (r : List (Int × Nat)), expand (l.foldl runStep r) = expand r ++ l := by
    intro l
    induction l with
    | nil => intro r; simp
    | cons s l ih => intro r; rw [List.foldl_cons, ih, expand_step]; simp
  have := key l []
  simpa [runsOf, expand] using this
/-- Runs as they are: none is empty, no two neighbours are of one symbol. -/
def RunsOk (r : List (Int × Nat)) : Prop := (∀ x ∈ r, 1 ≤ x.2) ∧ r.Pairwise (fun _ _ => True) ∧ ∀ i a b, r[i]? = some a → r[i + 1]? = some b → a.1 ≠ b.1
theorem runStep_ok (r : List (Int × Nat)) (s : Int) (h : RunsOk r) : RunsOk (runStep r s) := by
  obtain ⟨h1, _, h2⟩ := h
  refine ⟨?_, List.pairwise_of_forall (by intros; trivial), ?_⟩
  · rcases List.eq_nil_or_concat r with rfl | ⟨q, ⟨x, n⟩, rfl⟩
    · simp [runStep]
    · rw [List.concat_eq_append] at *
      by_cases hx : x = s
      · subst hx
        rw [runStep_same]
        intro y hy
        rcases List.mem_append.1 hy with hy | hy
        · exact h1 y (List.mem_append_left _ hy)
        · have := List.mem_singleton.1 hy
          subst this
          simp
      · rw [runStep_other _ _ _ _ hx]
        intro y hy
        rcases List.mem_append.1 hy with hy | hy
        · exact h1 y hy
        · have := List.mem_singleton.1 hy
          subst this
          simp
  · intro i a b ha hb
    rcases List.eq_nil_or_concat r with rfl | ⟨q, ⟨x, n⟩, rfl⟩
    · simp [runStep] at hb
    · rw [List.concat_eq_append] at *
      by_cases hx : x = s
      · subst hx
        rw [runStep_same] at ha hb
        have hi : i + 1 < (q ++ [(x, n + 1)]).length := (List.getElem?_eq_some_iff.1 hb).1
        simp at hi
        by_cases hl : i + 1 = q.length
        · rw [List.getElem?_append_right (by omega), hl] at hb
          simp at hb
          rw [List.getElem?_append_left (by omega)] at ha
          have := h2 i a (x, n) (by rw [List.getElem?_append_left (by omega)]; exact ha) (by rw [List.getElem?_append_right (by omega), hl]; simp)
          rw [← hb]
          exact this
        · rw [List.getElem?_append_left (by omega)] at ha hb
          exact h2 i a b (by rw [List.getElem?_append_left (by omega)]; exact ha) (by rw [List.getElem?_append_left (by omega)]; exact hb)
      · rw [runStep_other _ _ _ _ hx] at ha hb
        have hi : i + 1 < (q ++ [(x, n)] ++ [(s, 1)]).length := (List.getElem?_eq_some_iff.1 hb).1
        simp at hi
        by_cases hl : i = q.length
        · subst hl
          rw [List.getElem?_append_left (by simp)] at ha
          simp at ha
          rw [List.getElem?_append_right (by simp)] at hb
          simp at hb
          rw [← ha, ← hb]
          exact hx
        · rw [List.getElem?_append_left (by simp; omega)] at ha hb
          exact h2 i a b ha hb
theorem runsOf_ok (l : List Int) : RunsOk (runsOf l) := by
  have key : ∀ (l : List Int) (r : List (Int × Nat)), RunsOk r → RunsOk (l.foldl runStep r) := by
    intro l
    induction l with
    | nil => intro r h; exact h
    | cons s l ih => intro r h; exact ih _ (runStep_ok r s h)
  exact key l [] ⟨by simp, List.Pairwise.nil, by simp⟩
/-- Runs are those of their symbols. -/
theorem runs_expand (r : List (Int × Nat)) (h : RunsOk r) : runsOf (expand r) = r := by
  have rep : ∀ (n : Nat) (q : List (Int × Nat)) (x : Int) (m : Nat), (List.replicate n x).foldl runStep (q ++ [(x, m)]) = q ++ [(x, m + n)] := by
    intro n
    induction n with
    | zero => intro q x m; simp
    | succ n ih => intro q x m; rw [List.replicate_succ, List.foldl_cons, runStep_same, ih]; congr 3; omega
  have key : ∀ (r : List (Int × Nat)) (q : List (Int × Nat)), RunsOk (q ++ r) → (expand r).foldl runStep q = q ++ r := by
    intro r
    induction r with
    | nil => intro q _; simp [expand]
    | cons a r ih =>
      intro q hq
      obtain ⟨x, n⟩ := a
      have hn : 1 ≤ n := hq.1 (x, n) (by simp)
      obtain ⟨m, rfl⟩ : ∃ m, n = m + 1 := ⟨n - 1, by omega⟩
      have e : expand ((x, m + 1) :: r) = x :: (List.replicate m x ++ expand r) := by simp [expand, List.replicate_succ]
      rw [e, List.foldl_cons, List.foldl_append]
      have hstep : runStep q x = q ++ [(x, 1)] := by
        rcases List.eq_nil_or_concat q with rfl | ⟨p, ⟨y, k⟩, rfl⟩
        · simp [runStep]
        · rw [List.concat_eq_append] at *
          have := hq.2.2 p.length (y, k) (x, m + 1) (by simp) (by simp)
          rw [runStep_other _ _ _ _ this]
      rw [hstep, rep m q x 1, show 1 + m = m + 1 by omega]
      have := ih (q ++ [(x, m + 1)]) (by simpa using hq)
      rw [this]
      simp
  have := key r [] (by simpa using h)
  simpa [runsOf] using this
theorem expand_mem (r : List (Int × Nat)) (x : Int × Nat) (h : x ∈ r) : x.2 ≤ (expand r).length := by
  induction r with
  | nil => cases h
  | cons a r ih =>
    have e : expand (a :: r) = List.replicate a.2 a.1 ++ expand r := by simp [expand]
    rw [e, List.length_append, List.length_replicate]
    rcases List.mem_cons.1 h with rfl | h
    · omega
    · have := ih h; omega
theorem runsOf_mem (l : List Int) (x : Int × Nat) (h : x ∈ runsOf l) : x.2 ≤ l.length := by
  have := expand_mem _ x h
  rwa [expand_runs] at this
/-- How often a run's symbol is laid behind so many symbols. -/
def allMore (n : Int) (len : Nat) : Nat := (max (min n (1000000 - (len : Int))) 0).toNat
def allStep (out : List Int) (x : Int × Int) : List Int := out ++ List.replicate (allMore x.2 out.length) x.1
/-- run.All: the symbols of runs, at most a million. -/
def allRuns (r : List (Int × Int)) : List Int := r.foldl allStep []
theorem allRuns_snoc (r : List (Int × Int)) (k : Nat) (x : Int × Int) (h : r[k]? = some x) : allRuns (r.take (k + 1)) = allStep (allRuns (r.take k)) x := by
  have hk : k < r.length := (List.getElem?_eq_some_iff.1 h).1
  rw [List.take_succ_eq_append_getElem hk, (List.getElem?_eq_some_iff.1 h).2]
  simp [allRuns, List.foldl_append]
theorem allRuns_len (r : List (Int × Int)) : (allRuns r).length ≤ 1000000 := by
  have key : ∀ (r : List (Int × Int)) (o : List Int), o.length ≤ 1000000 → (r.foldl allStep o).length ≤ 1000000 := by
    intro r
    induction r with
    | nil => intro o h; exact h
    | cons x r ih =>
      intro o h
      refine ih _ ?_
      simp only [allStep, List.length_append, List.length_replicate, allMore]
      omega
  exact key r [] (by simp)
def castRuns (r : List (Int × Nat)) : List (Int × Int) := r.map fun x => (x.1, (x.2 : Int))
theorem allRuns_cast (r : List (Int × Nat)) (h : (expand r).length ≤ 1000000) : allRuns (castRuns r) = expand r := by
  have key : ∀ (r : List (Int × Nat)) (o : List Int), o.length + (expand r).length ≤ 1000000 → (castRuns r).foldl allStep o = o ++ expand r := by
    intro r
    induction r with
    | nil => intro o _; simp [castRuns, expand]
    | cons x r ih =>
      intro o h
      have e : expand (x :: r) = List.replicate x.2 x.1 ++ expand r := by simp [expand]
      have e2 : castRuns (x :: r) = (x.1, (x.2 : Int)) :: castRuns r := rfl
      rw [e, List.length_append, List.length_replicate] at h
      have e3 : allStep o (x.1, (x.2 : Int)) = o ++ List.replicate x.2 x.1 := by
        unfold allStep allMore
        rw [show (max (min (x.2 : Int) (1000000 - (o.length : Int))) 0).toNat = x.2 by omega]
      rw [e2, List.foldl_cons, e3, ih _ (by rw [List.length_append, List.length_replicate]; omega), e, List.append_assoc]
  have := key r [] (by simpa using h)
  simpa [allRuns] using this
/-- Is a number a symbol? -/
def symOk (s : Int) : Prop := 0 ≤ s ∧ s < 257
instance (s : Int) : Decidable (symOk s) := inferInstanceAs (Decidable (_ ∧ _))
/-- A run's bytes. -/
def runByte (x : Int × Nat) : List UInt8 := encB x.1.toNat ++ encB x.2
/-- Runs' bytes, with their number ahead. -/
def runBytes (r : List (Int × Nat)) : List UInt8 := encB r.length ++ r.flatMap runByte
/-- Symbols' bytes: none, if one of them is no symbol. -/
def putRuns (l : List Int) : Option (List UInt8) := if ∀ x ∈ runsOf l, symOk x.1 then some (runBytes (runsOf l)) else none
theorem runByte_len (x : Int × Nat) : (runByte x).length ≤ 22 := by
  have := encB_len x.1.toNat
  have := encB_len x.2
  simp [runByte]; omega
theorem runBytes_snoc (r : List (Int × Nat)) (k : Nat) (x : Int × Nat) (h : r[k]? = some x) : (r.take (k + 1)).flatMap runByte = (r.take k).flatMap runByte ++ runByte x := by
  have hk : k < r.length := (List.getElem?_eq_some_iff.1 h).1
  rw [List.take_succ_eq_append_getElem hk, (List.getElem?_eq_some_iff.1 h).2]
  simp [List.flatMap_append]
theorem flatRun_len (r : List (Int × Nat)) : (r.flatMap runByte).length ≤ 22 * r.length := by
  induction r with
  | nil => simp
  | cons a r ih =>
    have := runByte_len a
    rw [List.flatMap_cons, List.length_append, List.length_cons]
    omega
/-- The run whose bytes begin at a place: its symbol, how often, where it ends. -/
def runAt (b : List UInt8) (a : Nat) : Option (Nat × Nat × Nat) :=
  match getGo (b.drop a) true 0 a with
  | none => none
  | some (s, to) =>
    match getGo (b.drop to) true 0 to with
    | none => none
    | some (k, e) => some (s, k, e)
/-- The loop of run.Get: so many runs are still to come; where; the last symbol; what there is. -/
def rgo (b : List UInt8) (mst : Nat) : Nat → Nat → Nat → List Int → List Int × Int
  | 0, a, _, acc => if a = b.length then (acc, 0) else ([], 4)
  | n + 1, a, last, acc =>
    match runAt b a with
    | none => ([], 4)
    | some (s, k, e) => if 257 ≤ s ∨ s = last ∨ k = 0 then ([], 4) else if mst - acc.length < k then ([], 3) else rgo b mst n e s (acc ++ List.replicate k (s : Int))
/-- run.Get: the symbols that bytes are, a code. -/
def getRuns (b : List UInt8) (most : Int) : List Int × Int :=
  match getGo b true 0 0 with
  | none => ([], 4)
  | some (n, a) => rgo b most.toNat n a 257 []
theorem getGo_le (l : List UInt8) : ∀ first acc pos n e, getGo l first acc pos = some (n, e) → pos < e ∧ e ≤ pos + l.length ∧ n < 18446744073709551616 := by
  induction l with
  | nil => intro first acc pos n e h; rw [getGo] at h; cases h
  | cons c r ih =>
    intro first acc pos n e h
    rw [getGo_cons] at h
    split at h
    · cases h
    · rename_i hc
      split at h
      · injection h with h
        injection h with h1 h2
        subst h1; subst h2
        have hacc : acc ≤ 144115188075855871 := by
          rcases Nat.lt_or_ge 144115188075855871 acc with h | h
          · exact absurd (by simp [h]) hc
          · exact h
        refine ⟨by omega, by simp, by omega⟩
      · have := ih _ _ _ _ _ h
        simp only [List.length_cons]
        omega
theorem getB_some (b : List UInt8) (a n e : Nat) (ha : a ≤ b.length) (h : getGo (b.drop a) true 0 a = some (n, e)) : getB b (a : Int) = (n, (e : Int), 0) := by
  rw [getB, if_neg (by omega)]
  simp only [Int.toNat_natCast, h]
theorem getB_none (b : List UInt8) (a : Nat) (ha : a ≤ b.length) (h : getGo (b.drop a) true 0 a = none) : getB b (a : Int) = (0, (a : Int), 4) := by
  rw [getB, if_neg (by omega)]
  simp only [Int.toNat_natCast, h]
theorem rgo_none (b : List UInt8) (mst n a last : Nat) (acc : List Int) (h : runAt b a = none) : rgo b mst (n + 1) a last acc = ([], 4) := by simp only [rgo, h]
theorem rgo_some (b : List UInt8) (mst n a last : Nat) (acc : List Int) (s k e : Nat) (h : runAt b a = some (s, k, e)) :
    rgo b mst (n + 1) a last acc = if 257 ≤ s ∨ s = last ∨ k = 0 then ([], 4) else if mst - acc.length < k then ([], 3) else rgo b mst n e s (acc ++ List.replicate k (s : Int)) := by simp only [rgo, h]
theorem runAt_none1 (b : List UInt8) (a : Nat) (h : getGo (b.drop a) true 0 a = none) : runAt b a = none := by simp only [runAt, h]
theorem runAt_none2 (b : List UInt8) (a s to : Nat) (h : getGo (b.drop a) true 0 a = some (s, to)) (h2 : getGo (b.drop to) true 0 to = none) : runAt b a = none := by simp only [runAt, h, h2]
theorem runAt_some (b : List UInt8) (a s to k e : Nat) (h : getGo (b.drop a) true 0 a = some (s, to)) (h2 : getGo (b.drop to) true 0 to = some (k, e)) : runAt b a = some (s, k, e) := by simp only [runAt, h, h2]
end Go.Proofs.Ythcoldomeedbnaa
