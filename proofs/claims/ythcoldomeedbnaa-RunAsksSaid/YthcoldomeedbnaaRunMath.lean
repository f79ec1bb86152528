/- The plain laws of runs' bytes: they come back; with less room they are refused; cut off, or with a byte behind, they do not; what is read is the only text of its symbols. No program in sight. -/
import Derived.Test.YthcoldomeedbnaaRunPlain
namespace Go.Proofs.Ythcoldomeedbnaa

def flatRun (q : List (Int × Nat)) : List UInt8 := q.flatMap runByte
theorem flatRun_cons (x : Int × Nat) (q : List (Int × Nat)) : flatRun (x :: q) = runByte x ++ flatRun q := by simp [flatRun]
theorem expand_cons (x : Int × Nat) (q : List (Int × Nat)) : expand (x :: q) = List.replicate x.2 x.1 ++ expand q := by simp [expand]
/-- Runs that may stand behind a last symbol. -/
def Chain : Nat → List (Int × Nat) → Prop
  | _, [] => True
  | last, x :: q => (symOk x.1 ∧ x.1.toNat ≠ last ∧ 1 ≤ x.2 ∧ x.2 < 18446744073709551616) ∧ Chain x.1.toNat q
theorem runAt_run (b : List UInt8) (a : Nat) (x : Int × Nat) (r : List UInt8) (h1 : symOk x.1) (h2 : x.2 < 18446744073709551616) (h : b.drop a = runByte x ++ r) : runAt b a = some (x.1.toNat, x.2, a + (runByte x).length) := by
  have e1 := getGo_enc x.1.toNat (by have := h1.2; omega) (encB x.2 ++ r) a
  rw [runByte, List.append_assoc] at h
  rw [← h] at e1
  have hd : b.drop (a + (encB x.1.toNat).length) = encB x.2 ++ r := by rw [← List.drop_drop, h, List.drop_left]
  have e2 := getGo_enc x.2 h2 r (a + (encB x.1.toNat).length)
  rw [← hd] at e2
  rw [runAt_some _ _ _ _ _ _ e1 e2, runByte, List.length_append, Nat.add_assoc]
theorem rgo_runs (b : List UInt8) (mst n' : Nat) (t : List UInt8) : ∀ (q : List (Int × Nat)) (a last : Nat) (acc : List Int), b.drop a = flatRun q ++ t → Chain last q → acc.length + (expand q).length ≤ mst →
    ∃ last', rgo b mst (q.length + n') a last acc = rgo b mst n' (a + (flatRun q).length) last' (acc ++ expand q) := by
  intro q
  induction q with
  | nil => intro a last acc _ _ _; exact ⟨last, by simp [flatRun, expand]⟩
  | cons x q ih =>
    intro a last acc h hc hm
    obtain ⟨⟨c1, c2, c3, c4⟩, c5⟩ := hc
    rw [flatRun_cons, List.append_assoc] at h
    have hr := runAt_run b a x _ c1 c4 h
    rw [expand_cons, List.length_append, List.length_replicate] at hm
    have e0 : (x :: q).length + n' = (q.length + n') + 1 := by simp; omega
    rw [e0, rgo_some _ _ _ _ _ _ _ _ _ hr, if_neg (by have := c1.1; have := c1.2; omega), if_neg (by omega)]
    have hx : ((x.1.toNat : Nat) : Int) = x.1 := by have := c1.1; omega
    rw [hx]
    have hd : b.drop (a + (runByte x).length) = flatRun q ++ t := by rw [← List.drop_drop, h, List.drop_left]
    obtain ⟨l', hl'⟩ := ih (a + (runByte x).length) x.1.toNat (acc ++ List.replicate x.2 x.1) hd c5 (by rw [List.length_append, List.length_replicate]; omega)
    refine ⟨l', ?_⟩
    rw [hl', flatRun_cons, expand_cons, List.length_append, List.append_assoc, Nat.add_assoc]
theorem rgo_full (b : List UInt8) (mst : Nat) (t : List UInt8) : ∀ (q : List (Int × Nat)) (a last : Nat) (acc : List Int), b.drop a = flatRun q ++ t → Chain last q → acc.length ≤ mst → mst < acc.length + (expand q).length →
    rgo b mst q.length a last acc = ([], 3) := by
  intro q
  induction q with
  | nil => intro a last acc _ _ h1 h2; simp [expand] at h2; omega
  | cons x q ih =>
    intro a last acc h hc h1 h2
    obtain ⟨⟨c1, c2, c3, c4⟩, c5⟩ := hc
    rw [flatRun_cons, List.append_assoc] at h
    have hr := runAt_run b a x _ c1 c4 h
    rw [expand_cons, List.length_append, List.length_replicate] at h2
    rw [List.length_cons, rgo_some _ _ _ _ _ _ _ _ _ hr, if_neg (by have := c1.1; have := c1.2; omega)]
    by_cases hf : mst - acc.length < x.2
    · rw [if_pos hf]
    · rw [if_neg hf]
      have hd : b.drop (a + (runByte x).length) = flatRun q ++ t := by rw [← List.drop_drop, h, List.drop_left]
      exact ih _ _ _ hd c5 (by rw [List.length_append, List.length_replicate]; omega) (by rw [List.length_append, List.length_replicate]; omega)
theorem getGo_short (n k a : Nat) (hk : k < (encB n).length) : getGo ((encB n).take k) true 0 a = none := by
  apply getGo_none
  intro c hc
  have hk2 : k ≤ (preB 10 (n / 128)).length := by simp [encB] at hk; omega
  have : (encB n).take k = (preB 10 (n / 128)).take k := by unfold encB; rw [List.take_append_of_le_length hk2]
  rw [this] at hc
  exact preB_ge 10 _ c (List.mem_of_mem_take hc)
theorem rgo_cut (b : List UInt8) (mst : Nat) : ∀ (q : List (Int × Nat)) (a last : Nat) (acc : List Int) (k : Nat), b.drop a = (flatRun q).take k → k < (flatRun q).length → Chain last q → acc.length + (expand q).length ≤ mst →
    rgo b mst q.length a last acc = ([], 4) := by
  intro q
  induction q with
  | nil => intro a last acc k _ hk _ _; simp [flatRun] at hk
  | cons x q ih =>
    intro a last acc k h hk hc hm
    obtain ⟨⟨c1, c2, c3, c4⟩, c5⟩ := hc
    rw [flatRun_cons] at h hk
    rw [List.length_append] at hk
    by_cases h1 : k < (runByte x).length
    · rw [List.take_append_of_le_length (by omega)] at h
      have hn : runAt b a = none := by
        by_cases h2 : k < (encB x.1.toNat).length
        · refine runAt_none1 _ _ ?_
          rw [h, runByte, List.take_append_of_le_length (by omega)]
          exact getGo_short _ _ _ h2
        · rw [runByte, List.length_append] at h1
          rw [runByte, List.take_append, List.take_of_length_le (by omega)] at h
          have e1 := getGo_enc x.1.toNat (by have := c1.2; omega) ((encB x.2).take (k - (encB x.1.toNat).length)) a
          rw [← h] at e1
          refine runAt_none2 _ _ _ _ e1 ?_
          rw [← List.drop_drop, h, List.drop_left]
          exact getGo_short _ _ _ (by omega)
      rw [List.length_cons, rgo_none _ _ _ _ _ _ hn]
    · rw [List.take_append, List.take_of_length_le (by omega)] at h
      have hr := runAt_run b a x _ c1 c4 h
      rw [expand_cons, List.length_append, List.length_replicate] at hm
      rw [List.length_cons, rgo_some _ _ _ _ _ _ _ _ _ hr, if_neg (by have := c1.1; have := c1.2; omega), if_neg (by omega)]
      have hd : b.drop (a + (runByte x).length) = (flatRun q).take (k - (runByte x).length) := by rw [← List.drop_drop, h, List.drop_left]
      exact ih _ _ _ _ hd (by omega) c5 (by rw [List.length_append, List.length_replicate]; omega)
/-- Runs of symbols, none of them empty, no two neighbours alike. -/
theorem chain_of (q : List (Int × Nat)) (h : RunsOk q) (hs : ∀ x ∈ q, symOk x.1 ∧ x.2 < 18446744073709551616) (last : Nat) (hl : ∀ x, q[0]? = some x → x.1.toNat ≠ last) : Chain last q := by
  induction q generalizing last with
  | nil => trivial
  | cons x q ih =>
    obtain ⟨h1, _, h3⟩ := h
    refine ⟨⟨(hs x (List.mem_cons_self ..)).1, hl x rfl, h1 x (List.mem_cons_self ..), (hs x (List.mem_cons_self ..)).2⟩, ?_⟩
    refine ih ⟨fun y hy => h1 y (List.mem_cons_of_mem _ hy), List.pairwise_of_forall (by intros; trivial), fun i a b ha hb => h3 (i + 1) a b (by simpa using ha) (by simpa using hb)⟩ (fun y hy => hs y (List.mem_cons_of_mem _ hy)) _ ?_
    intro y hy
    have := h3 0 x y rfl (by simpa using hy)
    have hx := (hs x (List.mem_cons_self ..)).1
    have hy' := (hs y (List.mem_cons_of_mem _ (List.mem_of_getElem? hy))).1
    have := hx.1
    have := hy'.1
    omega
theorem chain_runs (l : List Int) (hs : ∀ x ∈ runsOf l, symOk x.1) (hl : l.length < 18446744073709551616) : Chain 257 (runsOf l) :=
  chain_of _ (runsOf_ok l) (fun x hx => ⟨hs x hx, by have := runsOf_mem l x hx; omega⟩) 257 fun x hx => by
    have := (hs x (List.mem_of_getElem? hx)).2
    have := (hs x (List.mem_of_getElem? hx)).1
    omega
theorem runsOf_len64 (l : List Int) (hl : l.length < 18446744073709551616) : (runsOf l).length < 18446744073709551616 := by have := runsOf_len l; omega
/-- Symbols come back from their bytes; with a byte behind they do not. -/
theorem getRuns_back (l : List Int) (hs : ∀ x ∈ runsOf l, symOk x.1) (hl : l.length < 18446744073709551616) (most : Int) (hm : (l.length : Int) ≤ most) (t : List UInt8) :
    getRuns (runBytes (runsOf l) ++ t) most = if t = [] then (l, 0) else ([], 4) := by
  have e1 := getGo_enc (runsOf l).length (runsOf_len64 l hl) (flatRun (runsOf l) ++ t) 0
  have hb : runBytes (runsOf l) ++ t = encB (runsOf l).length ++ (flatRun (runsOf l) ++ t) := by simp [runBytes, flatRun]
  rw [hb, getRuns, e1]
  simp only [Nat.zero_add]
  have hd : (encB (runsOf l).length ++ (flatRun (runsOf l) ++ t)).drop (encB (runsOf l).length).length = flatRun (runsOf l) ++ t := List.drop_left
  have hex := expand_runs l
  obtain ⟨l', hl'⟩ := rgo_runs _ most.toNat 0 t (runsOf l) _ 257 [] hd (chain_runs l hs hl) (by rw [hex]; simp; omega)
  rw [Nat.add_zero] at hl'
  rw [hl', hex, List.nil_append, rgo]
  by_cases ht : t = []
  · subst ht
    rw [if_pos (by simp), if_pos rfl]
  · have : 0 < t.length := List.length_pos_iff.2 ht
    rw [if_neg (by simp; omega), if_neg ht]
/-- With less room they are refused. -/
theorem getRuns_full (l : List Int) (hs : ∀ x ∈ runsOf l, symOk x.1) (hl : l.length < 18446744073709551616) (most : Int) (hm : most < (l.length : Int)) (h0 : 0 < l.length) :
    getRuns (runBytes (runsOf l)) most = ([], 3) := by
  have e1 := getGo_enc (runsOf l).length (runsOf_len64 l hl) (flatRun (runsOf l)) 0
  have hb : runBytes (runsOf l) = encB (runsOf l).length ++ flatRun (runsOf l) := by simp [runBytes, flatRun]
  rw [hb, getRuns, e1]
  simp only [Nat.zero_add]
  have hd : (encB (runsOf l).length ++ flatRun (runsOf l)).drop (encB (runsOf l).length).length = flatRun (runsOf l) ++ [] := by rw [List.drop_left, List.append_nil]
  have hex := expand_runs l
  exact rgo_full _ most.toNat [] (runsOf l) _ 257 [] hd (chain_runs l hs hl) (by simp) (by rw [hex]; simp; omega)
/-- Cut off they do not come back. -/
theorem getRuns_cut (l : List Int) (hs : ∀ x ∈ runsOf l, symOk x.1) (hl : l.length < 18446744073709551616) (most : Int) (hm : (l.length : Int) ≤ most) (k : Nat) (hk : k < (runBytes (runsOf l)).length) :
    getRuns ((runBytes (runsOf l)).take k) most = ([], 4) := by
  have hb : runBytes (runsOf l) = encB (runsOf l).length ++ flatRun (runsOf l) := by simp [runBytes, flatRun]
  rw [hb] at hk ⊢
  rw [List.length_append] at hk
  by_cases h1 : k < (encB (runsOf l).length).length
  · rw [List.take_append_of_le_length (by omega), getRuns, getGo_short _ _ _ h1]
  · rw [List.take_append, List.take_of_length_le (by omega)]
    have e1 := getGo_enc (runsOf l).length (runsOf_len64 l hl) ((flatRun (runsOf l)).take (k - (encB (runsOf l).length).length)) 0
    rw [getRuns, e1]
    simp only [Nat.zero_add]
    have hex := expand_runs l
    exact rgo_cut _ most.toNat (runsOf l) _ 257 [] _ List.drop_left (by omega) (chain_runs l hs hl) (by rw [hex]; simp; omega)
/-- Bytes that are read are the only ones of their number. -/
theorem getGo_canon (l : List UInt8) : ∀ first acc pos n e, ((first = true ∧ acc = 0) ∨ (first = false ∧ acc ≠ 0)) → getGo l first acc pos = some (n, e) → preB 10 acc ++ l = encB n ++ l.drop (e - pos) ∧ pos < e := by
  induction l with
  | nil => intro first acc pos n e _ h; rw [getGo] at h; cases h
  | cons c r ih =>
    intro first acc pos n e hf h
    rw [getGo_cons] at h
    have hc256 : c.toNat < 256 := UInt8.toNat_lt _
    split at h
    · cases h
    · rename_i hc
      simp only [Bool.or_eq_true, Bool.and_eq_true, decide_eq_true_eq, beq_iff_eq, not_or, not_and] at hc
      obtain ⟨hc1, hc2⟩ := hc
      split at h
      · injection h with h
        injection h with h1 h2
        subst h1; subst h2
        refine ⟨?_, by omega⟩
        have e1 : pos + 1 - pos = 1 := by omega
        have e2 : (acc * 128 + c.toNat % 128) / 128 = acc := by omega
        have e3 : (acc * 128 + c.toNat % 128) % 128 = c.toNat := by omega
        rw [e1, encB, e2, e3]
        simp
      · have hne : acc * 128 + c.toNat % 128 ≠ 0 := by
          rcases hf with ⟨h1, h2⟩ | ⟨h1, h2⟩
          · have := hc1 h1; omega
          · omega
        obtain ⟨g1, g2⟩ := ih _ _ _ _ _ (.inr ⟨rfl, hne⟩) h
        refine ⟨?_, by omega⟩
        rw [preB_step _ hne (by omega)] at g1
        have e2 : (acc * 128 + c.toNat % 128) / 128 = acc := by omega
        have e3 : (acc * 128 + c.toNat % 128) % 128 + 128 = c.toNat := by omega
        rw [e2, e3] at g1
        have e4 : e - pos = (e - (pos + 1)) + 1 := by omega
        rw [e4, List.drop_succ_cons, ← g1]
        simp
theorem getGo_read (b : List UInt8) (a s to : Nat) (h : getGo (b.drop a) true 0 a = some (s, to)) : b.drop a = encB s ++ b.drop to ∧ to = a + (encB s).length ∧ s < 18446744073709551616 := by
  obtain ⟨h1, h2⟩ := getGo_canon _ _ _ _ _ _ (.inl ⟨rfl, rfl⟩) h
  have h3 := getGo_le _ _ _ _ _ _ h
  rw [preB_zero, List.nil_append, List.drop_drop, show a + (to - a) = to by omega] at h1
  refine ⟨h1, ?_, h3.2.2⟩
  have hl := congrArg List.length h1
  rw [List.length_append, List.length_drop, List.length_drop] at hl
  rw [List.length_drop] at h3
  omega
theorem rgo_read (b : List UInt8) (mst : Nat) : ∀ (n a last : Nat) (acc l : List Int), a ≤ b.length → rgo b mst n a last acc = (l, 0) →
    ∃ q, q.length = n ∧ b.drop a = flatRun q ∧ l = acc ++ expand q ∧ Chain last q := by
  intro n
  induction n with
  | zero =>
    intro a last acc l ha h
    rw [rgo] at h
    split at h
    · rename_i he
      injection h with h1 h2
      exact ⟨[], rfl, by rw [he]; simp [flatRun], by simp [expand, h1], trivial⟩
    · injection h with _ h2; cases h2
  | succ n ih =>
    intro a last acc l ha h
    rcases h1 : getGo (b.drop a) true 0 a with _ | ⟨s, to⟩
    · rw [rgo_none _ _ _ _ _ _ (runAt_none1 _ _ h1)] at h
      injection h with _ h2; cases h2
    · rcases h2 : getGo (b.drop to) true 0 to with _ | ⟨k, e⟩
      · rw [rgo_none _ _ _ _ _ _ (runAt_none2 _ _ _ _ h1 h2)] at h
        injection h with _ h2; cases h2
      · rw [rgo_some _ _ _ _ _ _ _ _ _ (runAt_some _ _ _ _ _ _ h1 h2)] at h
        split at h
        · injection h with _ h2; cases h2
        · rename_i hbad
          split at h
          · injection h with _ h2; cases h2
          · obtain ⟨r1, r2, r3⟩ := getGo_read _ _ _ _ h1
            obtain ⟨q1, q2, q3⟩ := getGo_read _ _ _ _ h2
            have hle1 := getGo_le _ _ _ _ _ _ h1
            have hle2 := getGo_le _ _ _ _ _ _ h2
            rw [List.length_drop] at hle1 hle2
            obtain ⟨q, g1, g2, g3, g4⟩ := ih e s _ l (by omega) h
            refine ⟨((s : Int), k) :: q, by simp [g1], ?_, ?_, ⟨⟨⟨by simp, by simp only; omega⟩, by simp only [Int.toNat_natCast]; omega, by simp only; omega, q3⟩, by simpa using g4⟩⟩
            · rw [r1, q1, g2, flatRun_cons, runByte]
              simp
            · rw [g3, expand_cons, List.append_assoc]
theorem ok_of_chain (q : List (Int × Nat)) (last : Nat) (h : Chain last q) : RunsOk q ∧ ∀ x ∈ q, symOk x.1 := by
  induction q generalizing last with
  | nil => exact ⟨⟨by simp, List.Pairwise.nil, by simp⟩, by simp⟩
  | cons x q ih =>
    obtain ⟨⟨c1, c2, c3, c4⟩, c5⟩ := h
    obtain ⟨⟨i1, _, i3⟩, i4⟩ := ih _ c5
    refine ⟨⟨?_, List.pairwise_of_forall (by intros; trivial), ?_⟩, ?_⟩
    · intro y hy
      rcases List.mem_cons.1 hy with rfl | hy
      · exact c3
      · exact i1 y hy
    · intro i a b ha hb
      rcases i with _ | i
      · simp at ha
        subst ha
        rcases q with _ | ⟨y, q⟩
        · simp at hb
        · simp at hb
          subst hb
          have := c5.1.2.1
          intro e
          rw [e] at this
          exact this rfl
      · exact i3 i a b (by simpa using ha) (by simpa using hb)
    · intro y hy
      rcases List.mem_cons.1 hy with rfl | hy
      · exact c1
      · exact i4 y hy
/-- Bytes that are read are the only ones of their symbols. -/
theorem getRuns_read (b : List UInt8) (most : Int) (l : List Int) (h : getRuns b most = (l, 0)) : putRuns l = some b := by
  unfold getRuns at h
  rcases h1 : getGo b true 0 0 with _ | ⟨n, a⟩
  · rw [h1] at h
    injection h with _ h2; cases h2
  · rw [h1] at h
    simp only at h
    have h1' : getGo (b.drop 0) true 0 0 = some (n, a) := by simpa using h1
    obtain ⟨r1, r2, r3⟩ := getGo_read _ _ _ _ h1'
    have hle := getGo_le _ _ _ _ _ _ h1
    obtain ⟨q, g1, g2, g3, g4⟩ := rgo_read b _ n a 257 [] l (by omega) h
    obtain ⟨o1, o2⟩ := ok_of_chain q _ g4
    have hq : runsOf l = q := by rw [g3, List.nil_append]; exact runs_expand q o1
    rw [putRuns, hq, if_pos o2, runBytes, g1]
    congr 1
    rw [List.drop_zero] at r1
    rw [r1, g2]
    rfl
theorem rgo_codes (b : List UInt8) (mst : Nat) : ∀ (n a last : Nat) (acc l : List Int) (e : Int), rgo b mst n a last acc = (l, e) → e ≠ 0 → l = [] ∧ (e = 4 ∨ e = 3) := by
  intro n
  induction n with
  | zero =>
    intro a last acc l e h he
    rw [rgo] at h
    split at h
    · injection h with _ h2; exact absurd h2.symm he
    · injection h with h1 h2; exact ⟨h1.symm, .inl h2.symm⟩
  | succ n ih =>
    intro a last acc l e h he
    rcases hr : runAt b a with _ | ⟨s, k, e'⟩
    · rw [rgo_none _ _ _ _ _ _ hr] at h
      injection h with h1 h2; exact ⟨h1.symm, .inl h2.symm⟩
    · rw [rgo_some _ _ _ _ _ _ _ _ _ hr] at h
      split at h
      · injection h with h1 h2; exact ⟨h1.symm, .inl h2.symm⟩
      · split at h
        · injection h with h1 h2; exact ⟨h1.symm, .inr h2.symm⟩
        · exact ih _ _ _ _ _ h he
theorem getRuns_codes (b : List UInt8) (most : Int) (l : List Int) (e : Int) (h : getRuns b most = (l, e)) (he : e ≠ 0) : l = [] ∧ (e = 4 ∨ e = 3) := by
  unfold getRuns at h
  rcases h1 : getGo b true 0 0 with _ | ⟨n, a⟩
  · rw [h1] at h
    injection h with h1 h2; exact ⟨h1.symm, .inl h2.symm⟩
  · rw [h1] at h
    exact rgo_codes _ _ _ _ _ _ _ _ h he
theorem rgo_len (b : List UInt8) (mst : Nat) : ∀ (n a last : Nat) (acc l : List Int) (e : Int), acc.length ≤ mst → rgo b mst n a last acc = (l, e) → l.length ≤ mst := by
  intro n
  induction n with
  | zero =>
    intro a last acc l e ha h
    rw [rgo] at h
    split at h
    · injection h with h1 _; rw [← h1]; exact ha
    · injection h with h1 _; rw [← h1]; simp
  | succ n ih =>
    intro a last acc l e ha h
    rcases hr : runAt b a with _ | ⟨s, k, e'⟩
    · rw [rgo_none _ _ _ _ _ _ hr] at h
      injection h with h1 _; rw [← h1]; simp
    · rw [rgo_some _ _ _ _ _ _ _ _ _ hr] at h
      split at h
      · injection h with h1 _; rw [← h1]; simp
      · split at h
        · injection h with h1 _; rw [← h1]; simp
        · exact ih _ _ _ _ _ (by rw [List.length_append, List.length_replicate]; omega) h
theorem getRuns_len (b : List UInt8) (most : Int) (l : List Int) (e : Int) (h : getRuns b most = (l, e)) : l.length ≤ most.toNat := by
  unfold getRuns at h
  rcases h1 : getGo b true 0 0 with _ | ⟨n, a⟩
  · rw [h1] at h
    injection h with h1 _; rw [← h1]; simp
  · rw [h1] at h
    exact rgo_len _ _ _ _ _ _ _ _ (by simp) h
theorem runs_replicate (k : Nat) (c : Int) (h : 0 < k) : runsOf (List.replicate k c) = [(c, k)] := by
  have := runs_expand [(c, k)] ⟨by simp; omega, List.pairwise_of_forall (by intros; trivial), by intro i a b _ hb; simp at hb⟩
  simpa [expand] using this
theorem encB_two (n : Nat) (h : n < 16384) : (encB n).length ≤ 2 := by
  have := (preB_bound 10 (n / 128) 1 (by omega)).2 (by omega)
  simp [encB]; omega
end Go.Proofs.Ythcoldomeedbnaa
