/- append onto a slice that is full: nothing is appended, or all goes into a new block. No conditions. -/
import Derived.Test.YthcoldomeedbnaaPush2
namespace Go.Proofs.Ythcoldomeedbnaa
open Go.RowKit Go
set_option linter.unusedVariables false
section
variable {P : Program} (w : World)
theorem run_append_full (base : Nat) (t ty e : TypeId) (i : TypeInfo) (z : Value) (sz bytes : Nat) (ht : P.underlying t = some (.slice e)) (hi : P.info? e = some i) (hz : i.zero = some z)
    (hsize : i.size = sz) (hby : i.bytes = bytes) (hzs : z.cells.size = sz) (hsz : 0 < sz)
    (g n : Nat) (cs : Array Value) (hb : Bk w g e cs) (hcs : cs.size = n * sz) (hg : base ≤ g) (hnm : n ≤ maxLen)
    (B : Nat) (A : Option Addr) (m c : Nat) (news : List Value) (hr : Rd w B sz A m news)
    (h63 : n + m ≤ maxLen) (hbytes : (n + m) * bytes ≤ 140737488355328) (hbase : base ≤ w.heap.size) :
    ∃ v' w', (Builtin.append_ #[t, t] ty #[.slice (some ⟨g, 0, none⟩) n n, .slice A m c]).run P w = .ok v' w' ∧ w'.ownsRow base e sz v' (n + m) (cs.toList ++ news) ∧ Below w.heap.size w w' ∧
      (v'.ownBlock = some g ∨ v'.ownBlock = some w.heap.size) := by
  subst hsize
  subst hby
  have hown : w.ownsRow base e i.size (.slice (some ⟨g, 0, none⟩) n n) n cs.toList := by
    refine ⟨by simp [hcs], .inr ⟨g, n, cs, rfl, hg, hb, Nat.le_refl _, hnm, hcs, ?_⟩⟩
    exact List.take_of_length_le (by simp [hcs])
  rcases Nat.eq_zero_or_pos m with h0 | h0
  · subst h0
    have hn : news = [] := List.eq_nil_of_length_eq_zero (by simpa using hr.1)
    subst hn
    refine ⟨.slice (some ⟨g, 0, none⟩) n n, w, ?_, by simpa using hown, Below.refl _ _, .inl rfl⟩
    rcases A with _ | a
    · exact run_append_nilsrc w base t ty e i i.size ht hi _ n _ hown c
    · simp [Builtin.append_, run_underlying ht, sizeOf, typeInfo, hi, Builtin.lenOf, Builtin.firstCells, loadCells, loadCellsFrom, storeCells]
  · obtain ⟨b, off, rfl, hbB, hcell⟩ := hr.2 h0
    have hnews : ∀ j v, news[j]? = some v → w.cell? ((⟨b, off, none⟩ : Addr).add j) = some v := fun j v hv => by rw [add_lit]; exact hcell j v hv
    have holds : ∀ j u, cs.toList[j]? = some u → w.cell? ((⟨g, 0, none⟩ : Addr).add j) = some u := hown.cells (g := g) rfl
    have hsmall : n + m ≤ 9223372036854775807 := by simp only [maxLen] at h63; omega
    have hrun := run_append_grow (P := P) w t ty e i z ht hi hz ⟨g, 0, none⟩ n n cs.toList hown.1 holds ⟨b, off, none⟩ m c news hr.1 hnews (by omega) (by omega) (growslice_fits (by omega) hbytes)
    have hge := grownCap_ge w (n + m) n e
    have hcm : grownCap w (n + m) n e ≤ maxLen := grownCap_le_maxLen w (n + m) n e h63
    have hlen : (cs.toList ++ news).length = (n + m) * i.size := by rw [List.length_append, hown.1, hr.1, Nat.add_mul]
    refine ⟨_, _, hrun, ⟨hlen, .inr ⟨w.heap.size, _, _, rfl, hbase, heap_alloc_new w.drew _, hge, hcm, ?_, ?_⟩⟩, (Below.refl w.heap.size w).drew.alloc (Nat.le_refl _) _, .inr rfl⟩
    · have l1 := hown.1
      have l2 := hr.1
      simp only [Array.size_append, List.size_toArray, size_zeroCells, hzs, l1, l2, ← Nat.add_mul]
      congr 1
      omega
    · simp only [Array.toList_append, List.append_assoc]
      rw [← List.append_assoc, ← hlen]
      exact List.take_left
theorem wp_append_full {o : Oper} {a : Act} {K : Act → World → Prop} {Q : Exit → Act → World → Prop} (s x : Operand) (t : TypeId)
    (ho : o.op = .call { callee := .builtin .append, args := #[s, x], argTypes := #[t, t] })
    (base : Nat) (e : TypeId) (i : TypeInfo) (z : Value) (sz bytes : Nat) (ht : P.underlying t = some (.slice e)) (hi : P.info? e = some i) (hz : i.zero = some z)
    (hsize : i.size = sz) (hby : i.bytes = bytes) (hzs : z.cells.size = sz) (hsz : 0 < sz)
    (g n : Nat) (cs : Array Value) (hs : a.eval s = .slice (some ⟨g, 0, none⟩) n n) (hb : Bk w g e cs) (hcs : cs.size = n * sz) (hg : base ≤ g) (hnm : n ≤ maxLen)
    (B : Nat) (A : Option Addr) (m c : Nat) (news : List Value) (hx : a.eval x = .slice A m c) (hr : Rd w B sz A m news)
    (h63 : n + m ≤ maxLen) (hbytes : (n + m) * bytes ≤ 140737488355328) (hbase : base ≤ w.heap.size)
    (h : ∀ v' w', w'.ownsRow base e sz v' (n + m) (cs.toList ++ news) → Below w.heap.size w w' → (v'.ownBlock = some g ∨ v'.ownBlock = some w.heap.size) → K (a.put o.dst v') w') : o.wp P a w K Q := by
  obtain ⟨v', w', hrun, h2, h3, h4⟩ := run_append_full (P := P) w base t o.type e i z sz bytes ht hi hz hsize hby hzs hsz g n cs hb hcs hg hnm B A m c news hr h63 hbytes hbase
  unfold Oper.wp execOp
  simp only [ho, resolve, invoke, builtin, Sem.run_bind, Sem.run_pure, Result.andThen_ok, List.map_toArray, List.map_cons, List.map_nil, hs, hx, hrun]
  exact h v' w' h2 h3 h4
end
end Go.Proofs.Ythcoldomeedbnaa
