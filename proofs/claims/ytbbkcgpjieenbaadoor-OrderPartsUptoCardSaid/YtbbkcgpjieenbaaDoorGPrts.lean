/- What arguments of the law are, as trees. Conditions: see each theorem. -/
import Derived.Test.YtbbkcgpjieenbaaDoorHD
import Derived.Test.YtbbkcgpjieenbaaDoorVPrts
set_option linter.unusedVariables false
set_option linter.unusedSimpArgs false
/- Values of the program that have the type of values are trees. Conditions: see each theorem. -/
namespace Hm
open Go (IntKind Lit)
theorem srow_of {σ : TS} {ts : Nat} (h3 : σ.td ts = some .str) : ∀ (rows : List (List AV)), (∀ r ∈ rows, Has σ ts r) → ∃ ks, rows = srow ks ∧ bkRows rows = sbk ks
  | [], _ => ⟨[], rfl, rfl⟩
  | r :: rows, h => by
    obtain ⟨s, rfl⟩ := (h r (by simp)).str_inv h3
    obtain ⟨ks, rfl, hb⟩ := srow_of h3 rows (fun r hr => h r (by simp [hr]))
    exact ⟨s :: ks, rfl, by simp only [bkRows, bkRow, bkA, sbk, hb, Nat.add_zero]⟩
theorem vrows_of {rows : List (List AV)} (h : ∀ r ∈ rows, ∃ v : V, r = v.row ∧ bkRow r = v.bk) : ∃ l : List V, rows = l.map V.row ∧ bkRows rows = V.bks l := by
  induction rows with
  | nil => exact ⟨[], rfl, rfl⟩
  | cons r rows ih =>
    obtain ⟨v, rfl, hb⟩ := h r (by simp)
    obtain ⟨l, rfl, hl⟩ := ih (fun r hr => h r (by simp [hr]))
    exact ⟨v :: l, rfl, by simp only [bkRows, V.bks, hb, hl]⟩
theorem bkRow_mem {r : List AV} {rows : List (List AV)} (h : r ∈ rows) : bkRow r ≤ bkRows rows := by
  induction rows with
  | nil => simp at h
  | cons x rows ih =>
    simp only [bkRows]
    rcases List.mem_cons.1 h with rfl | h
    · omega
    · have := ih h; omega
theorem V.of_row {σ : TS} {tv ti ts tvs tss : Nat} (h1 : σ.td tv = some (.struct [ti, ts, ts, tvs, tss])) (h2 : σ.td ti = some (.int .i64)) (h3 : σ.td ts = some .str) (h4 : σ.td tvs = some (.slice tv)) (h5 : σ.td tss = some (.slice ts)) (s1 : σ.sz tv = 5) (s2 : σ.sz ts = 1) :
    ∀ (cs : List AV), Has σ tv cs → ∃ v : V, cs = v.row ∧ bkRow cs = v.bk := by
  have key : ∀ n (cs : List AV), bkRow cs < n → Has σ tv cs → ∃ v : V, cs = v.row ∧ bkRow cs = v.bk := by
    intro n
    induction n with
    | zero => intro cs h; omega
    | succ n ih =>
      intro cs hn h
      obtain ⟨c1, r1, rfl, a1, hc⟩ := (h.struct_inv h1).inv
      obtain ⟨c2, r2, rfl, a2, hc⟩ := hc.inv
      obtain ⟨c3, r3, rfl, a3, hc⟩ := hc.inv
      obtain ⟨c4, r4, rfl, a4, hc⟩ := hc.inv
      obtain ⟨c5, r5, rfl, a5, hc⟩ := hc.inv
      obtain rfl := hc.nil_inv
      obtain ⟨k, rfl, _⟩ := a1.int_inv h2
      obtain ⟨n2, rfl⟩ := a2.str_inv h3
      obtain ⟨n3, rfl⟩ := a3.str_inv h3
      obtain ⟨w4, rfl, b4⟩ := a4.slice_inv h4
      obtain ⟨w5, rfl, b5⟩ := a5.slice_inv h5
      rw [s1, s2] at *
      simp only [bkRow_append, bkRow, bkA] at hn
      obtain ⟨l, rfl, hl⟩ := vrows_of (rows := w4) (fun r hr => ih r (by have := bkRow_mem hr; omega) (b4 r hr))
      obtain ⟨ks, rfl, hk⟩ := srow_of h3 w5 b5
      refine ⟨.mk k n2 n3 l ks, ?_, ?_⟩
      · simp only [V.row, V.rows_eq]; first | done | rfl
      · simp only [bkRow_append, bkRow, bkA, V.bk, hl, hk]; first | done | omega
  intro cs h
  exact key _ cs (Nat.lt_succ_self _) h
theorem V.of_arg {σ : TS} {tv ti ts tvs tss : Nat} (h1 : σ.td tv = some (.struct [ti, ts, ts, tvs, tss])) (h2 : σ.td ti = some (.int .i64)) (h3 : σ.td ts = some .str) (h4 : σ.td tvs = some (.slice tv)) (h5 : σ.td tss = some (.slice ts)) (s1 : σ.sz tv = 5) (s2 : σ.sz ts = 1)
    {a : AV} (h : HasA σ tv a) : ∃ v : V, a = v.av ∧ bkA a = v.bk := by
  obtain ⟨cs, rfl, hc⟩ := h.struct_inv h1
  obtain ⟨v, rfl, hb⟩ := V.of_row h1 h2 h3 h4 h5 s1 s2 cs hc
  exact ⟨v, rfl, by simpa only [bkA] using hb⟩
end Hm

/- Lists of values of the program are lists of trees. Conditions: see each theorem. -/
namespace Hm
open Go (IntKind Lit)
theorem HasA.lst_inv {σ : TS} {i e : Nat} {v : AV} (h : HasA σ i v) (hi : σ.td i = some (.slice e)) : ∃ rows, v = .lst (σ.sz e) rows ∧ ∀ r ∈ rows, Has σ e r := by
  cases h with
  | agg h _ => rw [hi] at h; cases h
  | one _ hc =>
    obtain ⟨rows, e1, e2⟩ := hc.slice_inv hi
    exact ⟨rows, by simpa using e1, e2⟩
theorem vals_of_arg {σ : TS} {tv ti ts tvs tss : Nat} (h1 : σ.td tv = some (.struct [ti, ts, ts, tvs, tss])) (h2 : σ.td ti = some (.int .i64)) (h3 : σ.td ts = some .str) (h4 : σ.td tvs = some (.slice tv)) (h5 : σ.td tss = some (.slice ts)) (s1 : σ.sz tv = 5) (s2 : σ.sz ts = 1)
    {a : AV} (h : HasA σ tvs a) : ∃ l : List V, a = .lst 5 (l.map V.row) ∧ V.bks l ≤ bkA a := by
  obtain ⟨rows, rfl, hr⟩ := h.lst_inv h4
  obtain ⟨l, rfl, hb⟩ := vrows_of (rows := rows) fun r hm => V.of_row h1 h2 h3 h4 h5 s1 s2 r (hr r hm)
  rw [s1]
  exact ⟨l, rfl, by simp only [bkA]; omega⟩
end Hm
