/- What arguments of the law are, as trees. Conditions: see each theorem. -/
import Derived.Test.YtaemcgnkpfbenaaGreatDoorHD
import Derived.Test.YtaemcgnkpfbenaaGreatDoorVAgr
import Derived.Lib.ItoaMem
set_option linter.unusedVariables false
set_option linter.unusedSimpArgs false
/- Values of the program that have the type of values are trees. Conditions: see each theorem. -/
namespace Hm
open Go (IntKind Lit)
theorem srow_of {σ : TS} {ts : Nat} (h3 : σ.td ts = some .str) : ∀ (rows : List (List AV)), (∀ r ∈ rows, Has σ ts r) → ∃ ks, rows = srow ks ∧ bkRows rows = sbk ks
  | [], _ => ⟨[], rfl, rfl⟩
  | r :: rows, h => by
    obtain ⟨s, rfl⟩ := (h r (by simp)).str_inv h3
    obtain ⟨ks, rfl, hb⟩ := srow_of h3 rows (fun r hr => h r (by simp [hr]))
    exact ⟨s :: ks, rfl, by simp only [bkRows, bkRow, bkA, sbk, hb, Nat.add_zero]⟩
theorem vrows_of {rows : List (List AV)} (h : ∀ r ∈ rows, ∃ v : V, r = v.row ∧ bkRow r = v.bk) : ∃ l : List V, rows = l.map V.row ∧ bkRows rows = V.bks l := by
  induction rows with
  | nil => exact ⟨[], rfl, rfl⟩
  | cons r rows ih =>
    obtain ⟨v, rfl, hb⟩ := h r (by simp)
    obtain ⟨l, rfl, hl⟩ := ih (fun r hr => h r (by simp [hr]))
    exact ⟨v :: l, rfl, by simp only [bkRows, V.bks, hb, hl]⟩
theorem bkRow_mem {r : List AV} {rows : List (List AV)} (h : r ∈ rows) : bkRow r ≤ bkRows rows := by
  induction rows with
  | nil => simp at h
  | cons x rows ih =>
    simp only [bkRows]
    rcases List.mem_cons.1 h with rfl | h
    · omega
    · have := ih h; omega
theorem V.of_row {σ : TS} {tv ti ts tvs tss : Nat} (h1 : σ.td tv = some (.struct [ti, ts, ts, tvs, tss])) (h2 : σ.td ti = some (.int .i64)) (h3 : σ.td ts = some .str) (h4 : σ.td tvs = some (.slice tv)) (h5 : σ.td tss = some (.slice ts)) (s1 : σ.sz tv = 5) (s2 : σ.sz ts = 1) :
    ∀ (cs : List AV), Has σ tv cs → ∃ v : V, cs = v.row ∧ bkRow cs = v.bk := by
  have key : ∀ n (cs : List AV), bkRow cs < n → Has σ tv cs → ∃ v : V, cs = v.row ∧ bkRow cs = v.bk := by
    intro n
    induction n with
    | zero => intro cs h; omega
    | succ n ih =>
      intro cs hn h
      obtain ⟨c1, r1, rfl, a1, hc⟩ := (h.struct_inv h1).inv
      obtain ⟨c2, r2, rfl, a2, hc⟩ := hc.inv
      obtain ⟨c3, r3, rfl, a3, hc⟩ := hc.inv
      obtain ⟨c4, r4, rfl, a4, hc⟩ := hc.inv
      obtain ⟨c5, r5, rfl, a5, hc⟩ := hc.inv
      obtain rfl := hc.nil_inv
      obtain ⟨k, rfl, _⟩ := a1.int_inv h2
      obtain ⟨n2, rfl⟩ := a2.str_inv h3
      obtain ⟨n3, rfl⟩ := a3.str_inv h3
      obtain ⟨w4, rfl, b4⟩ := a4.slice_inv h4
      obtain ⟨w5, rfl, b5⟩ := a5.slice_inv h5
      rw [s1, s2] at *
      simp only [bkRow_append, bkRow, bkA] at hn
      obtain ⟨l, rfl, hl⟩ := vrows_of (rows := w4) (fun r hr => ih r (by have := bkRow_mem hr; omega) (b4 r hr))
      obtain ⟨ks, rfl, hk⟩ := srow_of h3 w5 b5
      refine ⟨.mk k n2 n3 l ks, ?_, ?_⟩
      · simp only [V.row, V.rows_eq]; first | done | rfl
      · simp only [bkRow_append, bkRow, bkA, V.bk, hl, hk]; first | done | omega
  intro cs h
  exact key _ cs (Nat.lt_succ_self _) h
theorem V.of_arg {σ : TS} {tv ti ts tvs tss : Nat} (h1 : σ.td tv = some (.struct [ti, ts, ts, tvs, tss])) (h2 : σ.td ti = some (.int .i64)) (h3 : σ.td ts = some .str) (h4 : σ.td tvs = some (.slice tv)) (h5 : σ.td tss = some (.slice ts)) (s1 : σ.sz tv = 5) (s2 : σ.sz ts = 1)
    {a : AV} (h : HasA σ tv a) : ∃ v : V, a = v.av ∧ bkA a = v.bk := by
  obtain ⟨cs, rfl, hc⟩ := h.struct_inv h1
  obtain ⟨v, rfl, hb⟩ := V.of_row h1 h2 h3 h4 h5 s1 s2 cs hc
  exact ⟨v, rfl, by simpa only [bkA] using hb⟩
end Hm

/- Lists of values of the program are lists of trees. Conditions: see each theorem. -/
namespace Hm
open Go (IntKind Lit)
theorem HasA.lst_inv {σ : TS} {i e : Nat} {v : AV} (h : HasA σ i v) (hi : σ.td i = some (.slice e)) : ∃ rows, v = .lst (σ.sz e) rows ∧ ∀ r ∈ rows, Has σ e r := by
  cases h with
  | agg h _ => rw [hi] at h; cases h
  | one _ hc =>
    obtain ⟨rows, e1, e2⟩ := hc.slice_inv hi
    exact ⟨rows, by simpa using e1, e2⟩
theorem vals_of_arg {σ : TS} {tv ti ts tvs tss : Nat} (h1 : σ.td tv = some (.struct [ti, ts, ts, tvs, tss])) (h2 : σ.td ti = some (.int .i64)) (h3 : σ.td ts = some .str) (h4 : σ.td tvs = some (.slice tv)) (h5 : σ.td tss = some (.slice ts)) (s1 : σ.sz tv = 5) (s2 : σ.sz ts = 1)
    {a : AV} (h : HasA σ tvs a) : ∃ l : List V, a = .lst 5 (l.map V.row) ∧ V.bks l ≤ bkA a := by
  obtain ⟨rows, rfl, hr⟩ := h.lst_inv h4
  obtain ⟨l, rfl, hb⟩ := vrows_of (rows := rows) fun r hm => V.of_row h1 h2 h3 h4 h5 s1 s2 r (hr r hm)
  rw [s1]
  exact ⟨l, rfl, by simp only [bkA]; omega⟩
end Hm

/- Values of the program that have the type of types are trees. Conditions: see each theorem. -/
namespace Hm
open Go (IntKind Lit)
theorem rowsG {α : Type} (row : α → List AV) (bk : α → Nat) (bks : List α → Nat) (h0 : bks [] = 0) (h1 : ∀ x l, bks (x :: l) = bk x + bks l) : ∀ (rows : List (List AV)), (∀ r ∈ rows, ∃ x, r = row x ∧ bkRow r = bk x) → ∃ l, rows = l.map row ∧ bkRows rows = bks l
  | [], _ => ⟨[], rfl, by rw [h0]; rfl⟩
  | r :: rows, h => by
    obtain ⟨x, rfl, hb⟩ := h r (by simp)
    obtain ⟨l, rfl, hl⟩ := rowsG row bk bks h0 h1 rows (fun r hr => h r (by simp [hr]))
    exact ⟨x :: l, rfl, by rw [h1]; simp only [bkRows, hb, hl]⟩
/-- Where the types lie. -/
structure TyAt (σ : TS) (tt tb tsps tsp ts tss tas ta ti tos to tts tbs : Nat) : Prop where
  h1 : σ.td tt = some (.struct [tb, tb, tb, tb, tsps, tb, tss, tas, tos])
  h2 : σ.td tb = some .bool
  h3 : σ.td tsps = some (.slice tsp)
  h4 : σ.td tsp = some (.struct [ts, ts])
  h5 : σ.td ts = some .str
  h6 : σ.td tss = some (.slice ts)
  h7 : σ.td tas = some (.slice ta)
  h8 : σ.td ta = some (.struct [tt, ti, ti])
  h9 : σ.td ti = some (.int .i64)
  k1 : σ.td tos = some (.slice to)
  k2 : σ.td to = some (.struct [tss, tts, tbs, tt])
  k3 : σ.td tts = some (.slice tt)
  k4 : σ.td tbs = some (.slice tb)
  s1 : σ.sz tt = 9
  s2 : σ.sz tsp = 2
  s3 : σ.sz ts = 1
  s4 : σ.sz ta = 11
  s5 : σ.sz to = 12
  s6 : σ.sz tb = 1
theorem Ty.of_row {σ : TS} {tt tb tsps tsp ts tss tas ta ti tos to tts tbs : Nat} (h : TyAt σ tt tb tsps tsp ts tss tas ta ti tos to tts tbs) : ∀ (cs : List AV), Has σ tt cs → ∃ v : Ty, cs = v.row ∧ bkRow cs = v.bk := by
  obtain ⟨h1, h2, h3, h4, h5, h6, h7, h8, h9, k1, k2, k3, k4, s1, s2, s3, s4, s5, s6⟩ := h
  have key : ∀ n (cs : List AV), bkRow cs < n → Has σ tt cs → ∃ v : Ty, cs = v.row ∧ bkRow cs = v.bk := by
    intro n
    induction n with
    | zero => intro cs h; omega
    | succ n ih =>
      intro cs hn h
      obtain ⟨c1, r1, rfl, a1, hc⟩ := (h.struct_inv h1).inv
      obtain ⟨c2, r2, rfl, a2, hc⟩ := hc.inv
      obtain ⟨c3, r3, rfl, a3, hc⟩ := hc.inv
      obtain ⟨c4, r4, rfl, a4, hc⟩ := hc.inv
      obtain ⟨c5, r5, rfl, a5, hc⟩ := hc.inv
      obtain ⟨c6, r6, rfl, a6, hc⟩ := hc.inv
      obtain ⟨c7, r7, rfl, a7, hc⟩ := hc.inv
      obtain ⟨c8, r8, rfl, a8, hc⟩ := hc.inv
      obtain ⟨c9, r9, rfl, a9, hc⟩ := hc.inv
      obtain rfl := hc.nil_inv
      obtain ⟨b1, rfl⟩ := a1.bool_inv h2
      obtain ⟨b2, rfl⟩ := a2.bool_inv h2
      obtain ⟨b3, rfl⟩ := a3.bool_inv h2
      obtain ⟨b4, rfl⟩ := a4.bool_inv h2
      obtain ⟨b6, rfl⟩ := a6.bool_inv h2
      obtain ⟨w5, rfl, q5⟩ := a5.slice_inv h3
      obtain ⟨w7, rfl, q7⟩ := a7.slice_inv h6
      obtain ⟨w8, rfl, q8⟩ := a8.slice_inv h7
      obtain ⟨w9, rfl, q9⟩ := a9.slice_inv k1
      simp only [bkRow_append, bkRow, bkA] at hn
      obtain ⟨ns, rfl, hns⟩ := rowsG (fun s : Str × Str => [AV.str s.1, AV.str s.2]) (fun s => (s.1.length + 1) + (s.2.length + 1)) spbk rfl (fun _ _ => rfl) w5 (fun r hr => by
        obtain ⟨d1, e1, rfl, f1, hd⟩ := ((q5 r hr).struct_inv h4).inv
        obtain ⟨d2, e2, rfl, f2, hd⟩ := hd.inv
        obtain rfl := hd.nil_inv
        obtain ⟨x, rfl⟩ := f1.str_inv h5
        obtain ⟨y, rfl⟩ := f2.str_inv h5
        exact ⟨(x, y), rfl, by simp only [bkRow_append, bkRow, bkA]; first | done | omega⟩)
      obtain ⟨xs, rfl, hxs⟩ := srow_of h5 w7 q7
      obtain ⟨as, rfl, has⟩ := rowsG Ar.row Ar.bk arBks rfl (fun _ _ => rfl) w8 (fun r hr => by
        have hm := bkRow_mem hr
        obtain ⟨d1, e1, rfl, f1, hd⟩ := ((q8 r hr).struct_inv h8).inv
        obtain ⟨d2, e2, rfl, f2, hd⟩ := hd.inv
        obtain ⟨d3, e3, rfl, f3, hd⟩ := hd.inv
        obtain rfl := hd.nil_inv
        obtain ⟨x, rfl, _⟩ := f2.int_inv h9
        obtain ⟨y, rfl, _⟩ := f3.int_inv h9
        simp only [bkRow_append, bkRow, bkA] at hm
        obtain ⟨t, rfl, ht⟩ := ih d1 (by omega) f1
        exact ⟨.mk t x y, by simp [Ar.row], by simp only [bkRow_append, bkRow, bkA, Ar.bk, ht]⟩)
      obtain ⟨os, rfl, hos⟩ := rowsG Ob.row Ob.bk obBks rfl (fun _ _ => rfl) w9 (fun r hr => by
        have hm := bkRow_mem hr
        obtain ⟨d1, e1, rfl, f1, hd⟩ := ((q9 r hr).struct_inv k2).inv
        obtain ⟨d2, e2, rfl, f2, hd⟩ := hd.inv
        obtain ⟨d3, e3, rfl, f3, hd⟩ := hd.inv
        obtain ⟨d4, e4, rfl, f4, hd⟩ := hd.inv
        obtain rfl := hd.nil_inv
        obtain ⟨u1, rfl, p1⟩ := f1.slice_inv h6
        obtain ⟨u2, rfl, p2⟩ := f2.slice_inv k3
        obtain ⟨u3, rfl, p3⟩ := f3.slice_inv k4
        simp only [bkRow_append, bkRow, bkA] at hm
        obtain ⟨nms, rfl, hnms⟩ := srow_of h5 u1 p1
        obtain ⟨fs, rfl, hfs⟩ := rowsG Ty.row Ty.bk tyBks rfl (fun _ _ => rfl) u2 (fun r hr => by
          have := bkRow_mem hr
          exact ih r (by omega) (p2 r hr))
        obtain ⟨ms, rfl, hms⟩ := rowsG (fun b : Bool => [AV.bool b]) (fun _ => 1) List.length rfl (fun _ _ => by simp only [List.length_cons]; omega) u3 (fun r hr => by
          obtain ⟨b, rfl⟩ := (p3 r hr).bool_inv h2
          exact ⟨b, rfl, rfl⟩)
        obtain ⟨t, rfl, ht⟩ := ih d4 (by omega) f4
        refine ⟨.mk nms fs ms t, ?_, ?_⟩
        · simp [Ob.row, tyRows_eq, brow, s1, s3, s6]
        · simp only [bkRow_append, bkRow, bkA, Ob.bk, ht, hnms, hfs, hms]; first | done | omega)
      refine ⟨.mk b1 b2 b3 b4 ns b6 xs as os, ?_, ?_⟩
      · simp [Ty.row, arRows_eq, obRows_eq, sprow, s2, s3, s4, s5]
      · simp only [bkRow_append, bkRow, bkA, Ty.bk, hns, hxs, has, hos]; first | done | omega
  intro cs h
  exact key _ cs (Nat.lt_succ_self _) h
theorem Ty.of_arg {σ : TS} {tt tb tsps tsp ts tss tas ta ti tos to tts tbs : Nat} (h : TyAt σ tt tb tsps tsp ts tss tas ta ti tos to tts tbs) {a : AV} (ha : HasA σ tt a) : ∃ v : Ty, a = v.av ∧ bkA a = v.bk := by
  obtain ⟨cs, rfl, hc⟩ := ha.struct_inv h.h1
  obtain ⟨v, rfl, hb⟩ := Ty.of_row h cs hc
  exact ⟨v, rfl, by simpa only [bkA] using hb⟩
end Hm

/- Lists of alternatives of the program are lists of trees. Conditions: see each theorem. -/
namespace Hm
open Go (IntKind Lit)
theorem Ob.of_row {σ : TS} {tt tb tsps tsp ts tss tas ta ti tos to tts tbs : Nat} (h : TyAt σ tt tb tsps tsp ts tss tas ta ti tos to tts tbs) (r : List AV) (hr : Has σ to r) : ∃ o : Ob, r = o.row ∧ bkRow r = o.bk := by
  have key := fun cs => Ty.of_row h cs
  obtain ⟨h1, h2, h3, h4, h5, h6, h7, h8, h9, k1, k2, k3, k4, s1, s2, s3, s4, s5, s6⟩ := h
  obtain ⟨d1, e1, rfl, f1, hd⟩ := (hr.struct_inv k2).inv
  obtain ⟨d2, e2, rfl, f2, hd⟩ := hd.inv
  obtain ⟨d3, e3, rfl, f3, hd⟩ := hd.inv
  obtain ⟨d4, e4, rfl, f4, hd⟩ := hd.inv
  obtain rfl := hd.nil_inv
  obtain ⟨u1, rfl, p1⟩ := f1.slice_inv h6
  obtain ⟨u2, rfl, p2⟩ := f2.slice_inv k3
  obtain ⟨u3, rfl, p3⟩ := f3.slice_inv k4
  obtain ⟨nms, rfl, hnms⟩ := srow_of h5 u1 p1
  obtain ⟨fs, rfl, hfs⟩ := rowsG Ty.row Ty.bk tyBks rfl (fun _ _ => rfl) u2 (fun r hr => key r (p2 r hr))
  obtain ⟨ms, rfl, hms⟩ := rowsG (fun b : Bool => [AV.bool b]) (fun _ => 1) List.length rfl (fun _ _ => by simp only [List.length_cons]; omega) u3 (fun r hr => by
    obtain ⟨b, rfl⟩ := (p3 r hr).bool_inv h2
    exact ⟨b, rfl, rfl⟩)
  obtain ⟨t, rfl, ht⟩ := key d4 f4
  refine ⟨.mk nms fs ms t, ?_, ?_⟩
  · simp [Ob.row, tyRows_eq, brow, s1, s3, s6]
  · simp only [bkRow_append, bkRow, bkA, Ob.bk, ht, hnms, hfs, hms]; first | done | omega
theorem obs_of_arg {σ : TS} {tt tb tsps tsp ts tss tas ta ti tos to tts tbs : Nat} (h : TyAt σ tt tb tsps tsp ts tss tas ta ti tos to tts tbs) {a : AV} (ha : HasA σ tos a) : ∃ l : List Ob, a = .lst 12 (l.map Ob.row) ∧ obBks l ≤ bkA a := by
  obtain ⟨rows, rfl, hr⟩ := ha.lst_inv h.k1
  obtain ⟨l, rfl, hb⟩ := rowsG Ob.row Ob.bk obBks rfl (fun _ _ => rfl) rows fun r hm => Ob.of_row h r (hr r hm)
  rw [h.s5]
  exact ⟨l, rfl, by simp only [bkA]; omega⟩
end Hm

/- The text of a number, by the library: its contract in the machine's terms. Conditions: see each theorem. -/
namespace Hm
open Go
theorem digits_eq : ∀ (k m : Nat), m < 10 ^ (k + 1) → digits (k + 1) m = Lib.decDigits m
  | 0, m, h => by
    have : m < 10 := by simpa using h
    rw [digits, if_pos this, Lib.decDigits, dif_pos this]
  | k + 1, m, h => by
    rw [digits, Lib.decDigits]
    by_cases hm : m < 10
    · rw [if_pos hm, dif_pos hm]
    · rw [if_neg hm, dif_neg hm, digits_eq k (m / 10) (by rw [Nat.pow_succ] at h; omega)]
theorem itoa_eq {n : Int} (h0 : -9223372036854775808 ≤ n) (h1 : n ≤ 9223372036854775807) : itoa n = Lib.itoa n := by
  unfold itoa Lib.itoa
  by_cases h : n < 0
  · rw [if_pos h, if_pos h, digits_eq 19 _ (by omega)]
  · rw [if_neg h, if_neg h, digits_eq 19 _ (by omega)]
    congr 1; omega
theorem meets_itoa {P : Program} {N : Nm} {f g : Nat} (hg : P.globalNamed "internal/strconv.uint64pow10" = some g) (hN : ((.tab 0, .pointer (some ⟨g, 0, none⟩)) : AV × Value) ∈ N.g)
    (hA : N.a 0 = (Lib.pow10Tab.map fun z => Value.int .u64 z).toArray)
    (h : ∀ n : Int, -9223372036854775808 ≤ n → n ≤ 9223372036854775807 → ∀ w : World, Lib.TabIs P w "internal/strconv.uint64pow10" .u64 Lib.pow10Tab → Calls P (N.f f) #[.int .i64 n] w fun e w' => e = .returned (.string ⟨(Lib.itoa n).toArray⟩) ∧ ∃ k os, w' = Sort.grow (w.drewN k) os) :
    ∀ as cr, pItoa as = some cr → Meets P N f as cr := by
  intro as cr hp
  unfold pItoa at hp
  split at hp
  · split at hp
    · rename_i n hn
      simp only [Option.some.injEq] at hp
      subst hp
      intro w S vs lx A hnd hfree hlt hglob
      obtain ⟨c1, us, rfl, h1, A⟩ := A.vals_inv
      obtain ⟨rfl, rfl⟩ := A.nil_inv
      have ht : Lib.TabIs P w "internal/strconv.uint64pow10" .u64 Lib.pow10Tab := by
        have hv := hglob _ hN
        cases hv with
        | tab _ _ ty fr hS hc =>
          unfold Lib.TabIs World.var?
          simp only [hg, Option.bind_some, hc, hA]
      cases h1 with
      | int _ _ =>
        refine (h n hn.1 hn.2 w ht).mono fun e w' ⟨he, k, os, hw⟩ => ?_
        subst hw
        rw [← itoa_eq hn.1 hn.2] at he
        have hsz : w.heap.size ≤ (Sort.grow (w.drewN k) os).heap.size := by simp [Sort.grow, World.drewN]
        refine ⟨_, S, [([.av (.str (itoa n)) (.string ⟨(itoa n).toArray⟩)], false)], [], he, ⟨fun _ h => h, fun _ h => .inl h, fun x hx => Nat.lt_of_lt_of_le (hlt x hx) hsz, ⟨rfl, rfl, rfl, hsz, fun x hx _ => ?_⟩, rfl, fun x hx => ?_, rfl, .val .nil, by simp [resBlocks, blocksRow, GC.blocks], by simp [resBlocks, blocksRow, GC.blocks]⟩⟩
        · simp [Sort.grow, World.drewN, Array.getElem?_append, hx]
        · obtain rfl := List.mem_singleton.1 hx
          refine ⟨fun c hc => ?_, fun _ => ⟨_, rfl⟩⟩
          obtain rfl := List.mem_singleton.1 hc
          exact .av _ _ (by have := VR.str (N := N) (w := Sort.grow (w.drewN k) os) (S := S) ⟨(itoa n).toArray⟩; simpa using this) rfl
    · cases hp
  · cases hp
end Hm

/- Copies of lists. Conditions: see each theorem. -/
namespace Hm
open Go (IntKind)
set_option maxHeartbeats 4000000
set_option maxRecDepth 4000
theorem slices_Clone_Ls_ret {T : Tab} (h : Fn T F.slices_Clone_Ls slices_Clone_Ls.fn) (rows : List (List AV)) (hne : rows ≠ []) (hl : rows.length ≤ limit) : Ret T F.slices_Clone_Ls [.val (.lst 1 rows)] ⟨[([.own 1 (rows.map (·.map .av))], false)], []⟩ := by
  cases rows with
  | nil => exact absurd rfl hne
  | cons r rs =>
  refine Ret.mk h rfl ?_
  repeat' (first | refine zA ?_ | ((apply W1.appA; exact rfl; exact rfl; exact rfl; exact Nat.le_trans (Nat.le_of_eq (Nat.zero_add _)) hl)) | refine zB ?_ | (refine zC ?_ ?_ <;> intro hc; all_goals first | (cases hc; done) | ((try simp only [hc]); (try simp only [bm] at hc))) | refine zE ?_ | refine zN ?_ | fail)
  exact ⟨.inr rfl, rfl, rfl⟩
theorem slices_Clone_Ls_emp {T : Tab} (h : Fn T F.slices_Clone_Ls slices_Clone_Ls.fn) (nn : Bool) : Ret T F.slices_Clone_Ls [.val (.emp 1 nn)] ⟨[([.own 1 []], false)], []⟩ := by
  cases nn
  all_goals refine Ret.mk h rfl ?_
  repeat' (first | refine zA ?_ | ((apply W1.appE; exact rfl; exact rfl; exact rfl; exact Nat.zero_le _)) | refine zB ?_ | (refine zC ?_ ?_ <;> intro hc; all_goals first | (cases hc; done) | ((try simp only [hc]); (try simp only [bm] at hc))) | refine zE ?_ | refine zN ?_ | fail)
  all_goals exact ⟨.inr rfl, rfl, rfl⟩

end Hm

/- Copies of lists. Conditions: see each theorem. -/
namespace Hm
open Go (IntKind)
set_option maxHeartbeats 4000000
set_option maxRecDepth 4000
theorem slices_Clone_LV_ret {T : Tab} (h : Fn T F.slices_Clone_LV slices_Clone_LV.fn) (rows : List (List AV)) (hne : rows ≠ []) (hl : rows.length ≤ limit) : Ret T F.slices_Clone_LV [.val (.lst 5 rows)] ⟨[([.own 5 (rows.map (·.map .av))], false)], []⟩ := by
  cases rows with
  | nil => exact absurd rfl hne
  | cons r rs =>
  refine Ret.mk h rfl ?_
  repeat' (first | refine zA ?_ | ((apply W1.appA; exact rfl; exact rfl; exact rfl; exact Nat.le_trans (Nat.le_of_eq (Nat.zero_add _)) hl)) | refine zB ?_ | (refine zC ?_ ?_ <;> intro hc; all_goals first | (cases hc; done) | ((try simp only [hc]); (try simp only [bm] at hc))) | refine zE ?_ | refine zN ?_ | fail)
  exact ⟨.inr rfl, rfl, rfl⟩
theorem slices_Clone_LV_emp {T : Tab} (h : Fn T F.slices_Clone_LV slices_Clone_LV.fn) (nn : Bool) : Ret T F.slices_Clone_LV [.val (.emp 5 nn)] ⟨[([.own 5 []], false)], []⟩ := by
  cases nn
  all_goals refine Ret.mk h rfl ?_
  repeat' (first | refine zA ?_ | ((apply W1.appE; exact rfl; exact rfl; exact rfl; exact Nat.zero_le _)) | refine zB ?_ | (refine zC ?_ ?_ <;> intro hc; all_goals first | (cases hc; done) | ((try simp only [hc]); (try simp only [bm] at hc))) | refine zE ?_ | refine zN ?_ | fail)
  all_goals exact ⟨.inr rfl, rfl, rfl⟩
end Hm
