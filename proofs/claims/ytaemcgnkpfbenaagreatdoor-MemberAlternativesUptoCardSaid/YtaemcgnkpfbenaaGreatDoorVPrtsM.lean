/- What the law answers on the abstract machine. Conditions: see each theorem. -/
import Derived.Test.YtaemcgnkpfbenaaGreatDoorVPrtsM2
set_option linter.unusedVariables false
set_option linter.unusedSimpArgs false
/- Well shaped types, as the program has them: spans. Conditions: see each theorem. -/
namespace Hm
open Go (IntKind)
set_option maxHeartbeats 4000000
set_option maxRecDepth 4000
section
variable {T : Tab}
theorem swth_ret (h : Fn T F.shape_worth shape_worth.fn) (c2 : Fn T F.tens_Cmp tens_Cmp.fn) (c3 : Fn T F.tens_size tens_size.fn) (c4 : Fn T F.tens_split tens_split.fn) (c5 : Fn T F.tens_Formed tens_Formed.fn) (a b : Str) (ha : number a = true) (hb : number b = true) (hl : a.length ≤ 1073741824) (hl' : b.length ≤ 1073741824) :
    Ret T F.shape_worth [.val (.str a), .val (.str b)] (one (.int .i64 (zcmp a b))) := by
  have r := tensCmp_ret c2 c3 c4 c5 a b ha hb hl hl'
  refine Ret.mk h rfl ?_
  repeat' (first | refine WO.cons ?_ | refine WB.cons ?_ | refine WP.one ?_ | (first | (apply WQ.call (hm := c2.modes); (iterate 4 exact rfl)) | (apply W1.callV (hm := c2.modes); (iterate 5 exact rfl); exact (r); exact rfl)) | ((first | apply W1.add64 | apply W1.sub64); (iterate 3 exact rfl); omega; omega) | (apply W1.iadr; (iterate 3 exact rfl); omega; first | assumption | ((first | apply V.get_row | apply get_srow | apply get_ty | apply get_ar | apply get_ob | apply get_sprow | apply get_brow); assumption)) | (apply W1.idxS; (iterate 3 exact rfl); omega; omega) | (apply W1.slcS; (iterate 4 exact rfl); omega) | (apply W1.pickT; exact rfl; exact rfl; (first | with_reducible rfl | assumption | (simp only [bn]; first | omega | assumption | decide)); exact rfl) | (apply W1.pickF; exact rfl; exact rfl; (first | with_reducible rfl | assumption | (simp only [bn]; first | omega | assumption | decide)); exact rfl) | (apply W1.op; (iterate 3 exact rfl)) | (apply W1.no; exact rfl) | ((first | apply W1.knowT | apply W1.knowFn | apply WQ.knowT | apply WQ.knowFn | apply W.condT); exact rfl; (first | with_reducible rfl | assumption | (simp only [bn]; first | omega | assumption | decide))) | ((first | apply W1.knowTn | apply W1.knowF | apply WQ.knowTn | apply WQ.knowF | apply W.condF); exact rfl; (first | with_reducible rfl | assumption | (simp only [bn]; first | omega | assumption | decide))) | (apply WQ.go; exact rfl; exact rfl) | (apply WQ.no; exact rfl) | ((first | apply W1.bothT | apply W1.bothF | apply WQ.bothT | apply WQ.bothF | apply W.cond); exact rfl; all_goals intro hc; all_goals first | (cases hc; done) | ((try simp only [hc]); (try simp only [bm] at hc))) | refine WO.nil ?_ | refine WB.nil ?_ | refine WP.bag rfl ?_ | refine WP.nil ?_ | refine W.seq ?_ | refine W.reg ?_ | refine W.dreg ?_ | refine W.block ?_ | refine W.ret ?_ | refine W.skip ?_ | refine W.exit ?_ | (simp only [sprow_len, brow_len, srow_len, List.length_map, Qit, Int.toNat_natCast, entry, Opd.eat, cellsOf, TV.ofCells, allAv, Qseq, Qblk, List.map_cons, List.map_nil, putD, kp, Nat.reduceEqDiff, ↓reduceIte, beq_self_eq_true, Nat.reduceBEq]))
  exact Qend.num rfl rfl rfl
theorem snums_ret (h : Fn T F.shape_piece_nums shape_piece_nums.fn) (h0 : Fn T F.shape_worth shape_worth.fn) (c2 : Fn T F.tens_Cmp tens_Cmp.fn) (c3 : Fn T F.tens_size tens_size.fn) (c4 : Fn T F.tens_split tens_split.fn) (c5 : Fn T F.tens_Formed tens_Formed.fn) (t : Ty) (hb : t.bk ≤ 1073741824) :
    Ret T F.shape_piece_nums [.val t.av] (one (.bool (t.nums.all spanOk && decide (t.nums.length ≤ 1)))) := by
  have hk := Ty.bk_eq t
  have hl := len_spbk t.nums
  have e1 := sprow_len t.nums
  refine Ret.mk h rfl ?_
  rw [Ty.av_eq]
  repeat' (first | refine WO.cons ?_ | refine WB.cons ?_ | refine WP.one ?_ | ((first | apply W1.add64 | apply W1.sub64); (iterate 3 exact rfl); omega; omega) | (apply W1.iadr; (iterate 3 exact rfl); omega; first | assumption | ((first | apply V.get_row | apply get_srow | apply get_ty | apply get_ar | apply get_ob | apply get_sprow | apply get_brow); assumption)) | (apply W1.idxS; (iterate 3 exact rfl); omega; omega) | (apply W1.slcS; (iterate 4 exact rfl); omega) | (apply W1.pickT; exact rfl; exact rfl; (first | with_reducible rfl | assumption | (simp only [bn]; first | omega | assumption | decide)); exact rfl) | (apply W1.pickF; exact rfl; exact rfl; (first | with_reducible rfl | assumption | (simp only [bn]; first | omega | assumption | decide)); exact rfl) | (apply W1.op; (iterate 3 exact rfl)) | (apply W1.no; exact rfl) | ((first | apply W1.knowT | apply W1.knowFn | apply WQ.knowT | apply WQ.knowFn | apply W.condT); exact rfl; (first | with_reducible rfl | assumption | (simp only [bn]; first | omega | assumption | decide))) | ((first | apply W1.knowTn | apply W1.knowF | apply WQ.knowTn | apply WQ.knowF | apply W.condF); exact rfl; (first | with_reducible rfl | assumption | (simp only [bn]; first | omega | assumption | decide))) | (apply WQ.go; exact rfl; exact rfl) | (apply WQ.no; exact rfl) | ((first | apply W1.bothT | apply W1.bothF | apply WQ.bothT | apply WQ.bothF | apply W.cond); exact rfl; all_goals intro hc; all_goals first | (cases hc; done) | ((try simp only [hc]); (try simp only [bm] at hc))) | refine WO.nil ?_ | refine WB.nil ?_ | refine WP.bag rfl ?_ | refine WP.nil ?_ | refine W.seq ?_ | refine W.reg ?_ | refine W.dreg ?_ | refine W.block ?_ | refine W.ret ?_ | refine W.skip ?_ | refine W.exit ?_ | (simp only [sprow_len, brow_len, srow_len, List.length_map, Qit, Int.toNat_natCast, entry, Opd.eat, cellsOf, TV.ofCells, allAv, Qseq, Qblk, List.map_cons, List.map_nil, putD, kp, Nat.reduceEqDiff, ↓reduceIte, beq_self_eq_true, Nat.reduceBEq]))
  refine W.listP t.nums (fun i (_ : Unit) s => s.put 10 (.av (.int .i64 (i : Int)))) (fun i _ => (t.nums.take i).all spanOk = true) () (by simp) rfl ?_ ?_
  · intro i x u hx hi hp
    have hsx := spbk_mem (List.mem_of_getElem? hx)
    have r1 := tensFormed_ret c5 x.1 (by omega)
    have r2 := tensFormed_ret c5 x.2 (by omega)
    have r3 := fun p q => swth_ret h0 c2 c3 c4 c5 x.1 x.2 p q (by omega) (by omega)
    have hso : spanOk x = (boundOk x.1 && boundOk x.2 && !(!(x.1 == []) && !(x.2 == []) && decide (zcmp x.1 x.2 > 0))) := rfl
    simp only [boundOk] at hso
    by_cases n1 : number x.1 = true <;> by_cases n2 : number x.2 = true
    · have r3' := r3 n1 n2
      rw [n1] at r1
      rw [n2] at r2
      clear r3
      generalize zcmp x.1 x.2 = z at *
      repeat' (first | refine WO.cons ?_ | refine WB.cons ?_ | refine WP.one ?_ | (first | (apply WQ.call (hm := c5.modes); (iterate 4 exact rfl)) | (apply W1.callV (hm := c5.modes); (iterate 5 exact rfl); exact (r1); exact rfl)) | (first | (apply WQ.call (hm := c5.modes); (iterate 4 exact rfl)) | (apply W1.callV (hm := c5.modes); (iterate 5 exact rfl); exact (r2); exact rfl)) | (first | (apply WQ.call (hm := h0.modes); (iterate 4 exact rfl)) | (apply W1.callV (hm := h0.modes); (iterate 5 exact rfl); exact (r3'); exact rfl)) | ((first | apply W1.add64 | apply W1.sub64); (iterate 3 exact rfl); omega; omega) | (apply W1.iadr; (iterate 3 exact rfl); omega; first | assumption | ((first | apply V.get_row | apply get_srow | apply get_ty | apply get_ar | apply get_ob | apply get_sprow | apply get_brow); assumption)) | (apply W1.idxS; (iterate 3 exact rfl); omega; omega) | (apply W1.slcS; (iterate 4 exact rfl); omega) | (apply W1.pickT; exact rfl; exact rfl; (first | with_reducible rfl | assumption | (simp only [bn]; first | omega | assumption | decide)); exact rfl) | (apply W1.pickF; exact rfl; exact rfl; (first | with_reducible rfl | assumption | (simp only [bn]; first | omega | assumption | decide)); exact rfl) | (apply W1.op; (iterate 3 exact rfl)) | (apply W1.no; exact rfl) | ((first | apply W1.knowT | apply W1.knowFn | apply WQ.knowT | apply WQ.knowFn | apply W.condT); exact rfl; (first | with_reducible rfl | assumption | (simp only [bn]; first | omega | assumption | decide))) | ((first | apply W1.knowTn | apply W1.knowF | apply WQ.knowTn | apply WQ.knowF | apply W.condF); exact rfl; (first | with_reducible rfl | assumption | (simp only [bn]; first | omega | assumption | decide))) | (apply WQ.go; exact rfl; exact rfl) | (apply WQ.no; exact rfl) | ((first | apply W1.bothT | apply W1.bothF | apply WQ.bothT | apply WQ.bothF | apply W.cond); exact rfl; all_goals intro hc; all_goals first | (cases hc; done) | ((try simp only [hc]); (try simp only [bm] at hc))) | refine WO.nil ?_ | refine WB.nil ?_ | refine WP.bag rfl ?_ | refine WP.nil ?_ | refine W.seq ?_ | refine W.reg ?_ | refine W.dreg ?_ | refine W.block ?_ | refine W.ret ?_ | refine W.skip ?_ | refine W.exit ?_ | (simp only [sprow_len, brow_len, srow_len, List.length_map, Qit, Int.toNat_natCast, entry, Opd.eat, cellsOf, TV.ofCells, allAv, Qseq, Qblk, List.map_cons, List.map_nil, putD, kp, Nat.reduceEqDiff, ↓reduceIte, beq_self_eq_true, Nat.reduceBEq]))
      all_goals clear r1 r2 r3'
      all_goals first
        | (refine ⟨(), ?_, rfl⟩; rw [all_take_succ hx, hp, hso]; simp_all; done)
        | (refine ⟨(), ?_, rfl⟩; rw [all_take_succ hx, hp, hso]; simp_all; omega)
        | (refine Qend.boo rfl rfl ?_; rw [all_false hx (by rw [hso]; simp_all; done)]; rfl)
        | (refine Qend.boo rfl rfl ?_; rw [all_false hx (by rw [hso]; simp_all; omega)]; rfl)
        | (exfalso; simp_all; done)
        | (exfalso; simp_all; omega)
    all_goals (try rw [Bool.not_eq_true] at n1)
    all_goals (try rw [Bool.not_eq_true] at n2)
    all_goals rw [n1] at r1
    all_goals rw [n2] at r2
    all_goals clear r3
    all_goals (repeat' (first | refine WO.cons ?_ | refine WB.cons ?_ | refine WP.one ?_ | (first | (apply WQ.call (hm := c5.modes); (iterate 4 exact rfl)) | (apply W1.callV (hm := c5.modes); (iterate 5 exact rfl); exact (r1); exact rfl)) | (first | (apply WQ.call (hm := c5.modes); (iterate 4 exact rfl)) | (apply W1.callV (hm := c5.modes); (iterate 5 exact rfl); exact (r2); exact rfl)) | ((first | apply W1.add64 | apply W1.sub64); (iterate 3 exact rfl); omega; omega) | (apply W1.iadr; (iterate 3 exact rfl); omega; first | assumption | ((first | apply V.get_row | apply get_srow | apply get_ty | apply get_ar | apply get_ob | apply get_sprow | apply get_brow); assumption)) | (apply W1.idxS; (iterate 3 exact rfl); omega; omega) | (apply W1.slcS; (iterate 4 exact rfl); omega) | (apply W1.pickT; exact rfl; exact rfl; (first | with_reducible rfl | assumption | (simp only [bn]; first | omega | assumption | decide)); exact rfl) | (apply W1.pickF; exact rfl; exact rfl; (first | with_reducible rfl | assumption | (simp only [bn]; first | omega | assumption | decide)); exact rfl) | (apply W1.op; (iterate 3 exact rfl)) | (apply W1.no; exact rfl) | ((first | apply W1.knowT | apply W1.knowFn | apply WQ.knowT | apply WQ.knowFn | apply W.condT); exact rfl; (first | with_reducible rfl | assumption | (simp only [bn]; first | omega | assumption | decide))) | ((first | apply W1.knowTn | apply W1.knowF | apply WQ.knowTn | apply WQ.knowF | apply W.condF); exact rfl; (first | with_reducible rfl | assumption | (simp only [bn]; first | omega | assumption | decide))) | (apply WQ.go; exact rfl; exact rfl) | (apply WQ.no; exact rfl) | ((first | apply W1.bothT | apply W1.bothF | apply WQ.bothT | apply WQ.bothF | apply W.cond); exact rfl; all_goals intro hc; all_goals first | (cases hc; done) | ((try simp only [hc]); (try simp only [bm] at hc))) | refine WO.nil ?_ | refine WB.nil ?_ | refine WP.bag rfl ?_ | refine WP.nil ?_ | refine W.seq ?_ | refine W.reg ?_ | refine W.dreg ?_ | refine W.block ?_ | refine W.ret ?_ | refine W.skip ?_ | refine W.exit ?_ | (simp only [sprow_len, brow_len, srow_len, List.length_map, Qit, Int.toNat_natCast, entry, Opd.eat, cellsOf, TV.ofCells, allAv, Qseq, Qblk, List.map_cons, List.map_nil, putD, kp, Nat.reduceEqDiff, ↓reduceIte, beq_self_eq_true, Nat.reduceBEq])))
    all_goals clear r1 r2
    all_goals first
        | (refine ⟨(), ?_, rfl⟩; rw [all_take_succ hx, hp, hso]; simp_all; done)
        | (refine Qend.boo rfl rfl ?_; rw [all_false hx (by rw [hso]; simp_all; done)]; rfl)
        | (exfalso; simp_all; done)
  · intro u hp
    rw [List.take_length] at hp
    repeat' (first | refine WO.cons ?_ | refine WB.cons ?_ | refine WP.one ?_ | ((first | apply W1.add64 | apply W1.sub64); (iterate 3 exact rfl); omega; omega) | (apply W1.iadr; (iterate 3 exact rfl); omega; first | assumption | ((first | apply V.get_row | apply get_srow | apply get_ty | apply get_ar | apply get_ob | apply get_sprow | apply get_brow); assumption)) | (apply W1.idxS; (iterate 3 exact rfl); omega; omega) | (apply W1.slcS; (iterate 4 exact rfl); omega) | (apply W1.pickT; exact rfl; exact rfl; (first | with_reducible rfl | assumption | (simp only [bn]; first | omega | assumption | decide)); exact rfl) | (apply W1.pickF; exact rfl; exact rfl; (first | with_reducible rfl | assumption | (simp only [bn]; first | omega | assumption | decide)); exact rfl) | (apply W1.op; (iterate 3 exact rfl)) | (apply W1.no; exact rfl) | ((first | apply W1.knowT | apply W1.knowFn | apply WQ.knowT | apply WQ.knowFn | apply W.condT); exact rfl; (first | with_reducible rfl | assumption | (simp only [bn]; first | omega | assumption | decide))) | ((first | apply W1.knowTn | apply W1.knowF | apply WQ.knowTn | apply WQ.knowF | apply W.condF); exact rfl; (first | with_reducible rfl | assumption | (simp only [bn]; first | omega | assumption | decide))) | (apply WQ.go; exact rfl; exact rfl) | (apply WQ.no; exact rfl) | ((first | apply W1.bothT | apply W1.bothF | apply WQ.bothT | apply WQ.bothF | apply W.cond); exact rfl; all_goals intro hc; all_goals first | (cases hc; done) | ((try simp only [hc]); (try simp only [bm] at hc))) | refine WO.nil ?_ | refine WB.nil ?_ | refine WP.bag rfl ?_ | refine WP.nil ?_ | refine W.seq ?_ | refine W.reg ?_ | refine W.dreg ?_ | refine W.block ?_ | refine W.ret ?_ | refine W.skip ?_ | refine W.exit ?_ | (simp only [sprow_len, brow_len, srow_len, List.length_map, Qit, Int.toNat_natCast, entry, Opd.eat, cellsOf, TV.ofCells, allAv, Qseq, Qblk, List.map_cons, List.map_nil, putD, kp, Nat.reduceEqDiff, ↓reduceIte, beq_self_eq_true, Nat.reduceBEq]))
    refine Qend.boo rfl rfl ?_
    rw [hp]
    first | rfl | (rw [Bool.eq_iff_iff]; simp; omega) | simp
end
end Hm

/- Which types the program says are well shaped. Conditions: see each theorem. -/
namespace Hm
open Go (IntKind)
set_option maxHeartbeats 4000000
set_option maxRecDepth 4000
theorem sloop {T : Tab} {l : List (Nat × Bool)} (hl5 : l.length = 5) {A : AV} (hc : ∀ x ∈ l, T.modes x.1 = [.val] ∧ Ret T x.1 [.val A] (one (.bool x.2))) {as : List Arg} (has : fits shape_Formed.fn.params as = true) (ho : ∀ st : St, outs st 0 as = some []) :
    W T (.loop [17, 18] shape_Formed.l1) ⟨lstE [(17, .av (.agg (l.map fun x => AV.clo x.1 [A] []))), (18, .av (.int .i64 0))], lstB [(17, none), (18, none)]⟩
      (Qblk 0 (Qseq T (.seq (.reg shape_Formed.r8 [2]) .ret) (Qend shape_Formed.fn as (one (.bool (l.all (·.2))))))) := by
  refine W.listP l (fun i (_ : Unit) s => s.put 18 (.av (.int .i64 (i : Int)))) (fun i _ => (l.take i).all (·.2) = true) () (by simp) rfl ?_ ?_
  · intro i x u hx hi hp
    obtain ⟨hm, r⟩ := hc x (List.mem_of_getElem? hx)
    have hx' : (l.map fun x => AV.clo x.1 [A] [])[i]? = some (AV.clo x.1 [A] []) := by rw [List.getElem?_map, hx]; rfl
    clear hc
    repeat' (first | refine zA ?_ | ((apply W1.idxA1; (iterate 3 exact rfl); omega; omega; exact hx')) | refine WQ.cl hm ?_ | refine W1.cl hm (r) ?_ | refine zB ?_ | (refine zC ?_ ?_ <;> intro hc; all_goals first | (cases hc; done) | ((try simp only [hc]); (try simp only [bm] at hc))) | refine zE ?_ | refine zN ?_ | fail)
    all_goals clear r
    · exact ⟨.inr rfl, by rw [all_false hx (by simp_all)]; rfl, ho _⟩
    · refine ⟨(), ?_, rfl⟩
      rw [all_take_succ hx, hp]; simp_all
  · intro u hp
    rw [List.take_length] at hp
    repeat' (first | refine zA ?_ | refine zB ?_ | (refine zC ?_ ?_ <;> intro hc; all_goals first | (cases hc; done) | ((try simp only [hc]); (try simp only [bm] at hc))) | refine zE ?_ | refine zN ?_ | fail)
    exact ⟨.inr rfl, by rw [hp]; rfl, ho _⟩
theorem sFormed_ret {T : Tab} (hf : Fn T F.shape_Formed shape_Formed.fn) (f1 : Fn T F.shape_piece_every shape_piece_every.fn) (f2 : Fn T F.shape_piece_nums shape_piece_nums.fn) (f3 : Fn T F.shape_piece_texts shape_piece_texts.fn)
    (f4 : Fn T F.shape_piece_arrays shape_piece_arrays.fn) (f5 : Fn T F.shape_piece_objects shape_piece_objects.fn)
    (h1 : Fn T F.shape_never shape_never.fn) (h2 : Fn T F.shape_piece_bare shape_piece_bare.fn)
    (h3 : Fn T F.shape_rise shape_rise.fn) (hu : Fn T F.utf_Valid utf_Valid.fn) (hv : ValidOk T)
    (h0 : Fn T F.shape_worth shape_worth.fn) (c2 : Fn T F.tens_Cmp tens_Cmp.fn) (c3 : Fn T F.tens_size tens_size.fn) (c4 : Fn T F.tens_split tens_split.fn) (c5 : Fn T F.tens_Formed tens_Formed.fn) :
    ∀ (v : Ty), v.bk ≤ 1073741824 → FormedS T v := by
  intro v
  induction v using Ty.ind with
  | h v ih =>
  intro hb
  have hbk := Ty.bk_eq v
  have r1 := severy_ret f1 h2 v
  have r2 := snums_ret f2 h0 c2 c3 c4 c5 v hb
  have r3 := stexts_ret f3 h3 hu hv v hb
  have r4 := sarrays_of f4 hf h1 h2 v hb (fun x hx => by
    have := arBk_mem hx
    have := Ar.bk_eq x
    exact ih x.item (by omega) (by omega))
  have r5 := sobjects_of f5 hf h1 h2 h3 hu hv v hb (fun x hx => by
    have := obBk_mem hx
    have t3 := Ob.bk_eq x
    exact ⟨ih x.rest (by omega) (by omega), fun y hy => by have := tyBk_mem hy; exact ih y (by omega) (by omega)⟩)
  have key : tformed v = ([(F.shape_piece_every, !v.all || bare v), (F.shape_piece_nums, v.nums.all spanOk && decide (v.nums.length ≤ 1)), (F.shape_piece_texts, rise v.texts && (!v.anyText || decide (v.texts.length = 0))),
      (F.shape_piece_arrays, decide (v.arrays.length ≤ 1) && v.arrays.all arOk), (F.shape_piece_objects, v.objects.all obOk)] : List (Nat × Bool)).all (·.2) := by
    rw [tformed_eq]
    simp only [List.all_cons, List.all_nil, spansOk]
    rw [Bool.eq_iff_iff]
    simp only [Bool.and_eq_true, Bool.or_eq_true, Bool.not_eq_true']
    grind
  refine Ret.mk hf rfl ?_
  rw [key]
  clear key
  have hcs : ∀ x ∈ ([(F.shape_piece_every, !v.all || bare v), (F.shape_piece_nums, v.nums.all spanOk && decide (v.nums.length ≤ 1)), (F.shape_piece_texts, rise v.texts && (!v.anyText || decide (v.texts.length = 0))),
      (F.shape_piece_arrays, decide (v.arrays.length ≤ 1) && v.arrays.all arOk), (F.shape_piece_objects, v.objects.all obOk)] : List (Nat × Bool)), T.modes x.1 = [.val] ∧ Ret T x.1 [.val v.av] (one (.bool x.2)) := by
    intro x hx
    simp only [List.mem_cons, List.not_mem_nil, or_false] at hx
    rcases hx with rfl | rfl | rfl | rfl | rfl
    · exact ⟨f1.modes, r1⟩
    · exact ⟨f2.modes, r2⟩
    · exact ⟨f3.modes, r3⟩
    · exact ⟨f4.modes, r4⟩
    · exact ⟨f5.modes, r5⟩
  clear ih r1 r2 r3 r4 r5
  rw [Ty.av_eq] at *
  repeat' (first | refine zA ?_ | refine zB ?_ | (refine zC ?_ ?_ <;> intro hc; all_goals first | (cases hc; done) | ((try simp only [hc]); (try simp only [bm] at hc))) | refine zE ?_ | refine zN ?_ | fail)
  exact sloop rfl hcs rfl (fun _ => rfl)
end Hm

/- Whether a value is of a type, by the program's In; laws that speak of parts. NORMX NORMY NORMC Conditions: see each theorem. -/
namespace Hm
open Go (IntKind)
set_option maxHeartbeats 40000000
set_option maxRecDepth 4000
/-! ### Plain -/
def arV (l : List V) : V := .mk 5 [] [] l []
theorem arV_formed {l : List V} (h : l.all formed = true) : formed (arV l) = true := by
  rw [arV, formed, formedAll_eq, h]; simp
theorem mbks_le {x : V} : ∀ {l : List V}, x ∈ l → x.bk ≤ V.bks l
  | y :: l, h => by
    rcases List.mem_cons.1 h with rfl | h
    · simp only [V.bks]; omega
    · have := mbks_le h; simp only [V.bks]; omega
theorem arV_bk (l : List V) : (arV l).bk = V.bks l + 5 := by
  rw [V.bk_eq]; simp [arV, V.num, V.text, V.items, V.keys, sbk]; omega
theorem arV_in (l : List V) (a : Ar) : inT (arV l) (arrT a) = inArB (l.map inT) a := by rw [inT_eq]; rfl
def fitB (n : Nat) (mn mx : Int) : Bool := decide ((n : Int) ≥ mn) && (decide (mx < 0) || decide ((n : Int) ≤ mx))
theorem inArB_fit (l : List V) (t : Ty) (mn mx : Int) : inArB (l.map inT) (.mk t mn mx) = (fitB l.length mn mx && l.all fun x => inT x t) := by
  rw [inArB, fitB, List.length_map, List.all_map]
  congr 1
  show (!(decide ((l.length : Int) < mn) || (decide (mx ≥ 0) && decide ((l.length : Int) > mx)))) = _
  rw [Bool.eq_iff_iff]
  simp only [Bool.not_eq_true', Bool.or_eq_false_iff, Bool.and_eq_false_iff, decide_eq_false_iff_not, Bool.and_eq_true, Bool.or_eq_true, decide_eq_true_eq]
  omega
def objsT (l : List Ob) : Ty := .mk false false false false [] false [] [] l
theorem objsT_in (v : V) (l : List Ob) : inT v (objsT l) = l.any fun o => inT v (objT o) := by
  have h : ∀ o, inT v (objT o) = inBody v.kind v.num v.text (v.items.map inT) v.keys (objT o) := fun o => by rw [inT_eq]
  simp only [h]
  rw [inT_eq]
  unfold inBody objsT objT
  simp only [Ty.all, Ty.nul, Ty.fls, Ty.tru, Ty.nums, Ty.anyText, Ty.texts, Ty.arrays, Ty.objects, Bool.false_or, List.contains_nil, List.any_cons, List.any_nil, Bool.or_false]
  by_cases h0 : v.kind = 0
  · simp [h0]
  by_cases h1 : v.kind = 1
  · simp [h1]
  by_cases h2 : v.kind = 2
  · simp [h2]
  by_cases h3 : v.kind = 3
  · simp [h3]
  by_cases h4 : v.kind = 4
  · simp [h4]
  by_cases h5 : v.kind = 5
  · simp [h5]
  simp only [h0, h1, h2, h3, h4, h5, if_false]
theorem objsT_one {l : List Ob} (h : tformed (objsT l) = true) : ∀ o ∈ l, tformed (objT o) = true := by
  rw [tformed_eq] at h
  simp only [Bool.and_eq_true, List.all_eq_true] at h
  exact fun o ho => obj_formed (h.2.2.2 o ho)
theorem objT_bk (o : Ob) : (objT o).bk = o.bk + 9 := by
  rw [objT, Ty.bk_eq]; simp [Ty.nums, Ty.texts, Ty.arrays, Ty.objects, spbk, sbk, arBks, obBks]; omega
theorem objsT_bk (l : List Ob) : (objsT l).bk = obBks l + 9 := by
  rw [objsT, Ty.bk_eq]; simp [Ty.nums, Ty.texts, Ty.arrays, Ty.objects, spbk, sbk, arBks, obBks]; omega
theorem arrT_bk (a : Ar) : (arrT a).bk = a.bk + 9 := by
  rw [arrT, Ty.bk_eq]; simp [Ty.nums, Ty.texts, Ty.arrays, Ty.objects, spbk, sbk, arBks, obBks]; omega
/-! ### The program's In -/
/-- What the program's test of types reaches. -/
structure SpFns (T : Tab) : Prop where
  hf : Fn T F.shape_Formed shape_Formed.fn
  f1 : Fn T F.shape_piece_every shape_piece_every.fn
  f2 : Fn T F.shape_piece_nums shape_piece_nums.fn
  f3 : Fn T F.shape_piece_texts shape_piece_texts.fn
  f4 : Fn T F.shape_piece_arrays shape_piece_arrays.fn
  f5 : Fn T F.shape_piece_objects shape_piece_objects.fn
  h1 : Fn T F.shape_never shape_never.fn
  h2 : Fn T F.shape_piece_bare shape_piece_bare.fn
  h3 : Fn T F.shape_rise shape_rise.fn
  hu : Fn T F.utf_Valid utf_Valid.fn
  h0 : Fn T F.shape_worth shape_worth.fn
  c2 : Fn T F.tens_Cmp tens_Cmp.fn
  c3 : Fn T F.tens_size tens_size.fn
  c4 : Fn T F.tens_split tens_split.fn
  c5 : Fn T F.tens_Formed tens_Formed.fn
/-- What In reaches. -/
structure MiFns (T : Tab) : Prop where
  a1 : Fn T F.member_In member_In.fn
  a2 : Fn T F.member_formed member_formed.fn
  vf : VfFns T
  sp : SpFns T
  vk : ValidOk T
  lk : LkFns T
/-- What the reference's tests of shape reach. -/
structure RsFns (T : Tab) : Prop where
  p1 : Fn T F.hallmarkref03_Formed hallmarkref03_Formed.fn
  p2 : Fn T F.hallmarkref03_All hallmarkref03_All.fn
  p3 : Fn T F.hallmarkref03_Number hallmarkref03_Number.fn
  p4 : Fn T F.hallmarkref03_Rise hallmarkref03_Rise.fn
  p5 : Fn T F.hallmarkref03_UTF hallmarkref03_UTF.fn
  p6 : Fn T F.hallmarkref03_width hallmarkref03_width.fn
  p7 : Fn T F.hallmarkref03_trail hallmarkref03_trail.fn
  q1 : Fn T F.hallmarkref09_Formed hallmarkref09_Formed.fn
  q2 : Fn T F.hallmarkref09_objects hallmarkref09_objects.fn
  q3 : Fn T F.hallmarkref09_object hallmarkref09_object.fn
  q4 : Fn T F.hallmarkref09_Never hallmarkref09_Never.fn
  q5 : Fn T F.hallmarkref09_Bare hallmarkref09_Bare.fn
  q6 : Fn T F.hallmarkref09_arrays hallmarkref09_arrays.fn
  q7 : Fn T F.hallmarkref09_Spans hallmarkref09_Spans.fn
  q8 : Fn T F.hallmarkref03_Numbers hallmarkref03_Numbers.fn
  q9 : Fn T F.hallmarkref03_Texts hallmarkref03_Texts.fn
  q10 : Fn T F.hallmarkref09_bound hallmarkref09_bound.fn
section
variable {T : Tab}
theorem rsV_ret (f : RsFns T) (v : V) (hb : v.bk ≤ 1073741824) : Ret T F.hallmarkref03_Formed [.val v.av] (one (.bool (formed v))) := refFormed_ret f.p1 f.p2 f.p3 f.p4 f.p5 f.p6 f.p7 v hb
theorem rsAll_ret (f : RsFns T) (l : List V) (hb : V.bks l ≤ 1073741824) : Ret T F.hallmarkref03_All [.val (.lst 5 (l.map V.row))] (one (.bool (l.all formed))) := by
  rw [← formedAll_eq]
  exact refAll_of f.p2 f.p1 l hb fun x hx => rsV_ret f x (by have := mbks_le hx; omega)
theorem rsT_ret (f : RsFns T) (t : Ty) (hb : t.bk ≤ 1073741824) : Ret T F.hallmarkref09_Formed [.val t.av] (one (.bool (tformed t))) := refFormed9_ret f.q1 f.q2 f.q3 f.q4 f.q5 f.p4 f.p5 f.p6 f.p7 f.q6 f.q7 f.q8 f.q9 f.q10 f.p3 t hb
theorem memIn_ret (f : MiFns T) (v : V) (t : Ty) (hb : v.bk ≤ 1073741824) (hbt : t.bk ≤ 1073741824) (hv : formed v = true) (ht : tformed t = true) : Ret T F.member_In [.val v.av, .val t.av] (two (.bool (inT v t)) (.int .i64 0)) := by
  have rV := valueFormed_ret f.vf f.vk v hb
  have rT := sFormed_ret f.sp.hf f.sp.f1 f.sp.f2 f.sp.f3 f.sp.f4 f.sp.f5 f.sp.h1 f.sp.h2 f.sp.h3 f.sp.hu f.vk f.sp.h0 f.sp.c2 f.sp.c3 f.sp.c4 f.sp.c5 t hbt
  have rF := mFormed_ret f.a2 f.vf.a1.modes f.sp.hf.modes v t rV rT
  rw [hv, ht] at rF
  exact mIn_ret f.a1 f.a2.modes f.lk.a1.modes v t hv ht rF (look_ret f.lk v hb hv t hbt ht)
end
end Hm

/- An array by its items: the law. NORMX NORMY NORMC Conditions: see each theorem. -/
namespace Hm
open Go (IntKind)
set_option maxHeartbeats 40000000
set_option maxRecDepth 4000
section
variable {T : Tab}
/-! ### An array by its items -/
theorem MemberParts_ret (h : Fn T F.hallmarklaw10_MemberParts hallmarklaw10_MemberParts.fn) (hk : Fn T F.hallmarklaw10_MemberKnown hallmarklaw10_MemberKnown.fn) (rk : Ret T F.hallmarklaw10_MemberKnown [] (one (.bool true))) (f : MiFns T) (g : RsFns T)
    (l : List V) (t : Ty) (mn mx : Int) (hb : V.bks l + t.bk ≤ 1073700000) : Ret T F.hallmarklaw10_MemberParts [.val (.lst 5 (l.map V.row)), .val t.av, .val (.int .i64 mn), .val (.int .i64 mx)] (one (.bool true)) := by
  have hbl := V.len_bks l
  have e5 : (l.map V.row).length = l.length := List.length_map ..
  have ha : (Ar.mk t mn mx).bk = t.bk + 2 := by rw [Ar.bk]
  have hab := arrT_bk (.mk t mn mx)
  have hvb := arV_bk l
  have r1 := rsAll_ret g l (by omega)
  have r2 := rsT_ret g (arrT (.mk t mn mx)) (by omega)
  rw [Ty.av_eq] at r2
  refine Ret.mk h rfl ?_
  rw [Ty.av_eq]
  rw [arrT] at r2
  simp only [Ty.all, Ty.nul, Ty.fls, Ty.tru, Ty.nums, Ty.anyText, Ty.texts, Ty.arrays, Ty.objects, List.map_cons, List.map_nil, Ar.row_eq, Ar.item, Ar.min, Ar.max, sprow, srow] at r2
  cases hA : l.all formed
  · rw [hA] at r1
    repeat' (first | refine zA ?_ | refine WQ.cl hk.modes ?_ | refine W1.cl hk.modes (rk) ?_ | refine WQ.cl g.p2.modes ?_ | refine W1.cl g.p2.modes (r1) ?_ | refine WQ.cl g.q1.modes ?_ | refine W1.cl g.q1.modes (r2) ?_ | refine zB ?_ | (refine zC ?_ ?_ <;> intro hc; all_goals first | (cases hc; done) | ((try simp only [hc]); (try simp only [bm] at hc))) | refine zE ?_ | refine zNZ ?_ | fail)
    all_goals first | exact Qend.boo rfl rfl rfl | (exfalso; simp_all; done) | trace_state
  rw [hA] at r1
  cases hT : tformed (arrT (.mk t mn mx))
  · rw [arrT] at hT
    rw [hT] at r2
    repeat' (first | refine zA ?_ | refine WQ.cl hk.modes ?_ | refine W1.cl hk.modes (rk) ?_ | refine WQ.cl g.p2.modes ?_ | refine W1.cl g.p2.modes (r1) ?_ | refine WQ.cl g.q1.modes ?_ | refine W1.cl g.q1.modes (r2) ?_ | refine zB ?_ | (refine zC ?_ ?_ <;> intro hc; all_goals first | (cases hc; done) | ((try simp only [hc]); (try simp only [bm] at hc))) | refine zE ?_ | refine zNZ ?_ | fail)
    all_goals first | exact Qend.boo rfl rfl rfl | (exfalso; simp_all; done) | trace_state
  have ht : tformed t = true := (tformed_parts hT).2.1 _ (List.mem_singleton.2 rfl)
  have r3 := memIn_ret f (arV l) (arrT (.mk t mn mx)) (by omega) (by omega) (arV_formed hA) hT
  rw [arV_in, inArB_fit] at r3
  rw [V.av_eq, Ty.av_eq, arrT, arV] at r3
  simp only [Ty.all, Ty.nul, Ty.fls, Ty.tru, Ty.nums, Ty.anyText, Ty.texts, Ty.arrays, Ty.objects, List.map_cons, List.map_nil, Ar.row_eq, Ar.item, Ar.min, Ar.max, sprow, srow, V.kind, V.num, V.text, V.items, V.keys] at r3
  rw [arrT] at hT
  rw [hT] at r2
  have e0 : fitB l.length mn mx = (decide ((l.length : Int) ≥ mn) && (decide (mx < 0) || decide ((l.length : Int) ≤ mx))) := rfl
  generalize fitB l.length mn mx = f0 at *
  repeat' (first | refine zA ?_ | refine WQ.cl hk.modes ?_ | refine W1.cl hk.modes (rk) ?_ | refine WQ.cl g.p2.modes ?_ | refine W1.cl g.p2.modes (r1) ?_ | refine WQ.cl g.q1.modes ?_ | refine W1.cl g.q1.modes (r2) ?_ | refine zB ?_ | (refine zC ?_ ?_ <;> intro hc; all_goals first | (cases hc; done) | ((try simp only [hc]); (try simp only [bm] at hc))) | refine zE ?_ | refine zNZ ?_ | fail)
  all_goals first | (exfalso; simp_all; done) | skip
  all_goals clear r1 r2 rk
  all_goals first
    | (have e1 : f0 = decide ((l.length : Int) ≤ mx) := by (rw [e0, Bool.eq_iff_iff]; simp only [Bool.and_eq_true, Bool.or_eq_true, decide_eq_true_eq, iff_true, iff_false, Bool.false_eq_true]; omega)
       refine W.listP l (fun i (b : Bool) s => (s.put 10 (.av (.bool b))).put 11 (.av (.int .i64 (i : Int)))) (fun i b => b = (f0 && (l.take i).all fun x => inT x t)) f0 (by simp) (by rw [e1]; rfl) ?_ ?_)
    | (have e1 : f0 = true := by (rw [e0, Bool.eq_iff_iff]; simp only [Bool.and_eq_true, Bool.or_eq_true, decide_eq_true_eq, iff_true, iff_false, Bool.false_eq_true]; omega)
       refine W.listP l (fun i (b : Bool) s => (s.put 10 (.av (.bool b))).put 11 (.av (.int .i64 (i : Int)))) (fun i b => b = (f0 && (l.take i).all fun x => inT x t)) f0 (by simp) (by rw [e1]; rfl) ?_ ?_)
    | (have e1 : f0 = false := by (rw [e0, Bool.eq_iff_iff]; simp only [Bool.and_eq_true, Bool.or_eq_true, decide_eq_true_eq, iff_true, iff_false, Bool.false_eq_true]; omega)
       refine W.listP l (fun i (b : Bool) s => (s.put 10 (.av (.bool b))).put 11 (.av (.int .i64 (i : Int)))) (fun i b => b = (f0 && (l.take i).all fun x => inT x t)) f0 (by simp) (by rw [e1]; rfl) ?_ ?_)
    | trace_state
  all_goals clear e0 e1
  all_goals first
    | (intro i x b hx hi hp
       have r := memIn_ret f x t (by have := mbks_le (List.mem_of_getElem? hx); omega) (by omega) (List.all_eq_true.1 hA x (List.mem_of_getElem? hx)) ht
       rw [V.av_eq, Ty.av_eq] at r
       have hq : (f0 && (l.take (i + 1)).all fun x => inT x t) = (b && inT x t) := by rw [all_take_succ hx, ← Bool.and_assoc, ← hp]
       generalize inT x t = c at *
       cases b <;> cases c
       all_goals skip
       repeat' (first | refine zA ?_ | refine WQ.cl f.a1.modes ?_ | refine W1.cl f.a1.modes (r) ?_ | (refine WQ.cl f.a1.modes ?_) | refine zB ?_ | (refine zC ?_ ?_ <;> intro hc; all_goals first | (cases hc; done) | ((try simp only [hc]); (try simp only [bm] at hc))) | refine zE ?_ | refine zNZ ?_ | fail)
       all_goals exact ⟨_, hq.symm, rfl⟩)
    | (intro b hp
       rw [List.take_length] at hp
       rw [← hp] at r3
       repeat' (first | refine zA ?_ | refine WQ.cl f.a1.modes ?_ | refine W1.cl f.a1.modes (r3) ?_ | refine zB ?_ | (refine zC ?_ ?_ <;> intro hc; all_goals first | (cases hc; done) | ((try simp only [hc]); (try simp only [bm] at hc))) | refine zE ?_ | refine zNZ ?_ | fail)
       all_goals first | (refine Qend.boo rfl rfl ?_; simp; done) | trace_state)
    | trace_state
end
end Hm
