/- What the law answers on the abstract machine. Conditions: see each theorem. -/
import Derived.Test.YtkjppfdcnfiaeaaDoorVOrdT1
set_option linter.unusedVariables false
set_option linter.unusedSimpArgs false
/- Which types are well shaped, as the program's reference has it. Conditions: see each theorem. -/
namespace Hm
open Go (IntKind)
set_option maxHeartbeats 4000000
set_option maxRecDepth 4000
mutual
def tformed : Ty → Bool
  | .mk a n f t ns at' ts as os => !(a && !bare (.mk a n f t ns at' ts as os)) && !(!rise ts || (at' && decide (0 < ts.length))) && (spansOk ns && (decide (as.length ≤ 1) && arsOk as && obsOk os))
def arOk : Ar → Bool
  | .mk i mn mx => !(decide (mn < 0) || decide (mx < -1) || (decide (mx ≥ 0) && decide (mx < mn))) && (tformed i && never i == decide (mx = 0))
def obOk : Ob → Bool
  | .mk ns fs ms r => decide (ns.length = fs.length) && decide (ns.length = ms.length) && rise ns && tformed r && fieldsOk fs ms
def arsOk : List Ar → Bool
  | [] => true
  | x :: r => arOk x && arsOk r
def obsOk : List Ob → Bool
  | [] => true
  | x :: r => obOk x && obsOk r
def fieldsOk : List Ty → List Bool → Bool
  | [], _ => true
  | f :: fs, ms => tformed f && !(ms.headD false && never f) && fieldsOk fs ms.tail
end
theorem arsOk_eq (l : List Ar) : arsOk l = l.all arOk := by
  induction l with
  | nil => rfl
  | cons x l ih => simp only [arsOk, List.all_cons, ih]
theorem obsOk_eq (l : List Ob) : obsOk l = l.all obOk := by
  induction l with
  | nil => rfl
  | cons x l ih => simp only [obsOk, List.all_cons, ih]
theorem tformed_eq (v : Ty) : tformed v = (!(v.all && !bare v) && !(!rise v.texts || (v.anyText && decide (0 < v.texts.length))) && (spansOk v.nums && (decide (v.arrays.length ≤ 1) && v.arrays.all arOk && v.objects.all obOk))) := by
  cases v; simp only [tformed, arsOk_eq, obsOk_eq, Ty.all, Ty.texts, Ty.anyText, Ty.nums, Ty.arrays, Ty.objects]; rfl
theorem arOk_eq (x : Ar) : arOk x = (!(decide (x.min < 0) || decide (x.max < -1) || (decide (x.max ≥ 0) && decide (x.max < x.min))) && (tformed x.item && never x.item == decide (x.max = 0))) := by
  cases x; simp only [arOk, Ar.min, Ar.max, Ar.item]; rfl
theorem obOk_eq (x : Ob) : obOk x = (decide (x.names.length = x.fields.length) && decide (x.names.length = x.must.length) && rise x.names && tformed x.rest && fieldsOk x.fields x.must) := by
  cases x; simp only [obOk, Ob.names, Ob.fields, Ob.must, Ob.rest]; rfl
theorem fieldsOk_take_succ : ∀ {l : List Ty} {ms : List Bool} {i : Nat} {x : Ty} {b : Bool}, l[i]? = some x → ms[i]? = some b → fieldsOk (l.take (i + 1)) ms = (fieldsOk (l.take i) ms && (tformed x && !(b && never x)))
  | [], ms, i, x, b, h, _ => by simp at h
  | y :: l, [], i, x, b, _, h => by simp at h
  | y :: l, m :: ms, 0, x, b, h, h' => by
    simp only [List.getElem?_cons_zero, Option.some.injEq] at h h'
    subst h h'
    simp [fieldsOk]
  | y :: l, m :: ms, i + 1, x, b, h, h' => by
    simp only [List.getElem?_cons_succ] at h h'
    have := fieldsOk_take_succ h h'
    simp only [List.take_succ_cons, fieldsOk, List.tail_cons, this, Bool.and_assoc]
theorem fieldsOk_split : ∀ (l : List Ty) (ms : List Bool) (i : Nat), fieldsOk l ms = (fieldsOk (l.take i) ms && fieldsOk (l.drop i) (ms.drop i))
  | [], ms, i => by simp [fieldsOk]
  | y :: l, ms, 0 => by simp [fieldsOk]
  | y :: l, [], i + 1 => by
    have := fieldsOk_split l [] i
    simp only [List.drop_nil] at this
    simp only [List.take_succ_cons, List.drop_succ_cons, fieldsOk, List.tail_nil, List.drop_nil]
    rw [this, Bool.and_assoc]; simp [Bool.and_assoc]
  | y :: l, m :: ms, i + 1 => by
    have := fieldsOk_split l ms i
    simp only [List.take_succ_cons, List.drop_succ_cons, fieldsOk, List.tail_cons, this, Bool.and_assoc]
theorem fieldsOk_false {l : List Ty} {ms : List Bool} {i : Nat} {x : Ty} {b : Bool} (h : l[i]? = some x) (hm : ms[i]? = some b) (hx : (tformed x && !(b && never x)) = false) : fieldsOk l ms = false := by
  rw [fieldsOk_split l ms (i + 1), fieldsOk_take_succ h hm, hx]; simp
def Formed9 (T : Tab) (v : Ty) : Prop := Ret T F.hallmarkref09_Formed [.val v.av] (one (.bool (tformed v)))
theorem refArrays_of {T : Tab} (h : Fn T F.hallmarkref09_arrays hallmarkref09_arrays.fn) (hf : Fn T F.hallmarkref09_Formed hallmarkref09_Formed.fn) (h1 : Fn T F.hallmarkref09_Never hallmarkref09_Never.fn) (h2 : Fn T F.hallmarkref09_Bare hallmarkref09_Bare.fn)
    (l : List Ar) (hb : arBks l ≤ 1073741824) (ih : ∀ x ∈ l, Formed9 T x.item) : Ret T F.hallmarkref09_arrays [.val (.lst 11 (l.map Ar.row))] (one (.bool (decide (l.length ≤ 1) && l.all arOk))) := by
  refine Ret.mk h rfl ?_
  have hl := len_arBks l
  have e1 : (l.map Ar.row).length = l.length := List.length_map ..
  have z : ∀ n : Int, (n == 0) = decide (n = 0) := fun n => by rw [Bool.eq_iff_iff]; simp
  by_cases hle : l.length ≤ 1
  · have hd : decide (l.length ≤ 1) = true := decide_eq_true hle
    rw [hd, Bool.true_and]
    repeat' (first | refine WO.cons ?_ | refine WB.cons ?_ | refine WP.one ?_ | ((first | apply W1.add64 | apply W1.sub64); (iterate 3 exact rfl); omega; omega) | (apply W1.iadr; (iterate 3 exact rfl); omega; first | assumption | ((first | apply V.get_row | apply get_srow | apply get_ty | apply get_ar | apply get_ob | apply get_sprow | apply get_brow); assumption)) | (apply W1.idxS; (iterate 3 exact rfl); omega; omega) | (apply W1.slcS; (iterate 4 exact rfl); omega) | (apply W1.pickT; exact rfl; exact rfl; (first | with_reducible rfl | assumption | (simp only [bn]; first | omega | assumption | decide)); exact rfl) | (apply W1.pickF; exact rfl; exact rfl; (first | with_reducible rfl | assumption | (simp only [bn]; first | omega | assumption | decide)); exact rfl) | (apply W1.op; (iterate 3 exact rfl)) | (apply W1.no; exact rfl) | ((first | apply W1.knowT | apply W1.knowFn | apply WQ.knowT | apply WQ.knowFn | apply W.condT); exact rfl; (first | with_reducible rfl | assumption | (simp only [bn]; first | omega | assumption | decide))) | ((first | apply W1.knowTn | apply W1.knowF | apply WQ.knowTn | apply WQ.knowF | apply W.condF); exact rfl; (first | with_reducible rfl | assumption | (simp only [bn]; first | omega | assumption | decide))) | (apply WQ.go; exact rfl; exact rfl) | (apply WQ.no; exact rfl) | ((first | apply W1.bothT | apply W1.bothF | apply WQ.bothT | apply WQ.bothF | apply W.cond); exact rfl; all_goals intro hc; all_goals first | (cases hc; done) | ((try simp only [hc]); (try simp only [bm] at hc))) | refine WO.nil ?_ | refine WB.nil ?_ | refine WP.bag rfl ?_ | refine WP.nil ?_ | refine W.seq ?_ | refine W.reg ?_ | refine W.dreg ?_ | refine W.block ?_ | refine W.ret ?_ | refine W.skip ?_ | refine W.exit ?_ | (simp only [sprow_len, brow_len, srow_len, List.length_map, Qit, Int.toNat_natCast, entry, Opd.eat, cellsOf, TV.ofCells, allAv, Qseq, Qblk, List.map_cons, List.map_nil, putD, kp, Nat.reduceEqDiff, ↓reduceIte, beq_self_eq_true, Nat.reduceBEq]))
    refine W.listP l (fun i (_ : Unit) s => s.put 3 (.av (.int .i64 (i : Int)))) (fun i _ => (l.take i).all arOk = true) () (by simp) rfl ?_ ?_
    · intro i x u hx hi hp
      have r1 := ih x (List.mem_of_getElem? hx)
      have r2 := refNever_ret h1 h2 x.item
      rw [Formed9, Ty.av_eq] at r1
      rw [Ty.av_eq] at r2
      repeat' (first | refine WO.cons ?_ | refine WB.cons ?_ | refine WP.one ?_ | (first | (apply WQ.call (hm := hf.modes); (iterate 4 exact rfl)) | (apply W1.callV (hm := hf.modes); (iterate 5 exact rfl); exact (r1); exact rfl)) | (first | (apply WQ.call (hm := h1.modes); (iterate 4 exact rfl)) | (apply W1.callV (hm := h1.modes); (iterate 5 exact rfl); exact (r2); exact rfl)) | ((first | apply W1.add64 | apply W1.sub64); (iterate 3 exact rfl); omega; omega) | (apply W1.iadr; (iterate 3 exact rfl); omega; first | assumption | ((first | apply V.get_row | apply get_srow | apply get_ty | apply get_ar | apply get_ob | apply get_sprow | apply get_brow); assumption)) | (apply W1.idxS; (iterate 3 exact rfl); omega; omega) | (apply W1.slcS; (iterate 4 exact rfl); omega) | (apply W1.pickT; exact rfl; exact rfl; (first | with_reducible rfl | assumption | (simp only [bn]; first | omega | assumption | decide)); exact rfl) | (apply W1.pickF; exact rfl; exact rfl; (first | with_reducible rfl | assumption | (simp only [bn]; first | omega | assumption | decide)); exact rfl) | (apply W1.op; (iterate 3 exact rfl)) | (apply W1.no; exact rfl) | ((first | apply W1.knowT | apply W1.knowFn | apply WQ.knowT | apply WQ.knowFn | apply W.condT); exact rfl; (first | with_reducible rfl | assumption | (simp only [bn]; first | omega | assumption | decide))) | ((first | apply W1.knowTn | apply W1.knowF | apply WQ.knowTn | apply WQ.knowF | apply W.condF); exact rfl; (first | with_reducible rfl | assumption | (simp only [bn]; first | omega | assumption | decide))) | (apply WQ.go; exact rfl; exact rfl) | (apply WQ.no; exact rfl) | ((first | apply W1.bothT | apply W1.bothF | apply WQ.bothT | apply WQ.bothF | apply W.cond); exact rfl; all_goals intro hc; all_goals first | (cases hc; done) | ((try simp only [hc]); (try simp only [bm] at hc))) | refine WO.nil ?_ | refine WB.nil ?_ | refine WP.bag rfl ?_ | refine WP.nil ?_ | refine W.seq ?_ | refine W.reg ?_ | refine W.dreg ?_ | refine W.block ?_ | refine W.ret ?_ | refine W.skip ?_ | refine W.exit ?_ | (simp only [sprow_len, brow_len, srow_len, List.length_map, Qit, Int.toNat_natCast, entry, Opd.eat, cellsOf, TV.ofCells, allAv, Qseq, Qblk, List.map_cons, List.map_nil, putD, kp, Nat.reduceEqDiff, ↓reduceIte, beq_self_eq_true, Nat.reduceBEq]))
      all_goals clear r1 r2 ih
      all_goals first
        | (exfalso; simp_all; done)
        | (refine ⟨(), ?_, rfl⟩; rw [all_take_succ hx, hp, arOk_eq]; simp_all; done)
        | (refine ⟨(), ?_, rfl⟩; rw [all_take_succ hx, hp, arOk_eq]; simp_all; omega)
        | (refine Qend.boo rfl rfl ?_; rw [all_false hx (by rw [arOk_eq]; simp_all; done)]; done)
        | (refine Qend.boo rfl rfl ?_; rw [all_false hx (by rw [arOk_eq]; simp_all; omega)]; done)
        | skip
    · intro u hp
      rw [List.take_length] at hp
      repeat' (first | refine WO.cons ?_ | refine WB.cons ?_ | refine WP.one ?_ | ((first | apply W1.add64 | apply W1.sub64); (iterate 3 exact rfl); omega; omega) | (apply W1.iadr; (iterate 3 exact rfl); omega; first | assumption | ((first | apply V.get_row | apply get_srow | apply get_ty | apply get_ar | apply get_ob | apply get_sprow | apply get_brow); assumption)) | (apply W1.idxS; (iterate 3 exact rfl); omega; omega) | (apply W1.slcS; (iterate 4 exact rfl); omega) | (apply W1.pickT; exact rfl; exact rfl; (first | with_reducible rfl | assumption | (simp only [bn]; first | omega | assumption | decide)); exact rfl) | (apply W1.pickF; exact rfl; exact rfl; (first | with_reducible rfl | assumption | (simp only [bn]; first | omega | assumption | decide)); exact rfl) | (apply W1.op; (iterate 3 exact rfl)) | (apply W1.no; exact rfl) | ((first | apply W1.knowT | apply W1.knowFn | apply WQ.knowT | apply WQ.knowFn | apply W.condT); exact rfl; (first | with_reducible rfl | assumption | (simp only [bn]; first | omega | assumption | decide))) | ((first | apply W1.knowTn | apply W1.knowF | apply WQ.knowTn | apply WQ.knowF | apply W.condF); exact rfl; (first | with_reducible rfl | assumption | (simp only [bn]; first | omega | assumption | decide))) | (apply WQ.go; exact rfl; exact rfl) | (apply WQ.no; exact rfl) | ((first | apply W1.bothT | apply W1.bothF | apply WQ.bothT | apply WQ.bothF | apply W.cond); exact rfl; all_goals intro hc; all_goals first | (cases hc; done) | ((try simp only [hc]); (try simp only [bm] at hc))) | refine WO.nil ?_ | refine WB.nil ?_ | refine WP.bag rfl ?_ | refine WP.nil ?_ | refine W.seq ?_ | refine W.reg ?_ | refine W.dreg ?_ | refine W.block ?_ | refine W.ret ?_ | refine W.skip ?_ | refine W.exit ?_ | (simp only [sprow_len, brow_len, srow_len, List.length_map, Qit, Int.toNat_natCast, entry, Opd.eat, cellsOf, TV.ofCells, allAv, Qseq, Qblk, List.map_cons, List.map_nil, putD, kp, Nat.reduceEqDiff, ↓reduceIte, beq_self_eq_true, Nat.reduceBEq]))
      refine Qend.boo rfl rfl ?_
      rw [hp]
  · have hd : decide (l.length ≤ 1) = false := decide_eq_false hle
    repeat' (first | refine WO.cons ?_ | refine WB.cons ?_ | refine WP.one ?_ | ((first | apply W1.add64 | apply W1.sub64); (iterate 3 exact rfl); omega; omega) | (apply W1.iadr; (iterate 3 exact rfl); omega; first | assumption | ((first | apply V.get_row | apply get_srow | apply get_ty | apply get_ar | apply get_ob | apply get_sprow | apply get_brow); assumption)) | (apply W1.idxS; (iterate 3 exact rfl); omega; omega) | (apply W1.slcS; (iterate 4 exact rfl); omega) | (apply W1.pickT; exact rfl; exact rfl; (first | with_reducible rfl | assumption | (simp only [bn]; first | omega | assumption | decide)); exact rfl) | (apply W1.pickF; exact rfl; exact rfl; (first | with_reducible rfl | assumption | (simp only [bn]; first | omega | assumption | decide)); exact rfl) | (apply W1.op; (iterate 3 exact rfl)) | (apply W1.no; exact rfl) | ((first | apply W1.knowT | apply W1.knowFn | apply WQ.knowT | apply WQ.knowFn | apply W.condT); exact rfl; (first | with_reducible rfl | assumption | (simp only [bn]; first | omega | assumption | decide))) | ((first | apply W1.knowTn | apply W1.knowF | apply WQ.knowTn | apply WQ.knowF | apply W.condF); exact rfl; (first | with_reducible rfl | assumption | (simp only [bn]; first | omega | assumption | decide))) | (apply WQ.go; exact rfl; exact rfl) | (apply WQ.no; exact rfl) | ((first | apply W1.bothT | apply W1.bothF | apply WQ.bothT | apply WQ.bothF | apply W.cond); exact rfl; all_goals intro hc; all_goals first | (cases hc; done) | ((try simp only [hc]); (try simp only [bm] at hc))) | refine WO.nil ?_ | refine WB.nil ?_ | refine WP.bag rfl ?_ | refine WP.nil ?_ | refine W.seq ?_ | refine W.reg ?_ | refine W.dreg ?_ | refine W.block ?_ | refine W.ret ?_ | refine W.skip ?_ | refine W.exit ?_ | (simp only [sprow_len, brow_len, srow_len, List.length_map, Qit, Int.toNat_natCast, entry, Opd.eat, cellsOf, TV.ofCells, allAv, Qseq, Qblk, List.map_cons, List.map_nil, putD, kp, Nat.reduceEqDiff, ↓reduceIte, beq_self_eq_true, Nat.reduceBEq]))
    refine Qend.boo rfl rfl ?_
    rw [hd]; rfl
theorem refObject_of {T : Tab} (h : Fn T F.hallmarkref09_object hallmarkref09_object.fn) (hf : Fn T F.hallmarkref09_Formed hallmarkref09_Formed.fn) (h1 : Fn T F.hallmarkref09_Never hallmarkref09_Never.fn) (h2 : Fn T F.hallmarkref09_Bare hallmarkref09_Bare.fn)
    (h3 : Fn T F.hallmarkref03_Rise hallmarkref03_Rise.fn) (h4 : Fn T F.hallmarkref03_UTF hallmarkref03_UTF.fn) (h5 : Fn T F.hallmarkref03_width hallmarkref03_width.fn) (h6 : Fn T F.hallmarkref03_trail hallmarkref03_trail.fn)
    (o : Ob) (hb : o.bk ≤ 1073741824) (ih : ∀ x ∈ o.fields, Formed9 T x) (ihr : Formed9 T o.rest) : Ret T F.hallmarkref09_object [.val (.agg o.row)] (one (.bool (obOk o))) := by
  refine Ret.mk h rfl ?_
  have hbk := Ob.bk_eq o
  have l1 := len_sbk o.names
  have l2 := len_tyBks o.fields
  have e1 := srow_len o.names
  have e2 := brow_len o.must
  have e3 : (o.fields.map Ty.row).length = o.fields.length := List.length_map ..
  have r0 := refRise_ret h3 h4 h5 h6 o.names (by omega)
  have r1 := ihr
  rw [Formed9, Ty.av_eq] at r1
  rw [Ob.row_eq]
  have hoe := obOk_eq o
  by_cases hn : o.names.length = o.fields.length ∧ o.names.length = o.must.length ∧ rise o.names = true ∧ tformed o.rest = true
  · obtain ⟨n1, n2, n3, n4⟩ := hn
    have hoe' : obOk o = fieldsOk o.fields o.must := by rw [hoe]; simp [← n1, ← n2, n3, n4]
    rw [hoe']
    repeat' (first | refine WO.cons ?_ | refine WB.cons ?_ | refine WP.one ?_ | (first | (apply WQ.call (hm := h3.modes); (iterate 4 exact rfl)) | (apply W1.callV (hm := h3.modes); (iterate 5 exact rfl); exact (r0); exact rfl)) | (first | (apply WQ.call (hm := hf.modes); (iterate 4 exact rfl)) | (apply W1.callV (hm := hf.modes); (iterate 5 exact rfl); exact (r1); exact rfl)) | ((first | apply W1.add64 | apply W1.sub64); (iterate 3 exact rfl); omega; omega) | (apply W1.iadr; (iterate 3 exact rfl); omega; first | assumption | ((first | apply V.get_row | apply get_srow | apply get_ty | apply get_ar | apply get_ob | apply get_sprow | apply get_brow); assumption)) | (apply W1.idxS; (iterate 3 exact rfl); omega; omega) | (apply W1.slcS; (iterate 4 exact rfl); omega) | (apply W1.pickT; exact rfl; exact rfl; (first | with_reducible rfl | assumption | (simp only [bn]; first | omega | assumption | decide)); exact rfl) | (apply W1.pickF; exact rfl; exact rfl; (first | with_reducible rfl | assumption | (simp only [bn]; first | omega | assumption | decide)); exact rfl) | (apply W1.op; (iterate 3 exact rfl)) | (apply W1.no; exact rfl) | ((first | apply W1.knowT | apply W1.knowFn | apply WQ.knowT | apply WQ.knowFn | apply W.condT); exact rfl; (first | with_reducible rfl | assumption | (simp only [bn]; first | omega | assumption | decide))) | ((first | apply W1.knowTn | apply W1.knowF | apply WQ.knowTn | apply WQ.knowF | apply W.condF); exact rfl; (first | with_reducible rfl | assumption | (simp only [bn]; first | omega | assumption | decide))) | (apply WQ.go; exact rfl; exact rfl) | (apply WQ.no; exact rfl) | ((first | apply W1.bothT | apply W1.bothF | apply WQ.bothT | apply WQ.bothF | apply W.cond); exact rfl; all_goals intro hc; all_goals first | (cases hc; done) | ((try simp only [hc]); (try simp only [bm] at hc))) | refine WO.nil ?_ | refine WB.nil ?_ | refine WP.bag rfl ?_ | refine WP.nil ?_ | refine W.seq ?_ | refine W.reg ?_ | refine W.dreg ?_ | refine W.block ?_ | refine W.ret ?_ | refine W.skip ?_ | refine W.exit ?_ | (simp only [sprow_len, brow_len, srow_len, List.length_map, Qit, Int.toNat_natCast, entry, Opd.eat, cellsOf, TV.ofCells, allAv, Qseq, Qblk, List.map_cons, List.map_nil, putD, kp, Nat.reduceEqDiff, ↓reduceIte, beq_self_eq_true, Nat.reduceBEq]))
    all_goals first | (exfalso; clear r0 r1; simp_all; done) | (exfalso; omega) | skip
    refine W.listP o.fields (fun i (_ : Unit) s => s.put 3 (.av (.int .i64 (i : Int)))) (fun i _ => fieldsOk (o.fields.take i) o.must = true) () (by simp [fieldsOk]) rfl ?_ ?_
    · intro i x u hx hi hp
      obtain ⟨b, hbm⟩ : ∃ b, o.must[i]? = some b := ⟨o.must[i]'(by omega), List.getElem?_eq_getElem (by omega)⟩
      have r2 := ih x (List.mem_of_getElem? hx)
      have r3 := refNever_ret h1 h2 x
      rw [Formed9, Ty.av_eq] at r2
      rw [Ty.av_eq] at r3
      repeat' (first | refine WO.cons ?_ | refine WB.cons ?_ | refine WP.one ?_ | (first | (apply WQ.call (hm := hf.modes); (iterate 4 exact rfl)) | (apply W1.callV (hm := hf.modes); (iterate 5 exact rfl); exact (r2); exact rfl)) | (first | (apply WQ.call (hm := h1.modes); (iterate 4 exact rfl)) | (apply W1.callV (hm := h1.modes); (iterate 5 exact rfl); exact (r3); exact rfl)) | ((first | apply W1.add64 | apply W1.sub64); (iterate 3 exact rfl); omega; omega) | (apply W1.iadr; (iterate 3 exact rfl); omega; first | assumption | ((first | apply V.get_row | apply get_srow | apply get_ty | apply get_ar | apply get_ob | apply get_sprow | apply get_brow); assumption)) | (apply W1.idxS; (iterate 3 exact rfl); omega; omega) | (apply W1.slcS; (iterate 4 exact rfl); omega) | (apply W1.pickT; exact rfl; exact rfl; (first | with_reducible rfl | assumption | (simp only [bn]; first | omega | assumption | decide)); exact rfl) | (apply W1.pickF; exact rfl; exact rfl; (first | with_reducible rfl | assumption | (simp only [bn]; first | omega | assumption | decide)); exact rfl) | (apply W1.op; (iterate 3 exact rfl)) | (apply W1.no; exact rfl) | ((first | apply W1.knowT | apply W1.knowFn | apply WQ.knowT | apply WQ.knowFn | apply W.condT); exact rfl; (first | with_reducible rfl | assumption | (simp only [bn]; first | omega | assumption | decide))) | ((first | apply W1.knowTn | apply W1.knowF | apply WQ.knowTn | apply WQ.knowF | apply W.condF); exact rfl; (first | with_reducible rfl | assumption | (simp only [bn]; first | omega | assumption | decide))) | (apply WQ.go; exact rfl; exact rfl) | (apply WQ.no; exact rfl) | ((first | apply W1.bothT | apply W1.bothF | apply WQ.bothT | apply WQ.bothF | apply W.cond); exact rfl; all_goals intro hc; all_goals first | (cases hc; done) | ((try simp only [hc]); (try simp only [bm] at hc))) | refine WO.nil ?_ | refine WB.nil ?_ | refine WP.bag rfl ?_ | refine WP.nil ?_ | refine W.seq ?_ | refine W.reg ?_ | refine W.dreg ?_ | refine W.block ?_ | refine W.ret ?_ | refine W.skip ?_ | refine W.exit ?_ | (simp only [sprow_len, brow_len, srow_len, List.length_map, Qit, Int.toNat_natCast, entry, Opd.eat, cellsOf, TV.ofCells, allAv, Qseq, Qblk, List.map_cons, List.map_nil, putD, kp, Nat.reduceEqDiff, ↓reduceIte, beq_self_eq_true, Nat.reduceBEq]))
      all_goals clear r0 r1 r2 r3 ih ihr
      all_goals first
        | (refine Qend.boo rfl rfl ?_; rw [fieldsOk_false hx hbm (by simp_all)]; done)
        | (refine ⟨(), ?_, rfl⟩; rw [fieldsOk_take_succ hx hbm, hp]; simp_all; done)
        | (exfalso; simp_all; done)
        | skip
    · intro u hp
      rw [List.take_length] at hp
      repeat' (first | refine WO.cons ?_ | refine WB.cons ?_ | refine WP.one ?_ | ((first | apply W1.add64 | apply W1.sub64); (iterate 3 exact rfl); omega; omega) | (apply W1.iadr; (iterate 3 exact rfl); omega; first | assumption | ((first | apply V.get_row | apply get_srow | apply get_ty | apply get_ar | apply get_ob | apply get_sprow | apply get_brow); assumption)) | (apply W1.idxS; (iterate 3 exact rfl); omega; omega) | (apply W1.slcS; (iterate 4 exact rfl); omega) | (apply W1.pickT; exact rfl; exact rfl; (first | with_reducible rfl | assumption | (simp only [bn]; first | omega | assumption | decide)); exact rfl) | (apply W1.pickF; exact rfl; exact rfl; (first | with_reducible rfl | assumption | (simp only [bn]; first | omega | assumption | decide)); exact rfl) | (apply W1.op; (iterate 3 exact rfl)) | (apply W1.no; exact rfl) | ((first | apply W1.knowT | apply W1.knowFn | apply WQ.knowT | apply WQ.knowFn | apply W.condT); exact rfl; (first | with_reducible rfl | assumption | (simp only [bn]; first | omega | assumption | decide))) | ((first | apply W1.knowTn | apply W1.knowF | apply WQ.knowTn | apply WQ.knowF | apply W.condF); exact rfl; (first | with_reducible rfl | assumption | (simp only [bn]; first | omega | assumption | decide))) | (apply WQ.go; exact rfl; exact rfl) | (apply WQ.no; exact rfl) | ((first | apply W1.bothT | apply W1.bothF | apply WQ.bothT | apply WQ.bothF | apply W.cond); exact rfl; all_goals intro hc; all_goals first | (cases hc; done) | ((try simp only [hc]); (try simp only [bm] at hc))) | refine WO.nil ?_ | refine WB.nil ?_ | refine WP.bag rfl ?_ | refine WP.nil ?_ | refine W.seq ?_ | refine W.reg ?_ | refine W.dreg ?_ | refine W.block ?_ | refine W.ret ?_ | refine W.skip ?_ | refine W.exit ?_ | (simp only [sprow_len, brow_len, srow_len, List.length_map, Qit, Int.toNat_natCast, entry, Opd.eat, cellsOf, TV.ofCells, allAv, Qseq, Qblk, List.map_cons, List.map_nil, putD, kp, Nat.reduceEqDiff, ↓reduceIte, beq_self_eq_true, Nat.reduceBEq]))
      refine Qend.boo rfl rfl ?_
      rw [hp]
  · have hoe' : obOk o = false := by
      rw [hoe, Bool.eq_false_iff]
      intro hc
      simp only [Bool.and_eq_true, decide_eq_true_eq] at hc
      exact hn ⟨hc.1.1.1.1, hc.1.1.1.2, hc.1.1.2, hc.1.2⟩
    rw [hoe']
    by_cases n1 : o.names.length = o.fields.length
    · by_cases n2 : o.names.length = o.must.length
      · by_cases n3 : rise o.names = true
        · have n4 : tformed o.rest = false := by
            rw [Bool.eq_false_iff]; exact fun hc => hn ⟨n1, n2, n3, hc⟩
          repeat' (first | refine WO.cons ?_ | refine WB.cons ?_ | refine WP.one ?_ | (first | (apply WQ.call (hm := h3.modes); (iterate 4 exact rfl)) | (apply W1.callV (hm := h3.modes); (iterate 5 exact rfl); exact (r0); exact rfl)) | (first | (apply WQ.call (hm := hf.modes); (iterate 4 exact rfl)) | (apply W1.callV (hm := hf.modes); (iterate 5 exact rfl); exact (r1); exact rfl)) | ((first | apply W1.add64 | apply W1.sub64); (iterate 3 exact rfl); omega; omega) | (apply W1.iadr; (iterate 3 exact rfl); omega; first | assumption | ((first | apply V.get_row | apply get_srow | apply get_ty | apply get_ar | apply get_ob | apply get_sprow | apply get_brow); assumption)) | (apply W1.idxS; (iterate 3 exact rfl); omega; omega) | (apply W1.slcS; (iterate 4 exact rfl); omega) | (apply W1.pickT; exact rfl; exact rfl; (first | with_reducible rfl | assumption | (simp only [bn]; first | omega | assumption | decide)); exact rfl) | (apply W1.pickF; exact rfl; exact rfl; (first | with_reducible rfl | assumption | (simp only [bn]; first | omega | assumption | decide)); exact rfl) | (apply W1.op; (iterate 3 exact rfl)) | (apply W1.no; exact rfl) | ((first | apply W1.knowT | apply W1.knowFn | apply WQ.knowT | apply WQ.knowFn | apply W.condT); exact rfl; (first | with_reducible rfl | assumption | (simp only [bn]; first | omega | assumption | decide))) | ((first | apply W1.knowTn | apply W1.knowF | apply WQ.knowTn | apply WQ.knowF | apply W.condF); exact rfl; (first | with_reducible rfl | assumption | (simp only [bn]; first | omega | assumption | decide))) | (apply WQ.go; exact rfl; exact rfl) | (apply WQ.no; exact rfl) | ((first | apply W1.bothT | apply W1.bothF | apply WQ.bothT | apply WQ.bothF | apply W.cond); exact rfl; all_goals intro hc; all_goals first | (cases hc; done) | ((try simp only [hc]); (try simp only [bm] at hc))) | refine WO.nil ?_ | refine WB.nil ?_ | refine WP.bag rfl ?_ | refine WP.nil ?_ | refine W.seq ?_ | refine W.reg ?_ | refine W.dreg ?_ | refine W.block ?_ | refine W.ret ?_ | refine W.skip ?_ | refine W.exit ?_ | (simp only [sprow_len, brow_len, srow_len, List.length_map, Qit, Int.toNat_natCast, entry, Opd.eat, cellsOf, TV.ofCells, allAv, Qseq, Qblk, List.map_cons, List.map_nil, putD, kp, Nat.reduceEqDiff, ↓reduceIte, beq_self_eq_true, Nat.reduceBEq]))
          all_goals first | exact Qend.boo rfl rfl rfl | (exfalso; omega) | (exfalso; clear r0 r1; simp_all; done) | skip
        · rw [Bool.not_eq_true] at n3
          repeat' (first | refine WO.cons ?_ | refine WB.cons ?_ | refine WP.one ?_ | (first | (apply WQ.call (hm := h3.modes); (iterate 4 exact rfl)) | (apply W1.callV (hm := h3.modes); (iterate 5 exact rfl); exact (r0); exact rfl)) | (first | (apply WQ.call (hm := hf.modes); (iterate 4 exact rfl)) | (apply W1.callV (hm := hf.modes); (iterate 5 exact rfl); exact (r1); exact rfl)) | ((first | apply W1.add64 | apply W1.sub64); (iterate 3 exact rfl); omega; omega) | (apply W1.iadr; (iterate 3 exact rfl); omega; first | assumption | ((first | apply V.get_row | apply get_srow | apply get_ty | apply get_ar | apply get_ob | apply get_sprow | apply get_brow); assumption)) | (apply W1.idxS; (iterate 3 exact rfl); omega; omega) | (apply W1.slcS; (iterate 4 exact rfl); omega) | (apply W1.pickT; exact rfl; exact rfl; (first | with_reducible rfl | assumption | (simp only [bn]; first | omega | assumption | decide)); exact rfl) | (apply W1.pickF; exact rfl; exact rfl; (first | with_reducible rfl | assumption | (simp only [bn]; first | omega | assumption | decide)); exact rfl) | (apply W1.op; (iterate 3 exact rfl)) | (apply W1.no; exact rfl) | ((first | apply W1.knowT | apply W1.knowFn | apply WQ.knowT | apply WQ.knowFn | apply W.condT); exact rfl; (first | with_reducible rfl | assumption | (simp only [bn]; first | omega | assumption | decide))) | ((first | apply W1.knowTn | apply W1.knowF | apply WQ.knowTn | apply WQ.knowF | apply W.condF); exact rfl; (first | with_reducible rfl | assumption | (simp only [bn]; first | omega | assumption | decide))) | (apply WQ.go; exact rfl; exact rfl) | (apply WQ.no; exact rfl) | ((first | apply W1.bothT | apply W1.bothF | apply WQ.bothT | apply WQ.bothF | apply W.cond); exact rfl; all_goals intro hc; all_goals first | (cases hc; done) | ((try simp only [hc]); (try simp only [bm] at hc))) | refine WO.nil ?_ | refine WB.nil ?_ | refine WP.bag rfl ?_ | refine WP.nil ?_ | refine W.seq ?_ | refine W.reg ?_ | refine W.dreg ?_ | refine W.block ?_ | refine W.ret ?_ | refine W.skip ?_ | refine W.exit ?_ | (simp only [sprow_len, brow_len, srow_len, List.length_map, Qit, Int.toNat_natCast, entry, Opd.eat, cellsOf, TV.ofCells, allAv, Qseq, Qblk, List.map_cons, List.map_nil, putD, kp, Nat.reduceEqDiff, ↓reduceIte, beq_self_eq_true, Nat.reduceBEq]))
          all_goals first | exact Qend.boo rfl rfl rfl | (exfalso; omega) | (exfalso; clear r0 r1; simp_all; done) | skip
      · skip
        repeat' (first | refine WO.cons ?_ | refine WB.cons ?_ | refine WP.one ?_ | (first | (apply WQ.call (hm := h3.modes); (iterate 4 exact rfl)) | (apply W1.callV (hm := h3.modes); (iterate 5 exact rfl); exact (r0); exact rfl)) | (first | (apply WQ.call (hm := hf.modes); (iterate 4 exact rfl)) | (apply W1.callV (hm := hf.modes); (iterate 5 exact rfl); exact (r1); exact rfl)) | ((first | apply W1.add64 | apply W1.sub64); (iterate 3 exact rfl); omega; omega) | (apply W1.iadr; (iterate 3 exact rfl); omega; first | assumption | ((first | apply V.get_row | apply get_srow | apply get_ty | apply get_ar | apply get_ob | apply get_sprow | apply get_brow); assumption)) | (apply W1.idxS; (iterate 3 exact rfl); omega; omega) | (apply W1.slcS; (iterate 4 exact rfl); omega) | (apply W1.pickT; exact rfl; exact rfl; (first | with_reducible rfl | assumption | (simp only [bn]; first | omega | assumption | decide)); exact rfl) | (apply W1.pickF; exact rfl; exact rfl; (first | with_reducible rfl | assumption | (simp only [bn]; first | omega | assumption | decide)); exact rfl) | (apply W1.op; (iterate 3 exact rfl)) | (apply W1.no; exact rfl) | ((first | apply W1.knowT | apply W1.knowFn | apply WQ.knowT | apply WQ.knowFn | apply W.condT); exact rfl; (first | with_reducible rfl | assumption | (simp only [bn]; first | omega | assumption | decide))) | ((first | apply W1.knowTn | apply W1.knowF | apply WQ.knowTn | apply WQ.knowF | apply W.condF); exact rfl; (first | with_reducible rfl | assumption | (simp only [bn]; first | omega | assumption | decide))) | (apply WQ.go; exact rfl; exact rfl) | (apply WQ.no; exact rfl) | ((first | apply W1.bothT | apply W1.bothF | apply WQ.bothT | apply WQ.bothF | apply W.cond); exact rfl; all_goals intro hc; all_goals first | (cases hc; done) | ((try simp only [hc]); (try simp only [bm] at hc))) | refine WO.nil ?_ | refine WB.nil ?_ | refine WP.bag rfl ?_ | refine WP.nil ?_ | refine W.seq ?_ | refine W.reg ?_ | refine W.dreg ?_ | refine W.block ?_ | refine W.ret ?_ | refine W.skip ?_ | refine W.exit ?_ | (simp only [sprow_len, brow_len, srow_len, List.length_map, Qit, Int.toNat_natCast, entry, Opd.eat, cellsOf, TV.ofCells, allAv, Qseq, Qblk, List.map_cons, List.map_nil, putD, kp, Nat.reduceEqDiff, ↓reduceIte, beq_self_eq_true, Nat.reduceBEq]))
        all_goals first | exact Qend.boo rfl rfl rfl | (exfalso; omega) | (exfalso; clear r0 r1; simp_all; done) | skip
    · skip
      repeat' (first | refine WO.cons ?_ | refine WB.cons ?_ | refine WP.one ?_ | (first | (apply WQ.call (hm := h3.modes); (iterate 4 exact rfl)) | (apply W1.callV (hm := h3.modes); (iterate 5 exact rfl); exact (r0); exact rfl)) | (first | (apply WQ.call (hm := hf.modes); (iterate 4 exact rfl)) | (apply W1.callV (hm := hf.modes); (iterate 5 exact rfl); exact (r1); exact rfl)) | ((first | apply W1.add64 | apply W1.sub64); (iterate 3 exact rfl); omega; omega) | (apply W1.iadr; (iterate 3 exact rfl); omega; first | assumption | ((first | apply V.get_row | apply get_srow | apply get_ty | apply get_ar | apply get_ob | apply get_sprow | apply get_brow); assumption)) | (apply W1.idxS; (iterate 3 exact rfl); omega; omega) | (apply W1.slcS; (iterate 4 exact rfl); omega) | (apply W1.pickT; exact rfl; exact rfl; (first | with_reducible rfl | assumption | (simp only [bn]; first | omega | assumption | decide)); exact rfl) | (apply W1.pickF; exact rfl; exact rfl; (first | with_reducible rfl | assumption | (simp only [bn]; first | omega | assumption | decide)); exact rfl) | (apply W1.op; (iterate 3 exact rfl)) | (apply W1.no; exact rfl) | ((first | apply W1.knowT | apply W1.knowFn | apply WQ.knowT | apply WQ.knowFn | apply W.condT); exact rfl; (first | with_reducible rfl | assumption | (simp only [bn]; first | omega | assumption | decide))) | ((first | apply W1.knowTn | apply W1.knowF | apply WQ.knowTn | apply WQ.knowF | apply W.condF); exact rfl; (first | with_reducible rfl | assumption | (simp only [bn]; first | omega | assumption | decide))) | (apply WQ.go; exact rfl; exact rfl) | (apply WQ.no; exact rfl) | ((first | apply W1.bothT | apply W1.bothF | apply WQ.bothT | apply WQ.bothF | apply W.cond); exact rfl; all_goals intro hc; all_goals first | (cases hc; done) | ((try simp only [hc]); (try simp only [bm] at hc))) | refine WO.nil ?_ | refine WB.nil ?_ | refine WP.bag rfl ?_ | refine WP.nil ?_ | refine W.seq ?_ | refine W.reg ?_ | refine W.dreg ?_ | refine W.block ?_ | refine W.ret ?_ | refine W.skip ?_ | refine W.exit ?_ | (simp only [sprow_len, brow_len, srow_len, List.length_map, Qit, Int.toNat_natCast, entry, Opd.eat, cellsOf, TV.ofCells, allAv, Qseq, Qblk, List.map_cons, List.map_nil, putD, kp, Nat.reduceEqDiff, ↓reduceIte, beq_self_eq_true, Nat.reduceBEq]))
      all_goals first | exact Qend.boo rfl rfl rfl | (exfalso; omega) | (exfalso; clear r0 r1; simp_all; done) | skip
theorem refObjects_of {T : Tab} (h : Fn T F.hallmarkref09_objects hallmarkref09_objects.fn) (h0 : Fn T F.hallmarkref09_object hallmarkref09_object.fn) (l : List Ob) (hb : obBks l ≤ 1073741824)
    (ih : ∀ x ∈ l, Ret T F.hallmarkref09_object [.val (.agg x.row)] (one (.bool (obOk x)))) : Ret T F.hallmarkref09_objects [.val (.lst 12 (l.map Ob.row))] (one (.bool (l.all obOk))) := by
  refine Ret.mk h rfl ?_
  have hl := len_obBks l
  have e1 : (l.map Ob.row).length = l.length := List.length_map ..
  repeat' (first | refine WO.cons ?_ | refine WB.cons ?_ | refine WP.one ?_ | ((first | apply W1.add64 | apply W1.sub64); (iterate 3 exact rfl); omega; omega) | (apply W1.iadr; (iterate 3 exact rfl); omega; first | assumption | ((first | apply V.get_row | apply get_srow | apply get_ty | apply get_ar | apply get_ob | apply get_sprow | apply get_brow); assumption)) | (apply W1.idxS; (iterate 3 exact rfl); omega; omega) | (apply W1.slcS; (iterate 4 exact rfl); omega) | (apply W1.pickT; exact rfl; exact rfl; (first | with_reducible rfl | assumption | (simp only [bn]; first | omega | assumption | decide)); exact rfl) | (apply W1.pickF; exact rfl; exact rfl; (first | with_reducible rfl | assumption | (simp only [bn]; first | omega | assumption | decide)); exact rfl) | (apply W1.op; (iterate 3 exact rfl)) | (apply W1.no; exact rfl) | ((first | apply W1.knowT | apply W1.knowFn | apply WQ.knowT | apply WQ.knowFn | apply W.condT); exact rfl; (first | with_reducible rfl | assumption | (simp only [bn]; first | omega | assumption | decide))) | ((first | apply W1.knowTn | apply W1.knowF | apply WQ.knowTn | apply WQ.knowF | apply W.condF); exact rfl; (first | with_reducible rfl | assumption | (simp only [bn]; first | omega | assumption | decide))) | (apply WQ.go; exact rfl; exact rfl) | (apply WQ.no; exact rfl) | ((first | apply W1.bothT | apply W1.bothF | apply WQ.bothT | apply WQ.bothF | apply W.cond); exact rfl; all_goals intro hc; all_goals first | (cases hc; done) | ((try simp only [hc]); (try simp only [bm] at hc))) | refine WO.nil ?_ | refine WB.nil ?_ | refine WP.bag rfl ?_ | refine WP.nil ?_ | refine W.seq ?_ | refine W.reg ?_ | refine W.dreg ?_ | refine W.block ?_ | refine W.ret ?_ | refine W.skip ?_ | refine W.exit ?_ | (simp only [sprow_len, brow_len, srow_len, List.length_map, Qit, Int.toNat_natCast, entry, Opd.eat, cellsOf, TV.ofCells, allAv, Qseq, Qblk, List.map_cons, List.map_nil, putD, kp, Nat.reduceEqDiff, ↓reduceIte, beq_self_eq_true, Nat.reduceBEq]))
  refine W.listP l (fun i (_ : Unit) s => s.put 3 (.av (.int .i64 (i : Int)))) (fun i _ => (l.take i).all obOk = true) () (by simp) rfl ?_ ?_
  · intro i x u hx hi hp
    have r1 := ih x (List.mem_of_getElem? hx)
    rw [Ob.row_eq] at r1
    repeat' (first | refine WO.cons ?_ | refine WB.cons ?_ | refine WP.one ?_ | (first | (apply WQ.call (hm := h0.modes); (iterate 4 exact rfl)) | (apply W1.callV (hm := h0.modes); (iterate 5 exact rfl); exact (r1); exact rfl)) | ((first | apply W1.add64 | apply W1.sub64); (iterate 3 exact rfl); omega; omega) | (apply W1.iadr; (iterate 3 exact rfl); omega; first | assumption | ((first | apply V.get_row | apply get_srow | apply get_ty | apply get_ar | apply get_ob | apply get_sprow | apply get_brow); assumption)) | (apply W1.idxS; (iterate 3 exact rfl); omega; omega) | (apply W1.slcS; (iterate 4 exact rfl); omega) | (apply W1.pickT; exact rfl; exact rfl; (first | with_reducible rfl | assumption | (simp only [bn]; first | omega | assumption | decide)); exact rfl) | (apply W1.pickF; exact rfl; exact rfl; (first | with_reducible rfl | assumption | (simp only [bn]; first | omega | assumption | decide)); exact rfl) | (apply W1.op; (iterate 3 exact rfl)) | (apply W1.no; exact rfl) | ((first | apply W1.knowT | apply W1.knowFn | apply WQ.knowT | apply WQ.knowFn | apply W.condT); exact rfl; (first | with_reducible rfl | assumption | (simp only [bn]; first | omega | assumption | decide))) | ((first | apply W1.knowTn | apply W1.knowF | apply WQ.knowTn | apply WQ.knowF | apply W.condF); exact rfl; (first | with_reducible rfl | assumption | (simp only [bn]; first | omega | assumption | decide))) | (apply WQ.go; exact rfl; exact rfl) | (apply WQ.no; exact rfl) | ((first | apply W1.bothT | apply W1.bothF | apply WQ.bothT | apply WQ.bothF | apply W.cond); exact rfl; all_goals intro hc; all_goals first | (cases hc; done) | ((try simp only [hc]); (try simp only [bm] at hc))) | refine WO.nil ?_ | refine WB.nil ?_ | refine WP.bag rfl ?_ | refine WP.nil ?_ | refine W.seq ?_ | refine W.reg ?_ | refine W.dreg ?_ | refine W.block ?_ | refine W.ret ?_ | refine W.skip ?_ | refine W.exit ?_ | (simp only [sprow_len, brow_len, srow_len, List.length_map, Qit, Int.toNat_natCast, entry, Opd.eat, cellsOf, TV.ofCells, allAv, Qseq, Qblk, List.map_cons, List.map_nil, putD, kp, Nat.reduceEqDiff, ↓reduceIte, beq_self_eq_true, Nat.reduceBEq]))
    · refine Qend.boo rfl rfl ?_
      rw [all_false hx (by simp_all)]
    · refine ⟨(), ?_, rfl⟩
      rw [all_take_succ hx, hp]; simp_all
  · intro u hp
    rw [List.take_length] at hp
    repeat' (first | refine WO.cons ?_ | refine WB.cons ?_ | refine WP.one ?_ | ((first | apply W1.add64 | apply W1.sub64); (iterate 3 exact rfl); omega; omega) | (apply W1.iadr; (iterate 3 exact rfl); omega; first | assumption | ((first | apply V.get_row | apply get_srow | apply get_ty | apply get_ar | apply get_ob | apply get_sprow | apply get_brow); assumption)) | (apply W1.idxS; (iterate 3 exact rfl); omega; omega) | (apply W1.slcS; (iterate 4 exact rfl); omega) | (apply W1.pickT; exact rfl; exact rfl; (first | with_reducible rfl | assumption | (simp only [bn]; first | omega | assumption | decide)); exact rfl) | (apply W1.pickF; exact rfl; exact rfl; (first | with_reducible rfl | assumption | (simp only [bn]; first | omega | assumption | decide)); exact rfl) | (apply W1.op; (iterate 3 exact rfl)) | (apply W1.no; exact rfl) | ((first | apply W1.knowT | apply W1.knowFn | apply WQ.knowT | apply WQ.knowFn | apply W.condT); exact rfl; (first | with_reducible rfl | assumption | (simp only [bn]; first | omega | assumption | decide))) | ((first | apply W1.knowTn | apply W1.knowF | apply WQ.knowTn | apply WQ.knowF | apply W.condF); exact rfl; (first | with_reducible rfl | assumption | (simp only [bn]; first | omega | assumption | decide))) | (apply WQ.go; exact rfl; exact rfl) | (apply WQ.no; exact rfl) | ((first | apply W1.bothT | apply W1.bothF | apply WQ.bothT | apply WQ.bothF | apply W.cond); exact rfl; all_goals intro hc; all_goals first | (cases hc; done) | ((try simp only [hc]); (try simp only [bm] at hc))) | refine WO.nil ?_ | refine WB.nil ?_ | refine WP.bag rfl ?_ | refine WP.nil ?_ | refine W.seq ?_ | refine W.reg ?_ | refine W.dreg ?_ | refine W.block ?_ | refine W.ret ?_ | refine W.skip ?_ | refine W.exit ?_ | (simp only [sprow_len, brow_len, srow_len, List.length_map, Qit, Int.toNat_natCast, entry, Opd.eat, cellsOf, TV.ofCells, allAv, Qseq, Qblk, List.map_cons, List.map_nil, putD, kp, Nat.reduceEqDiff, ↓reduceIte, beq_self_eq_true, Nat.reduceBEq]))
    refine Qend.boo rfl rfl ?_
    rw [hp]
theorem refFormed9_ret {T : Tab} (hf : Fn T F.hallmarkref09_Formed hallmarkref09_Formed.fn) (a1 : Fn T F.hallmarkref09_objects hallmarkref09_objects.fn) (a2 : Fn T F.hallmarkref09_object hallmarkref09_object.fn) (a3 : Fn T F.hallmarkref09_Never hallmarkref09_Never.fn) (a4 : Fn T F.hallmarkref09_Bare hallmarkref09_Bare.fn)
    (a5 : Fn T F.hallmarkref03_Rise hallmarkref03_Rise.fn) (a6 : Fn T F.hallmarkref03_UTF hallmarkref03_UTF.fn) (a7 : Fn T F.hallmarkref03_width hallmarkref03_width.fn) (a8 : Fn T F.hallmarkref03_trail hallmarkref03_trail.fn) (a9 : Fn T F.hallmarkref09_arrays hallmarkref09_arrays.fn)
    (b1 : Fn T F.hallmarkref09_Spans hallmarkref09_Spans.fn) (b2 : Fn T F.hallmarkref03_Numbers hallmarkref03_Numbers.fn) (b3 : Fn T F.hallmarkref03_Texts hallmarkref03_Texts.fn) (b4 : Fn T F.hallmarkref09_bound hallmarkref09_bound.fn) (b5 : Fn T F.hallmarkref03_Number hallmarkref03_Number.fn) :
    ∀ (v : Ty), v.bk ≤ 1073741824 → Formed9 T v := by
  intro v
  induction v using Ty.ind with
  | h v ih =>
  intro hb
  have hbk := Ty.bk_eq v
  have l1 := len_sbk v.texts
  have e1 := srow_len v.texts
  have r0 := refBare_ret a4 v
  have r1 := refRise_ret a5 a6 a7 a8 v.texts (by omega)
  have r2 := refSpans_ret b1 b4 b5 b2 b3 v.nums (by omega)
  have r3 := refArrays_of a9 hf a3 a4 v.arrays (by omega) (fun x hx => by
    have := arBk_mem hx
    have := Ar.bk_eq x
    exact ih x.item (by omega) (by omega))
  have r4 := refObjects_of a1 a2 v.objects (by omega) (fun x hx => by
    have := obBk_mem hx
    have t3 := Ob.bk_eq x
    exact refObject_of a2 hf a3 a4 a5 a6 a7 a8 x (by omega) (fun y hy => by have := tyBk_mem hy; exact ih y (by omega) (by omega)) (ih x.rest (by omega) (by omega)))
  refine Ret.mk hf rfl ?_
  rw [tformed_eq]
  rw [Ty.av_eq] at *
  clear ih
  cases hA : v.all <;> simp only [hA] at *
  repeat' (first | refine WO.cons ?_ | refine WB.cons ?_ | refine WP.one ?_ | (first | (apply WQ.call (hm := a4.modes); (iterate 4 exact rfl)) | (apply W1.callV (hm := a4.modes); (iterate 5 exact rfl); exact (r0); exact rfl)) | (first | (apply WQ.call (hm := a5.modes); (iterate 4 exact rfl)) | (apply W1.callV (hm := a5.modes); (iterate 5 exact rfl); exact (r1); exact rfl)) | (first | (apply WQ.call (hm := b1.modes); (iterate 4 exact rfl)) | (apply W1.callV (hm := b1.modes); (iterate 5 exact rfl); exact (r2); exact rfl)) | (first | (apply WQ.call (hm := a9.modes); (iterate 4 exact rfl)) | (apply W1.callV (hm := a9.modes); (iterate 5 exact rfl); exact (r3); exact rfl)) | (first | (apply WQ.call (hm := a1.modes); (iterate 4 exact rfl)) | (apply W1.callV (hm := a1.modes); (iterate 5 exact rfl); exact (r4); exact rfl)) | ((first | apply W1.add64 | apply W1.sub64); (iterate 3 exact rfl); omega; omega) | (apply W1.iadr; (iterate 3 exact rfl); omega; first | assumption | ((first | apply V.get_row | apply get_srow | apply get_ty | apply get_ar | apply get_ob | apply get_sprow | apply get_brow); assumption)) | (apply W1.idxS; (iterate 3 exact rfl); omega; omega) | (apply W1.slcS; (iterate 4 exact rfl); omega) | (apply W1.pickT; exact rfl; exact rfl; (first | with_reducible rfl | assumption | (simp only [bn]; first | omega | assumption | decide)); exact rfl) | (apply W1.pickF; exact rfl; exact rfl; (first | with_reducible rfl | assumption | (simp only [bn]; first | omega | assumption | decide)); exact rfl) | (apply W1.op; (iterate 3 exact rfl)) | (apply W1.no; exact rfl) | ((first | apply W1.knowT | apply W1.knowFn | apply WQ.knowT | apply WQ.knowFn | apply W.condT); exact rfl; (first | with_reducible rfl | assumption | (simp only [bn]; first | omega | assumption | decide))) | ((first | apply W1.knowTn | apply W1.knowF | apply WQ.knowTn | apply WQ.knowF | apply W.condF); exact rfl; (first | with_reducible rfl | assumption | (simp only [bn]; first | omega | assumption | decide))) | (apply WQ.go; exact rfl; exact rfl) | (apply WQ.no; exact rfl) | ((first | apply W1.bothT | apply W1.bothF | apply WQ.bothT | apply WQ.bothF | apply W.cond); exact rfl; all_goals intro hc; all_goals first | (cases hc; done) | ((try simp only [hc]); (try simp only [bm] at hc))) | refine WO.nil ?_ | refine WB.nil ?_ | refine WP.bag rfl ?_ | refine WP.nil ?_ | refine W.seq ?_ | refine W.reg ?_ | refine W.dreg ?_ | refine W.block ?_ | refine W.ret ?_ | refine W.skip ?_ | refine W.exit ?_ | (simp only [sprow_len, brow_len, srow_len, List.length_map, Qit, Int.toNat_natCast, entry, Opd.eat, cellsOf, TV.ofCells, allAv, Qseq, Qblk, List.map_cons, List.map_nil, putD, kp, Nat.reduceEqDiff, ↓reduceIte, beq_self_eq_true, Nat.reduceBEq]))
  all_goals clear r0 r1 r2 r3 r4
  all_goals first | refine Qend.boo rfl rfl ?_ | skip
  all_goals first | (simp_all; done) | skip
end Hm

/- Comparisons that set things in a row. Conditions: none (definitions and plain lemmas). -/
namespace Hm
/-- A comparison is good on the things of a kind. -/
structure Good {α : Type} (P : α → Prop) (c : α → α → Int) : Prop where
  rng : ∀ a b, P a → P b → -1 ≤ c a b ∧ c a b ≤ 1
  anti : ∀ a b, P a → P b → c a b = - c b a
  trans : ∀ a b d, P a → P b → P d → c a b ≤ 0 → c b d ≤ 0 → c a d ≤ 0
  eq : ∀ a b, P a → P b → c a b = 0 → a = b
theorem Good.refl {α : Type} {P : α → Prop} {c : α → α → Int} (h : Good P c) (a : α) (ha : P a) : c a a = 0 := by
  have := h.anti a a ha ha; omega
theorem Good.lt_trans {α : Type} {P : α → Prop} {c : α → α → Int} (h : Good P c) {a b d : α} (ha : P a) (hb : P b) (hd : P d) (h1 : c a b < 0) (h2 : c b d ≤ 0) : c a d < 0 := by
  have h3 := h.trans a b d ha hb hd (by omega) h2
  by_cases h0 : c a d = 0
  · have := h.eq a d ha hd h0
    subst this
    have := h.anti a b ha hb
    omega
  · omega
theorem bLess_irrefl : ∀ a : Str, binA.bLess a a = false
  | [] => rfl
  | x :: r => by simp [binA.bLess, bLess_irrefl r]
theorem bLess_trans : ∀ a b d : Str, binA.bLess a b = true → binA.bLess b d = true → binA.bLess a d = true
  | [], [], _, h, _ => by simp [binA.bLess] at h
  | [], _ :: _, [], _, h => by simp [binA.bLess] at h
  | [], _ :: _, _ :: _, _, _ => by simp [binA.bLess]
  | _ :: _, [], _, h, _ => by simp [binA.bLess] at h
  | _ :: _, _ :: _, [], _, h => by simp [binA.bLess] at h
  | x :: a, y :: b, z :: d, h1, h2 => by
    simp only [binA.bLess, Bool.or_eq_true, Bool.and_eq_true, decide_eq_true_eq, beq_iff_eq] at *
    rcases h1 with h1 | ⟨h1, h1'⟩
    · rcases h2 with h2 | ⟨h2, _⟩
      · exact .inl (UInt8.lt_trans h1 h2)
      · subst h2; exact .inl h1
    · subst h1
      rcases h2 with h2 | ⟨h2, h2'⟩
      · exact .inl h2
      · subst h2; exact .inr ⟨rfl, bLess_trans a b d h1' h2'⟩
theorem bLess_tri : ∀ a b : Str, binA.bLess a b = true ∨ a = b ∨ binA.bLess b a = true
  | [], [] => .inr (.inl rfl)
  | [], _ :: _ => .inl rfl
  | _ :: _, [] => .inr (.inr rfl)
  | x :: a, y :: b => by
    simp only [binA.bLess, Bool.or_eq_true, Bool.and_eq_true, decide_eq_true_eq, beq_iff_eq, List.cons.injEq]
    by_cases h : x = y
    · subst h
      rcases bLess_tri a b with h | h | h
      · exact .inl (.inr ⟨rfl, h⟩)
      · exact .inr (.inl ⟨rfl, h⟩)
      · exact .inr (.inr (.inr ⟨rfl, h⟩))
    · rcases UInt8.lt_or_lt_of_ne h with h | h
      · exact .inl (.inl h)
      · exact .inr (.inr (.inl h))
end Hm

/- Texts and numbers stand in a row. Conditions: see each theorem. -/
namespace Hm
theorem tcmp_cases (a b : Str) : (tcmp a b = -1 ∧ binA.bLess a b = true) ∨ (tcmp a b = 0 ∧ a = b) ∨ (tcmp a b = 1 ∧ binA.bLess b a = true) := by
  by_cases h : binA.bLess a b = true
  · left; simp [tcmp, h]
  · rw [Bool.not_eq_true] at h
    rcases bLess_tri a b with h' | h' | h'
    · rw [h] at h'; cases h'
    · right; left; subst h'; simp [tcmp, bLess_irrefl]
    · right; right
      have hne : ¬ a = b := fun he => by subst he; rw [bLess_irrefl] at h'; cases h'
      simp [tcmp, h, h', hne]
theorem tcmp_good : Good (fun _ => True) tcmp where
  rng a b _ _ := by rcases tcmp_cases a b with h | h | h <;> omega
  anti a b _ _ := by
    rcases tcmp_cases a b with ⟨h, h1⟩ | ⟨h, h1⟩ | ⟨h, h1⟩ <;> rcases tcmp_cases b a with ⟨k, k1⟩ | ⟨k, k1⟩ | ⟨k, k1⟩ <;> try omega
    · have := bLess_trans a b a h1 k1; rw [bLess_irrefl] at this; cases this
    · subst k1; rw [bLess_irrefl] at h1; cases h1
    · subst h1; rw [bLess_irrefl] at k1; cases k1
    · subst h1; rw [bLess_irrefl] at k1; cases k1
    · subst k1; rw [bLess_irrefl] at h1; cases h1
    · have := bLess_trans b a b h1 k1; rw [bLess_irrefl] at this; cases this
  trans a b d _ _ _ h1 h2 := by
    rcases tcmp_cases a b with ⟨h, k1⟩ | ⟨h, k1⟩ | ⟨h, k1⟩
    · rcases tcmp_cases b d with ⟨h', k2⟩ | ⟨h', k2⟩ | ⟨h', k2⟩
      · have := bLess_trans a b d k1 k2
        rcases tcmp_cases a d with ⟨h'', k3⟩ | ⟨h'', k3⟩ | ⟨h'', k3⟩
        · omega
        · omega
        · have := bLess_trans a d a this k3; rw [bLess_irrefl] at this; cases this
      · subst k2; omega
      · omega
    · subst k1; omega
    · omega
  eq a b _ _ h := by rcases tcmp_cases a b with h' | h' | h' <;> first | exact h'.2 | omega
theorem ncmp_good : Good (fun _ => True) ncmp where
  rng a b _ _ := by
    simp only [ncmp]; split
    · exact tcmp_good.rng a b trivial trivial
    · split <;> omega
  anti a b _ _ := by
    simp only [ncmp]
    by_cases h : a.length = b.length
    · rw [if_pos h, if_pos h.symm]; exact tcmp_good.anti a b trivial trivial
    · have h' : ¬ b.length = a.length := fun e => h e.symm
      simp only [h, h', if_false]
      by_cases hl : a.length < b.length
      · have : ¬ b.length < a.length := by omega
        simp [hl, this]
      · have : b.length < a.length := by omega
        simp [hl, this]
  trans a b d _ _ _ h1 h2 := by
    simp only [ncmp] at *
    by_cases e1 : a.length = b.length
    · rw [if_pos e1] at h1
      by_cases e2 : b.length = d.length
      · rw [if_pos e2] at h2; rw [if_pos (by omega)]; exact tcmp_good.trans a b d trivial trivial trivial h1 h2
      · rw [if_neg e2] at h2; rw [if_neg (by omega)]; split at h2 <;> split <;> omega
    · rw [if_neg e1] at h1
      by_cases e2 : b.length = d.length
      · rw [if_neg (by omega)]; split at h1 <;> split <;> omega
      · rw [if_neg e2] at h2
        have : a.length < b.length := by split at h1 <;> omega
        have : b.length < d.length := by split at h2 <;> omega
        rw [if_neg (by omega), if_pos (by omega)]; omega
  eq a b _ _ h := by
    simp only [ncmp] at h
    by_cases e : a.length = b.length
    · rw [if_pos e] at h; exact tcmp_good.eq a b trivial trivial h
    · rw [if_neg e] at h; split at h <;> omega
theorem minus_eq {a : Str} (h : number a = true) (hm : minus a = true) : a = 45 :: a.drop 1 := by
  have hl := number_len h
  simp only [minus, decide_eq_true_eq] at hm
  have h45 := (u8_eq (bAt a 0) 45 (by omega)).1 hm
  cases a with
  | nil => simp at hl
  | cons c r => simp [bAt] at h45; simp [h45]
theorem zcmp_good : Good (fun a => number a = true) zcmp where
  rng a b _ _ := by
    have h1 := ncmp_good.rng (b.drop 1) (a.drop 1) trivial trivial
    have h2 := ncmp_good.rng a b trivial trivial
    simp only [List.drop_one] at h1
    simp only [zcmp]; cases minus a <;> cases minus b <;> simp <;> first | exact h1 | exact h2
  anti a b _ _ := by
    have h1 := ncmp_good.anti (b.drop 1) (a.drop 1) trivial trivial
    have h2 := ncmp_good.anti a b trivial trivial
    simp only [zcmp]; cases minus a <;> cases minus b <;> simp <;> first | exact h2 | simpa using h1
  trans a b d _ _ _ h1 h2 := by
    have t1 := ncmp_good.trans a b d trivial trivial trivial
    have t2 := ncmp_good.trans (d.drop 1) (b.drop 1) (a.drop 1) trivial trivial trivial
    simp only [zcmp] at *
    cases ma : minus a <;> cases mb : minus b <;> cases md : minus d <;> simp [ma, mb, md] at *
    all_goals first
      | exact t1 h1 h2
      | exact t2 h2 h1
      | omega
  eq a b ha hb h := by
    simp only [zcmp] at h
    cases ma : minus a <;> cases mb : minus b <;> simp only [ma, mb] at h
    · exact ncmp_good.eq a b trivial trivial (by simpa using h)
    · simp at h
    · simp at h
    · have := ncmp_good.eq (b.drop 1) (a.drop 1) trivial trivial (by simpa using h)
      rw [minus_eq ha ma, minus_eq hb mb, this]
end Hm

/- Comparisons part by part, and of lists. Conditions: none (definitions and plain lemmas). -/
namespace Hm
/-- A comparison that sets things in a row, up to what it does not look at. -/
structure Pre {α : Type} (P : α → Prop) (c : α → α → Int) : Prop where
  rng : ∀ a b, P a → P b → -1 ≤ c a b ∧ c a b ≤ 1
  anti : ∀ a b, P a → P b → c a b = - c b a
  trans : ∀ a b d, P a → P b → P d → c a b ≤ 0 → c b d ≤ 0 → c a d ≤ 0
def orI (x y : Int) : Int := if x = 0 then y else x
theorem orI0 (y : Int) : orI 0 y = y := rfl
theorem orI_ne {x y : Int} (h : x ≠ 0) : orI x y = x := by simp [orI, h]
theorem orI_zero {x y : Int} (h : orI x y = 0) : x = 0 ∧ y = 0 := by
  unfold orI at h
  split at h
  · exact ⟨by assumption, h⟩
  · exact absurd h (by assumption)
section
variable {α β : Type} {P : α → Prop} {Q : β → Prop} {c c1 c2 : α → α → Int}
theorem Good.pre (h : Good P c) : Pre P c := ⟨h.rng, h.anti, h.trans⟩
theorem Pre.refl (h : Pre P c) {a : α} (ha : P a) : c a a = 0 := by have := h.anti a a ha ha; omega
theorem Pre.eq0 (h : Pre P c) {a b d : α} (ha : P a) (hb : P b) (hd : P d) (h1 : c a b = 0) (h2 : c b d = 0) : c a d = 0 := by
  have k1 := h.anti a b ha hb
  have k2 := h.anti b d hb hd
  have k3 := h.anti a d ha hd
  have := h.trans a b d ha hb hd (by omega) (by omega)
  have := h.trans d b a hd hb ha (by omega) (by omega)
  omega
theorem Pre.lt (h : Pre P c) {a b d : α} (ha : P a) (hb : P b) (hd : P d) (h1 : c a b < 0) (h2 : c b d ≤ 0) : c a d < 0 := by
  have k1 := h.anti a b ha hb
  have k3 := h.anti a d ha hd
  have := h.trans a b d ha hb hd (by omega) (by omega)
  by_cases h0 : c a d = 0
  · have := h.trans b d a hb hd ha h2 (by omega); omega
  · omega
theorem Pre.lt' (h : Pre P c) {a b d : α} (ha : P a) (hb : P b) (hd : P d) (h1 : c a b ≤ 0) (h2 : c b d < 0) : c a d < 0 := by
  have k1 := h.anti b d hb hd
  have k3 := h.anti a d ha hd
  have := h.trans a b d ha hb hd (by omega) (by omega)
  by_cases h0 : c a d = 0
  · have := h.trans d a b hd ha hb (by omega) h1; omega
  · omega
theorem Pre.or_trans (h : Pre P c) {a b d : α} (ha : P a) (hb : P b) (hd : P d) {x y z : Int} (h1 : orI (c a b) x ≤ 0) (h2 : orI (c b d) y ≤ 0) (h3 : x ≤ 0 → y ≤ 0 → z ≤ 0) : orI (c a d) z ≤ 0 := by
  by_cases e1 : c a b = 0
  · rw [e1, orI0] at h1
    by_cases e2 : c b d = 0
    · rw [e2, orI0] at h2
      rw [h.eq0 ha hb hd e1 e2, orI0]; exact h3 h1 h2
    · rw [orI_ne e2] at h2
      have := h.lt' ha hb hd (by omega) (by omega : c b d < 0)
      rw [orI_ne (by omega)]; omega
  · rw [orI_ne e1] at h1
    have hbd : c b d ≤ 0 := by
      by_cases e2 : c b d = 0
      · omega
      · rw [orI_ne e2] at h2; exact h2
    have := h.lt ha hb hd (by omega : c a b < 0) hbd
    rw [orI_ne (by omega)]; omega
theorem Pre.or_anti (h : Pre P c) {a b : α} (ha : P a) (hb : P b) {x y : Int} (h1 : x = - y) : orI (c a b) x = - orI (c b a) y := by
  have := h.anti a b ha hb
  by_cases e : c a b = 0
  · have : c b a = 0 := by omega
    rw [e, this, orI0, orI0]; exact h1
  · rw [orI_ne e, orI_ne (by omega)]; exact this
theorem Pre.or_rng (h : Pre P c) {a b : α} (ha : P a) (hb : P b) {x : Int} (h1 : -1 ≤ x ∧ x ≤ 1) : -1 ≤ orI (c a b) x ∧ orI (c a b) x ≤ 1 := by
  unfold orI; split
  · exact h1
  · exact h.rng a b ha hb
theorem Pre.or (h1 : Pre P c1) (h2 : Pre P c2) : Pre P fun a b => orI (c1 a b) (c2 a b) where
  rng a b ha hb := h1.or_rng ha hb (h2.rng a b ha hb)
  anti a b ha hb := h1.or_anti ha hb (h2.anti a b ha hb)
  trans a b d ha hb hd k1 k2 := h1.or_trans ha hb hd k1 k2 (h2.trans a b d ha hb hd)
theorem Pre.comap {f : α → β} {c : β → β → Int} (h : Pre Q c) (hp : ∀ a, P a → Q (f a)) : Pre P fun a b => c (f a) (f b) where
  rng a b ha hb := h.rng _ _ (hp a ha) (hp b hb)
  anti a b ha hb := h.anti _ _ (hp a ha) (hp b hb)
  trans a b d ha hb hd := h.trans _ _ _ (hp a ha) (hp b hb) (hp d hd)
theorem Pre.mono {P' : α → Prop} (h : Pre P c) (hp : ∀ a, P' a → P a) : Pre P' c where
  rng a b ha hb := h.rng _ _ (hp a ha) (hp b hb)
  anti a b ha hb := h.anti _ _ (hp a ha) (hp b hb)
  trans a b d ha hb hd := h.trans _ _ _ (hp a ha) (hp b hb) (hp d hd)
theorem Pre.congr {c' : α → α → Int} (h : Pre P c) (e : ∀ a b, c' a b = c a b) : Pre P c' where
  rng a b ha hb := by rw [e]; exact h.rng a b ha hb
  anti a b ha hb := by rw [e, e]; exact h.anti a b ha hb
  trans a b d ha hb hd := by rw [e, e, e]; exact h.trans a b d ha hb hd
def lcmp (c : α → α → Int) : List α → List α → Int
  | [], [] => 0
  | [], _ :: _ => -1
  | _ :: _, [] => 1
  | a :: l, b :: m => orI (c a b) (lcmp c l m)
theorem Pre.list (h : Pre P c) : Pre (fun l : List α => ∀ x ∈ l, P x) (lcmp c) where
  rng := by
    intro l
    induction l with
    | nil => intro m _ _; cases m <;> simp [lcmp]
    | cons a l ih =>
      intro m hl hm
      cases m with
      | nil => simp [lcmp]
      | cons b m => exact h.or_rng (hl a (by simp)) (hm b (by simp)) (ih m (fun x hx => hl x (by simp [hx])) (fun x hx => hm x (by simp [hx])))
  anti := by
    intro l
    induction l with
    | nil => intro m _ _; cases m <;> simp [lcmp]
    | cons a l ih =>
      intro m hl hm
      cases m with
      | nil => simp [lcmp]
      | cons b m => exact h.or_anti (hl a (by simp)) (hm b (by simp)) (ih m (fun x hx => hl x (by simp [hx])) (fun x hx => hm x (by simp [hx])))
  trans := by
    intro l
    induction l with
    | nil => intro m n _ _ _ _ _; cases n <;> simp [lcmp]
    | cons a l ih =>
      intro m n hl hm hn h1 h2
      cases m with
      | nil => simp [lcmp] at h1
      | cons b m =>
        cases n with
        | nil => simp [lcmp] at h2
        | cons d n =>
          exact h.or_trans (hl a (by simp)) (hm b (by simp)) (hn d (by simp)) h1 h2 (ih m n (fun x hx => hl x (by simp [hx])) (fun x hx => hm x (by simp [hx])) (fun x hx => hn x (by simp [hx])))
theorem lcmp_eq (he : ∀ a b, P a → P b → c a b = 0 → a = b) : ∀ (l m : List α), (∀ x ∈ l, P x) → (∀ x ∈ m, P x) → lcmp c l m = 0 → l = m
  | [], [], _, _, _ => rfl
  | [], _ :: _, _, _, h => by simp [lcmp] at h
  | _ :: _, [], _, _, h => by simp [lcmp] at h
  | a :: l, b :: m, hl, hm, h => by
    obtain ⟨h1, h2⟩ := orI_zero (show orI (c a b) (lcmp c l m) = 0 from h)
    rw [he a b (hl a (by simp)) (hm b (by simp)) h1, lcmp_eq he l m (fun x hx => hl x (by simp [hx])) (fun x hx => hm x (by simp [hx])) h2]
end
def icmp (a b : Int) : Int := if a < b then -1 else if a > b then 1 else 0
theorem icmp_pre : Pre (fun _ => True) icmp where
  rng a b _ _ := by unfold icmp; split <;> (try split) <;> omega
  anti a b _ _ := by unfold icmp; split <;> split <;> (try split) <;> (try split) <;> omega
  trans a b d _ _ _ h1 h2 := by
    unfold icmp at *
    by_cases e1 : a < b
    · by_cases e2 : b < d
      · rw [if_pos (by omega)]; omega
      · rw [if_neg e2] at h2
        split at h2
        · omega
        · rw [if_pos (by omega)]; omega
    · rw [if_neg e1] at h1
      split at h1
      · omega
      · by_cases e2 : b < d
        · rw [if_pos (by omega)]; omega
        · rw [if_neg e2] at h2
          split at h2
          · omega
          · rw [if_neg (by omega), if_neg (by omega)]; omega
theorem icmp_eq {a b : Int} (h : icmp a b = 0) : a = b := by
  unfold icmp at h
  split at h
  · omega
  · split at h <;> omega
theorem zcmp_pre : Pre (fun _ => True) zcmp where
  rng a b _ _ := by
    have h1 := ncmp_good.rng (b.drop 1) (a.drop 1) trivial trivial
    have h2 := ncmp_good.rng a b trivial trivial
    simp only [List.drop_one] at h1
    simp only [zcmp]; cases minus a <;> cases minus b <;> simp <;> first | exact h1 | exact h2
  anti a b _ _ := by
    have h1 := ncmp_good.anti (b.drop 1) (a.drop 1) trivial trivial
    have h2 := ncmp_good.anti a b trivial trivial
    simp only [zcmp]; cases minus a <;> cases minus b <;> simp <;> first | exact h2 | simpa using h1
  trans a b d _ _ _ h1 h2 := by
    have t1 := ncmp_good.trans a b d trivial trivial trivial
    have t2 := ncmp_good.trans (d.drop 1) (b.drop 1) (a.drop 1) trivial trivial trivial
    simp only [zcmp] at *
    cases ma : minus a <;> cases mb : minus b <;> cases md : minus d <;> simp [ma, mb, md] at *
    all_goals first
      | exact t1 h1 h2
      | exact t2 h2 h1
      | omega
end Hm

/- Whole numbers in tens, as the program has them. Conditions: see each theorem. -/
namespace Hm
open Go (IntKind)
set_option maxHeartbeats 4000000
set_option maxRecDepth 4000
def two (v w : AV) : CR := ⟨[([.av v], false), ([.av w], false)], []⟩
theorem Qend.two {fn : AFun} {as : List Arg} {v w v' w' : AV} {st : St} (hr : results st fn.results = some [([.av v], false), ([.av w], false)]) (ho : outs st 0 as = some []) (h : v = v') (h' : w = w') : Qend fn as (Hm.two v' w') .ret st := by
  subst h h'; exact ⟨.inr rfl, hr, ho⟩
theorem tensFormed_ret {T : Tab} (h : Fn T F.tens_Formed tens_Formed.fn) (s : Str) (hb : s.length ≤ 1073741824) : Ret T F.tens_Formed [.val (.str s)] (one (.bool (number s))) := by
  refine Ret.mk h rfl ?_
  by_cases hs : s = [48]
  · subst hs
    repeat' (first | refine WO.cons ?_ | refine WB.cons ?_ | refine WP.one ?_ | ((first | apply W1.add64 | apply W1.sub64); (iterate 3 exact rfl); omega; omega) | (apply W1.iadr; (iterate 3 exact rfl); omega; first | assumption | ((first | apply V.get_row | apply get_srow | apply get_ty | apply get_ar | apply get_ob | apply get_sprow | apply get_brow); assumption)) | (apply W1.idxS; (iterate 3 exact rfl); omega; omega) | (apply W1.slcS; (iterate 4 exact rfl); omega) | (apply W1.pickT; exact rfl; exact rfl; (first | with_reducible rfl | assumption | (simp only [bn]; first | omega | assumption | decide)); exact rfl) | (apply W1.pickF; exact rfl; exact rfl; (first | with_reducible rfl | assumption | (simp only [bn]; first | omega | assumption | decide)); exact rfl) | (apply W1.op; (iterate 3 exact rfl)) | (apply W1.no; exact rfl) | ((first | apply W1.knowT | apply W1.knowFn | apply WQ.knowT | apply WQ.knowFn | apply W.condT); exact rfl; (first | with_reducible rfl | assumption | (simp only [bn]; first | omega | assumption | decide))) | ((first | apply W1.knowTn | apply W1.knowF | apply WQ.knowTn | apply WQ.knowF | apply W.condF); exact rfl; (first | with_reducible rfl | assumption | (simp only [bn]; first | omega | assumption | decide))) | (apply WQ.go; exact rfl; exact rfl) | (apply WQ.no; exact rfl) | ((first | apply W1.bothT | apply W1.bothF | apply WQ.bothT | apply WQ.bothF | apply W.cond); exact rfl; all_goals intro hc; all_goals first | (cases hc; done) | ((try simp only [hc]); (try simp only [bm] at hc))) | refine WO.nil ?_ | refine WB.nil ?_ | refine WP.bag rfl ?_ | refine WP.nil ?_ | refine W.seq ?_ | refine W.reg ?_ | refine W.dreg ?_ | refine W.block ?_ | refine W.ret ?_ | refine W.skip ?_ | refine W.exit ?_ | (simp only [sprow_len, brow_len, srow_len, List.length_map, Qit, Int.toNat_natCast, entry, Opd.eat, cellsOf, TV.ofCells, allAv, Qseq, Qblk, List.map_cons, List.map_nil, putD, kp, Nat.reduceEqDiff, ↓reduceIte, beq_self_eq_true, Nat.reduceBEq]))
    exact Qend.boo rfl rfl rfl
  have hs' : (s == [48]) = false := beq_eq_false_iff_ne.2 hs
  have hnum : number s = ((digs s).all isDig && decide (0 < (digs s).length) && !(bAt (digs s) 0 == 48)) := by simp only [number, hs', Bool.not_false, Bool.and_true]
  have fin : ∀ d : Str, d = digs s → 0 < d.length → ¬ ((bAt d 0).toNat : Int) = 48 → d.length ≤ 1073741824 → W T (AC.loop [0, 23, 24] tens_Formed.l1) ⟨lstE [(0, .av (.str d)), (23, .av (.int .i64 (d.length : Nat))), (24, .av (.int .i64 0))], lstB [(0, none), (23, none), (24, none)]⟩
      (Qblk 0 (Qseq T ((AC.reg tens_Formed.r13 [2]).seq AC.ret) (Qend tens_Formed.fn [.val (.str s)] (one (.bool (number s)))))) := by
    intro d hd hl h48 hlb
    refine W.listP d (fun i (_ : Unit) s => s.put 24 (.av (.int .i64 (i : Int)))) (fun i _ => (d.take i).all isDig = true) () (by simp) rfl ?_ ?_
    · intro i x u hx hi hp
      have e := bAt_get hx
      have e' : bAt d ((i : Int)).toNat = x := e
      repeat' (first | refine WO.cons ?_ | refine WB.cons ?_ | refine WP.one ?_ | ((first | apply W1.add64 | apply W1.sub64); (iterate 3 exact rfl); omega; omega) | (apply W1.iadr; (iterate 3 exact rfl); omega; first | assumption | ((first | apply V.get_row | apply get_srow | apply get_ty | apply get_ar | apply get_ob | apply get_sprow | apply get_brow); assumption)) | (apply W1.idxS; (iterate 3 exact rfl); omega; omega) | (apply W1.slcS; (iterate 4 exact rfl); omega) | (apply W1.pickT; exact rfl; exact rfl; (first | with_reducible rfl | assumption | (simp only [bn]; first | omega | assumption | decide)); exact rfl) | (apply W1.pickF; exact rfl; exact rfl; (first | with_reducible rfl | assumption | (simp only [bn]; first | omega | assumption | decide)); exact rfl) | (apply W1.op; (iterate 3 exact rfl)) | (apply W1.no; exact rfl) | ((first | apply W1.knowT | apply W1.knowFn | apply WQ.knowT | apply WQ.knowFn | apply W.condT); exact rfl; (first | with_reducible rfl | assumption | (simp only [bn]; first | omega | assumption | decide))) | ((first | apply W1.knowTn | apply W1.knowF | apply WQ.knowTn | apply WQ.knowF | apply W.condF); exact rfl; (first | with_reducible rfl | assumption | (simp only [bn]; first | omega | assumption | decide))) | (apply WQ.go; exact rfl; exact rfl) | (apply WQ.no; exact rfl) | ((first | apply W1.bothT | apply W1.bothF | apply WQ.bothT | apply WQ.bothF | apply W.cond); exact rfl; all_goals intro hc; all_goals first | (cases hc; done) | ((try simp only [hc]); (try simp only [bm] at hc))) | refine WO.nil ?_ | refine WB.nil ?_ | refine WP.bag rfl ?_ | refine WP.nil ?_ | refine W.seq ?_ | refine W.reg ?_ | refine W.dreg ?_ | refine W.block ?_ | refine W.ret ?_ | refine W.skip ?_ | refine W.exit ?_ | (simp only [sprow_len, brow_len, srow_len, List.length_map, Qit, Int.toNat_natCast, entry, Opd.eat, cellsOf, TV.ofCells, allAv, Qseq, Qblk, List.map_cons, List.map_nil, putD, kp, Nat.reduceEqDiff, ↓reduceIte, beq_self_eq_true, Nat.reduceBEq]))
      all_goals first
        | (refine Qend.boo rfl rfl ?_; rw [hnum, ← hd, all_false hx (by rw [← e]; simp only [isDig, Bool.and_eq_false_iff, decide_eq_false_iff_not]; simp only [Int.toNat_natCast] at *; omega)]; rfl)
        | (refine ⟨(), ?_, rfl⟩; rw [all_take_succ hx, hp, ← e]; simp only [isDig, Bool.true_and, Bool.and_eq_true, decide_eq_true_eq]; simp only [Int.toNat_natCast] at *; omega)
        | skip
    · intro u hp
      rw [List.take_length] at hp
      repeat' (first | refine WO.cons ?_ | refine WB.cons ?_ | refine WP.one ?_ | ((first | apply W1.add64 | apply W1.sub64); (iterate 3 exact rfl); omega; omega) | (apply W1.iadr; (iterate 3 exact rfl); omega; first | assumption | ((first | apply V.get_row | apply get_srow | apply get_ty | apply get_ar | apply get_ob | apply get_sprow | apply get_brow); assumption)) | (apply W1.idxS; (iterate 3 exact rfl); omega; omega) | (apply W1.slcS; (iterate 4 exact rfl); omega) | (apply W1.pickT; exact rfl; exact rfl; (first | with_reducible rfl | assumption | (simp only [bn]; first | omega | assumption | decide)); exact rfl) | (apply W1.pickF; exact rfl; exact rfl; (first | with_reducible rfl | assumption | (simp only [bn]; first | omega | assumption | decide)); exact rfl) | (apply W1.op; (iterate 3 exact rfl)) | (apply W1.no; exact rfl) | ((first | apply W1.knowT | apply W1.knowFn | apply WQ.knowT | apply WQ.knowFn | apply W.condT); exact rfl; (first | with_reducible rfl | assumption | (simp only [bn]; first | omega | assumption | decide))) | ((first | apply W1.knowTn | apply W1.knowF | apply WQ.knowTn | apply WQ.knowF | apply W.condF); exact rfl; (first | with_reducible rfl | assumption | (simp only [bn]; first | omega | assumption | decide))) | (apply WQ.go; exact rfl; exact rfl) | (apply WQ.no; exact rfl) | ((first | apply W1.bothT | apply W1.bothF | apply WQ.bothT | apply WQ.bothF | apply W.cond); exact rfl; all_goals intro hc; all_goals first | (cases hc; done) | ((try simp only [hc]); (try simp only [bm] at hc))) | refine WO.nil ?_ | refine WB.nil ?_ | refine WP.bag rfl ?_ | refine WP.nil ?_ | refine W.seq ?_ | refine W.reg ?_ | refine W.dreg ?_ | refine W.block ?_ | refine W.ret ?_ | refine W.skip ?_ | refine W.exit ?_ | (simp only [sprow_len, brow_len, srow_len, List.length_map, Qit, Int.toNat_natCast, entry, Opd.eat, cellsOf, TV.ofCells, allAv, Qseq, Qblk, List.map_cons, List.map_nil, putD, kp, Nat.reduceEqDiff, ↓reduceIte, beq_self_eq_true, Nat.reduceBEq]))
      refine Qend.boo rfl rfl ?_
      have : ¬ bAt d 0 = 48 := fun h => h48 ((u8_eq _ 48 (by omega)).2 h)
      have : (bAt d 0 == 48) = false := beq_eq_false_iff_ne.2 this
      rw [hnum, ← hd, hp, decide_eq_true hl, this]; rfl
  by_cases hm : 0 < s.length ∧ ((bAt s 0).toNat : Int) = 45
  · have hd : digs s = s.drop 1 := by rw [digs, if_pos ⟨hm.1, (u8_eq _ 45 (by omega)).1 hm.2⟩]
    have ed : List.drop (Int.toNat 1) (List.take s.length s) = s.drop 1 := by rw [List.take_length]; rfl
    have hne : ¬ s = [] := (fun h => by rw [h] at hm; simp at hm)
    have hm' : ((bAt s (Int.toNat 0)).toNat : Int) = 45 := hm.2
    by_cases hl : 0 < (s.drop 1).length
    · have hne2 : ¬ List.drop (Int.toNat 1) (List.take s.length s) = [] := by rw [ed]; exact (fun h => by rw [h] at hl; simp at hl)
      have hl2 : 0 < (List.drop (Int.toNat 1) (List.take s.length s)).length := by rw [ed]; exact hl
      by_cases h48 : ((bAt (s.drop 1) 0).toNat : Int) = 48
      · have h48' : ((bAt (List.drop (Int.toNat 1) (List.take s.length s)) (Int.toNat 0)).toNat : Int) = 48 := by rw [ed]; exact h48
        repeat' (first | refine WO.cons ?_ | refine WB.cons ?_ | refine WP.one ?_ | ((first | apply W1.add64 | apply W1.sub64); (iterate 3 exact rfl); omega; omega) | (apply W1.iadr; (iterate 3 exact rfl); omega; first | assumption | ((first | apply V.get_row | apply get_srow | apply get_ty | apply get_ar | apply get_ob | apply get_sprow | apply get_brow); assumption)) | (apply W1.idxS; (iterate 3 exact rfl); omega; omega) | (apply W1.slcS; (iterate 4 exact rfl); omega) | (apply W1.pickT; exact rfl; exact rfl; (first | with_reducible rfl | assumption | (simp only [bn]; first | omega | assumption | decide)); exact rfl) | (apply W1.pickF; exact rfl; exact rfl; (first | with_reducible rfl | assumption | (simp only [bn]; first | omega | assumption | decide)); exact rfl) | (apply W1.op; (iterate 3 exact rfl)) | (apply W1.no; exact rfl) | ((first | apply W1.knowT | apply W1.knowFn | apply WQ.knowT | apply WQ.knowFn | apply W.condT); exact rfl; (first | with_reducible rfl | assumption | (simp only [bn]; first | omega | assumption | decide))) | ((first | apply W1.knowTn | apply W1.knowF | apply WQ.knowTn | apply WQ.knowF | apply W.condF); exact rfl; (first | with_reducible rfl | assumption | (simp only [bn]; first | omega | assumption | decide))) | (apply WQ.go; exact rfl; exact rfl) | (apply WQ.no; exact rfl) | ((first | apply W1.bothT | apply W1.bothF | apply WQ.bothT | apply WQ.bothF | apply W.cond); exact rfl; all_goals intro hc; all_goals first | (cases hc; done) | ((try simp only [hc]); (try simp only [bm] at hc))) | refine WO.nil ?_ | refine WB.nil ?_ | refine WP.bag rfl ?_ | refine WP.nil ?_ | refine W.seq ?_ | refine W.reg ?_ | refine W.dreg ?_ | refine W.block ?_ | refine W.ret ?_ | refine W.skip ?_ | refine W.exit ?_ | (simp only [sprow_len, brow_len, srow_len, List.length_map, Qit, Int.toNat_natCast, entry, Opd.eat, cellsOf, TV.ofCells, allAv, Qseq, Qblk, List.map_cons, List.map_nil, putD, kp, Nat.reduceEqDiff, ↓reduceIte, beq_self_eq_true, Nat.reduceBEq]))
        refine Qend.boo rfl rfl ?_
        have : (bAt (s.drop 1) 0) = 48 := (u8_eq _ 48 (by omega)).1 h48
        rw [hnum, hd, this]; simp
      · have h48' : ¬ ((bAt (List.drop (Int.toNat 1) (List.take s.length s)) (Int.toNat 0)).toNat : Int) = 48 := by rw [ed]; exact h48
        repeat' (first | refine WO.cons ?_ | refine WB.cons ?_ | refine WP.one ?_ | (exact fin _ (ed.trans hd.symm) (by rw [ed]; exact hl) h48' (by rw [ed]; simp; omega)) | ((first | apply W1.add64 | apply W1.sub64); (iterate 3 exact rfl); omega; omega) | (apply W1.iadr; (iterate 3 exact rfl); omega; first | assumption | ((first | apply V.get_row | apply get_srow | apply get_ty | apply get_ar | apply get_ob | apply get_sprow | apply get_brow); assumption)) | (apply W1.idxS; (iterate 3 exact rfl); omega; omega) | (apply W1.slcS; (iterate 4 exact rfl); omega) | (apply W1.pickT; exact rfl; exact rfl; (first | with_reducible rfl | assumption | (simp only [bn]; first | omega | assumption | decide)); exact rfl) | (apply W1.pickF; exact rfl; exact rfl; (first | with_reducible rfl | assumption | (simp only [bn]; first | omega | assumption | decide)); exact rfl) | (apply W1.op; (iterate 3 exact rfl)) | (apply W1.no; exact rfl) | ((first | apply W1.knowT | apply W1.knowFn | apply WQ.knowT | apply WQ.knowFn | apply W.condT); exact rfl; (first | with_reducible rfl | assumption | (simp only [bn]; first | omega | assumption | decide))) | ((first | apply W1.knowTn | apply W1.knowF | apply WQ.knowTn | apply WQ.knowF | apply W.condF); exact rfl; (first | with_reducible rfl | assumption | (simp only [bn]; first | omega | assumption | decide))) | (apply WQ.go; exact rfl; exact rfl) | (apply WQ.no; exact rfl) | ((first | apply W1.bothT | apply W1.bothF | apply WQ.bothT | apply WQ.bothF | apply W.cond); exact rfl; all_goals intro hc; all_goals first | (cases hc; done) | ((try simp only [hc]); (try simp only [bm] at hc))) | refine WO.nil ?_ | refine WB.nil ?_ | refine WP.bag rfl ?_ | refine WP.nil ?_ | refine W.seq ?_ | refine W.reg ?_ | refine W.dreg ?_ | refine W.block ?_ | refine W.ret ?_ | refine W.skip ?_ | refine W.exit ?_ | (simp only [sprow_len, brow_len, srow_len, List.length_map, Qit, Int.toNat_natCast, entry, Opd.eat, cellsOf, TV.ofCells, allAv, Qseq, Qblk, List.map_cons, List.map_nil, putD, kp, Nat.reduceEqDiff, ↓reduceIte, beq_self_eq_true, Nat.reduceBEq]))
    · have e0 : s.drop 1 = [] := List.eq_nil_of_length_eq_zero (by omega)
      have hne2 : List.drop (Int.toNat 1) (List.take s.length s) = [] := by rw [ed, e0]
      repeat' (first | refine WO.cons ?_ | refine WB.cons ?_ | refine WP.one ?_ | ((first | apply W1.add64 | apply W1.sub64); (iterate 3 exact rfl); omega; omega) | (apply W1.iadr; (iterate 3 exact rfl); omega; first | assumption | ((first | apply V.get_row | apply get_srow | apply get_ty | apply get_ar | apply get_ob | apply get_sprow | apply get_brow); assumption)) | (apply W1.idxS; (iterate 3 exact rfl); omega; omega) | (apply W1.slcS; (iterate 4 exact rfl); omega) | (apply W1.pickT; exact rfl; exact rfl; (first | with_reducible rfl | assumption | (simp only [bn]; first | omega | assumption | decide)); exact rfl) | (apply W1.pickF; exact rfl; exact rfl; (first | with_reducible rfl | assumption | (simp only [bn]; first | omega | assumption | decide)); exact rfl) | (apply W1.op; (iterate 3 exact rfl)) | (apply W1.no; exact rfl) | ((first | apply W1.knowT | apply W1.knowFn | apply WQ.knowT | apply WQ.knowFn | apply W.condT); exact rfl; (first | with_reducible rfl | assumption | (simp only [bn]; first | omega | assumption | decide))) | ((first | apply W1.knowTn | apply W1.knowF | apply WQ.knowTn | apply WQ.knowF | apply W.condF); exact rfl; (first | with_reducible rfl | assumption | (simp only [bn]; first | omega | assumption | decide))) | (apply WQ.go; exact rfl; exact rfl) | (apply WQ.no; exact rfl) | ((first | apply W1.bothT | apply W1.bothF | apply WQ.bothT | apply WQ.bothF | apply W.cond); exact rfl; all_goals intro hc; all_goals first | (cases hc; done) | ((try simp only [hc]); (try simp only [bm] at hc))) | refine WO.nil ?_ | refine WB.nil ?_ | refine WP.bag rfl ?_ | refine WP.nil ?_ | refine W.seq ?_ | refine W.reg ?_ | refine W.dreg ?_ | refine W.block ?_ | refine W.ret ?_ | refine W.skip ?_ | refine W.exit ?_ | (simp only [sprow_len, brow_len, srow_len, List.length_map, Qit, Int.toNat_natCast, entry, Opd.eat, cellsOf, TV.ofCells, allAv, Qseq, Qblk, List.map_cons, List.map_nil, putD, kp, Nat.reduceEqDiff, ↓reduceIte, beq_self_eq_true, Nat.reduceBEq]))
      refine Qend.boo rfl rfl ?_
      rw [hnum, hd, e0]; rfl
  · have hd : digs s = s := by rw [digs, if_neg (fun h => hm ⟨h.1, (u8_eq _ 45 (by omega)).2 h.2⟩)]
    by_cases hl : 0 < s.length
    · have hne : ¬ s = [] := (fun h => by rw [h] at hl; simp at hl)
      have hm' : ¬ ((bAt s (Int.toNat 0)).toNat : Int) = 45 := fun h => hm ⟨hl, h⟩
      by_cases h48 : ((bAt s 0).toNat : Int) = 48
      · have h48' : ((bAt s (Int.toNat 0)).toNat : Int) = 48 := h48
        repeat' (first | refine WO.cons ?_ | refine WB.cons ?_ | refine WP.one ?_ | ((first | apply W1.add64 | apply W1.sub64); (iterate 3 exact rfl); omega; omega) | (apply W1.iadr; (iterate 3 exact rfl); omega; first | assumption | ((first | apply V.get_row | apply get_srow | apply get_ty | apply get_ar | apply get_ob | apply get_sprow | apply get_brow); assumption)) | (apply W1.idxS; (iterate 3 exact rfl); omega; omega) | (apply W1.slcS; (iterate 4 exact rfl); omega) | (apply W1.pickT; exact rfl; exact rfl; (first | with_reducible rfl | assumption | (simp only [bn]; first | omega | assumption | decide)); exact rfl) | (apply W1.pickF; exact rfl; exact rfl; (first | with_reducible rfl | assumption | (simp only [bn]; first | omega | assumption | decide)); exact rfl) | (apply W1.op; (iterate 3 exact rfl)) | (apply W1.no; exact rfl) | ((first | apply W1.knowT | apply W1.knowFn | apply WQ.knowT | apply WQ.knowFn | apply W.condT); exact rfl; (first | with_reducible rfl | assumption | (simp only [bn]; first | omega | assumption | decide))) | ((first | apply W1.knowTn | apply W1.knowF | apply WQ.knowTn | apply WQ.knowF | apply W.condF); exact rfl; (first | with_reducible rfl | assumption | (simp only [bn]; first | omega | assumption | decide))) | (apply WQ.go; exact rfl; exact rfl) | (apply WQ.no; exact rfl) | ((first | apply W1.bothT | apply W1.bothF | apply WQ.bothT | apply WQ.bothF | apply W.cond); exact rfl; all_goals intro hc; all_goals first | (cases hc; done) | ((try simp only [hc]); (try simp only [bm] at hc))) | refine WO.nil ?_ | refine WB.nil ?_ | refine WP.bag rfl ?_ | refine WP.nil ?_ | refine W.seq ?_ | refine W.reg ?_ | refine W.dreg ?_ | refine W.block ?_ | refine W.ret ?_ | refine W.skip ?_ | refine W.exit ?_ | (simp only [sprow_len, brow_len, srow_len, List.length_map, Qit, Int.toNat_natCast, entry, Opd.eat, cellsOf, TV.ofCells, allAv, Qseq, Qblk, List.map_cons, List.map_nil, putD, kp, Nat.reduceEqDiff, ↓reduceIte, beq_self_eq_true, Nat.reduceBEq]))
        refine Qend.boo rfl rfl ?_
        have : (bAt s 0) = 48 := (u8_eq _ 48 (by omega)).1 h48
        rw [hnum, hd, this]; simp
      · have h48' : ¬ ((bAt s (Int.toNat 0)).toNat : Int) = 48 := h48
        repeat' (first | refine WO.cons ?_ | refine WB.cons ?_ | refine WP.one ?_ | (exact fin s hd.symm hl h48 hb) | ((first | apply W1.add64 | apply W1.sub64); (iterate 3 exact rfl); omega; omega) | (apply W1.iadr; (iterate 3 exact rfl); omega; first | assumption | ((first | apply V.get_row | apply get_srow | apply get_ty | apply get_ar | apply get_ob | apply get_sprow | apply get_brow); assumption)) | (apply W1.idxS; (iterate 3 exact rfl); omega; omega) | (apply W1.slcS; (iterate 4 exact rfl); omega) | (apply W1.pickT; exact rfl; exact rfl; (first | with_reducible rfl | assumption | (simp only [bn]; first | omega | assumption | decide)); exact rfl) | (apply W1.pickF; exact rfl; exact rfl; (first | with_reducible rfl | assumption | (simp only [bn]; first | omega | assumption | decide)); exact rfl) | (apply W1.op; (iterate 3 exact rfl)) | (apply W1.no; exact rfl) | ((first | apply W1.knowT | apply W1.knowFn | apply WQ.knowT | apply WQ.knowFn | apply W.condT); exact rfl; (first | with_reducible rfl | assumption | (simp only [bn]; first | omega | assumption | decide))) | ((first | apply W1.knowTn | apply W1.knowF | apply WQ.knowTn | apply WQ.knowF | apply W.condF); exact rfl; (first | with_reducible rfl | assumption | (simp only [bn]; first | omega | assumption | decide))) | (apply WQ.go; exact rfl; exact rfl) | (apply WQ.no; exact rfl) | ((first | apply W1.bothT | apply W1.bothF | apply WQ.bothT | apply WQ.bothF | apply W.cond); exact rfl; all_goals intro hc; all_goals first | (cases hc; done) | ((try simp only [hc]); (try simp only [bm] at hc))) | refine WO.nil ?_ | refine WB.nil ?_ | refine WP.bag rfl ?_ | refine WP.nil ?_ | refine W.seq ?_ | refine W.reg ?_ | refine W.dreg ?_ | refine W.block ?_ | refine W.ret ?_ | refine W.skip ?_ | refine W.exit ?_ | (simp only [sprow_len, brow_len, srow_len, List.length_map, Qit, Int.toNat_natCast, entry, Opd.eat, cellsOf, TV.ofCells, allAv, Qseq, Qblk, List.map_cons, List.map_nil, putD, kp, Nat.reduceEqDiff, ↓reduceIte, beq_self_eq_true, Nat.reduceBEq]))
    · have e0 : s = [] := List.eq_nil_of_length_eq_zero (by omega)
      subst e0
      repeat' (first | refine WO.cons ?_ | refine WB.cons ?_ | refine WP.one ?_ | ((first | apply W1.add64 | apply W1.sub64); (iterate 3 exact rfl); omega; omega) | (apply W1.iadr; (iterate 3 exact rfl); omega; first | assumption | ((first | apply V.get_row | apply get_srow | apply get_ty | apply get_ar | apply get_ob | apply get_sprow | apply get_brow); assumption)) | (apply W1.idxS; (iterate 3 exact rfl); omega; omega) | (apply W1.slcS; (iterate 4 exact rfl); omega) | (apply W1.pickT; exact rfl; exact rfl; (first | with_reducible rfl | assumption | (simp only [bn]; first | omega | assumption | decide)); exact rfl) | (apply W1.pickF; exact rfl; exact rfl; (first | with_reducible rfl | assumption | (simp only [bn]; first | omega | assumption | decide)); exact rfl) | (apply W1.op; (iterate 3 exact rfl)) | (apply W1.no; exact rfl) | ((first | apply W1.knowT | apply W1.knowFn | apply WQ.knowT | apply WQ.knowFn | apply W.condT); exact rfl; (first | with_reducible rfl | assumption | (simp only [bn]; first | omega | assumption | decide))) | ((first | apply W1.knowTn | apply W1.knowF | apply WQ.knowTn | apply WQ.knowF | apply W.condF); exact rfl; (first | with_reducible rfl | assumption | (simp only [bn]; first | omega | assumption | decide))) | (apply WQ.go; exact rfl; exact rfl) | (apply WQ.no; exact rfl) | ((first | apply W1.bothT | apply W1.bothF | apply WQ.bothT | apply WQ.bothF | apply W.cond); exact rfl; all_goals intro hc; all_goals first | (cases hc; done) | ((try simp only [hc]); (try simp only [bm] at hc))) | refine WO.nil ?_ | refine WB.nil ?_ | refine WP.bag rfl ?_ | refine WP.nil ?_ | refine W.seq ?_ | refine W.reg ?_ | refine W.dreg ?_ | refine W.block ?_ | refine W.ret ?_ | refine W.skip ?_ | refine W.exit ?_ | (simp only [sprow_len, brow_len, srow_len, List.length_map, Qit, Int.toNat_natCast, entry, Opd.eat, cellsOf, TV.ofCells, allAv, Qseq, Qblk, List.map_cons, List.map_nil, putD, kp, Nat.reduceEqDiff, ↓reduceIte, beq_self_eq_true, Nat.reduceBEq]))
      exact Qend.boo rfl rfl rfl
end Hm

/- Whole numbers in tens in order, as the program has them. Conditions: see each theorem. -/
namespace Hm
open Go (IntKind)
set_option maxHeartbeats 4000000
set_option maxRecDepth 4000
theorem tensSize_ret {T : Tab} (h : Fn T F.tens_size tens_size.fn) (a b : Str) (hl : a.length ≤ 1073741824) (hl' : b.length ≤ 1073741824) : Ret T F.tens_size [.val (.str a), .val (.str b)] (one (.int .i64 (ncmp a b))) := by
  refine Ret.mk h rfl ?_
  repeat' (first | refine WO.cons ?_ | refine WB.cons ?_ | refine WP.one ?_ | ((first | apply W1.add64 | apply W1.sub64); (iterate 3 exact rfl); omega; omega) | (apply W1.iadr; (iterate 3 exact rfl); omega; first | assumption | ((first | apply V.get_row | apply get_srow | apply get_ty | apply get_ar | apply get_ob | apply get_sprow | apply get_brow); assumption)) | (apply W1.idxS; (iterate 3 exact rfl); omega; omega) | (apply W1.slcS; (iterate 4 exact rfl); omega) | (apply W1.pickT; exact rfl; exact rfl; (first | with_reducible rfl | assumption | (simp only [bn]; first | omega | assumption | decide)); exact rfl) | (apply W1.pickF; exact rfl; exact rfl; (first | with_reducible rfl | assumption | (simp only [bn]; first | omega | assumption | decide)); exact rfl) | (apply W1.op; (iterate 3 exact rfl)) | (apply W1.no; exact rfl) | ((first | apply W1.knowT | apply W1.knowFn | apply WQ.knowT | apply WQ.knowFn | apply W.condT); exact rfl; (first | with_reducible rfl | assumption | (simp only [bn]; first | omega | assumption | decide))) | ((first | apply W1.knowTn | apply W1.knowF | apply WQ.knowTn | apply WQ.knowF | apply W.condF); exact rfl; (first | with_reducible rfl | assumption | (simp only [bn]; first | omega | assumption | decide))) | (apply WQ.go; exact rfl; exact rfl) | (apply WQ.no; exact rfl) | ((first | apply W1.bothT | apply W1.bothF | apply WQ.bothT | apply WQ.bothF | apply W.cond); exact rfl; all_goals intro hc; all_goals first | (cases hc; done) | ((try simp only [hc]); (try simp only [bm] at hc))) | refine WO.nil ?_ | refine WB.nil ?_ | refine WP.bag rfl ?_ | refine WP.nil ?_ | refine W.seq ?_ | refine W.reg ?_ | refine W.dreg ?_ | refine W.block ?_ | refine W.ret ?_ | refine W.skip ?_ | refine W.exit ?_ | (simp only [srow_len, List.length_map, Qit, Int.toNat_natCast, entry, Opd.eat, cellsOf, TV.ofCells, allAv, Qseq, Qblk, List.map_cons, List.map_nil, putD, kp, Nat.reduceEqDiff, ↓reduceIte, beq_self_eq_true, Nat.reduceBEq]))
  all_goals refine Qend.num rfl rfl ?_
  all_goals simp only [ncmp, tcmp]
  · have hne : ¬ a.length = b.length := by omega
    simp only [hne, if_false]
    by_cases h1 : a.length < b.length
    · simp only [h1, if_true]
      by_cases h2 : (-1 : Int) > (a.length : Int) - b.length
      · simp [h2]
      · have : (a.length : Int) - b.length = -1 := by omega
        simp [this]
    · simp only [h1, if_false]
      have h2 : ¬ (-1 : Int) > (a.length : Int) - b.length := by omega
      simp only [h2, if_false]
      by_cases h3 : (1 : Int) < (a.length : Int) - b.length
      · simp [h3]
      · have : (a.length : Int) - b.length = 1 := by omega
        simp [this]
  · rw [if_pos (by omega)]; simp_all
  · rw [if_pos (by omega)]; simp_all
  · rw [if_pos (by omega)]; simp_all
theorem tensSplit_ret {T : Tab} (h : Fn T F.tens_split tens_split.fn) (a : Str) (ha : 0 < a.length) (hl : a.length ≤ 1073741824) : Ret T F.tens_split [.val (.str a)] (two (.bool (minus a)) (.str (if minus a then a.drop 1 else a))) := by
  have ed : List.drop (Int.toNat 1) (List.take a.length a) = a.drop 1 := by rw [List.take_length]; rfl
  by_cases hm : ((bAt a 0).toNat : Int) = 45
  · have hm' : ((bAt a (Int.toNat 0)).toNat : Int) = 45 := hm
    have hmm : minus a = true := by simp [minus, hm]
    rw [hmm]
    refine Ret.mk h rfl ?_
    repeat' (first | refine WO.cons ?_ | refine WB.cons ?_ | refine WP.one ?_ | ((first | apply W1.add64 | apply W1.sub64); (iterate 3 exact rfl); omega; omega) | (apply W1.iadr; (iterate 3 exact rfl); omega; first | assumption | ((first | apply V.get_row | apply get_srow | apply get_ty | apply get_ar | apply get_ob | apply get_sprow | apply get_brow); assumption)) | (apply W1.idxS; (iterate 3 exact rfl); omega; omega) | (apply W1.slcS; (iterate 4 exact rfl); omega) | (apply W1.pickT; exact rfl; exact rfl; (first | with_reducible rfl | assumption | (simp only [bn]; first | omega | assumption | decide)); exact rfl) | (apply W1.pickF; exact rfl; exact rfl; (first | with_reducible rfl | assumption | (simp only [bn]; first | omega | assumption | decide)); exact rfl) | (apply W1.op; (iterate 3 exact rfl)) | (apply W1.no; exact rfl) | ((first | apply W1.knowT | apply W1.knowFn | apply WQ.knowT | apply WQ.knowFn | apply W.condT); exact rfl; (first | with_reducible rfl | assumption | (simp only [bn]; first | omega | assumption | decide))) | ((first | apply W1.knowTn | apply W1.knowF | apply WQ.knowTn | apply WQ.knowF | apply W.condF); exact rfl; (first | with_reducible rfl | assumption | (simp only [bn]; first | omega | assumption | decide))) | (apply WQ.go; exact rfl; exact rfl) | (apply WQ.no; exact rfl) | ((first | apply W1.bothT | apply W1.bothF | apply WQ.bothT | apply WQ.bothF | apply W.cond); exact rfl; all_goals intro hc; all_goals first | (cases hc; done) | ((try simp only [hc]); (try simp only [bm] at hc))) | refine WO.nil ?_ | refine WB.nil ?_ | refine WP.bag rfl ?_ | refine WP.nil ?_ | refine W.seq ?_ | refine W.reg ?_ | refine W.dreg ?_ | refine W.block ?_ | refine W.ret ?_ | refine W.skip ?_ | refine W.exit ?_ | (simp only [srow_len, List.length_map, Qit, Int.toNat_natCast, entry, Opd.eat, cellsOf, TV.ofCells, allAv, Qseq, Qblk, List.map_cons, List.map_nil, putD, kp, Nat.reduceEqDiff, ↓reduceIte, beq_self_eq_true, Nat.reduceBEq]))
    refine Qend.two rfl rfl rfl ?_
    rw [ed]
  · have hm' : ¬ ((bAt a (Int.toNat 0)).toNat : Int) = 45 := hm
    have hmm : minus a = false := by simp [minus, hm]
    rw [hmm]
    refine Ret.mk h rfl ?_
    repeat' (first | refine WO.cons ?_ | refine WB.cons ?_ | refine WP.one ?_ | ((first | apply W1.add64 | apply W1.sub64); (iterate 3 exact rfl); omega; omega) | (apply W1.iadr; (iterate 3 exact rfl); omega; first | assumption | ((first | apply V.get_row | apply get_srow | apply get_ty | apply get_ar | apply get_ob | apply get_sprow | apply get_brow); assumption)) | (apply W1.idxS; (iterate 3 exact rfl); omega; omega) | (apply W1.slcS; (iterate 4 exact rfl); omega) | (apply W1.pickT; exact rfl; exact rfl; (first | with_reducible rfl | assumption | (simp only [bn]; first | omega | assumption | decide)); exact rfl) | (apply W1.pickF; exact rfl; exact rfl; (first | with_reducible rfl | assumption | (simp only [bn]; first | omega | assumption | decide)); exact rfl) | (apply W1.op; (iterate 3 exact rfl)) | (apply W1.no; exact rfl) | ((first | apply W1.knowT | apply W1.knowFn | apply WQ.knowT | apply WQ.knowFn | apply W.condT); exact rfl; (first | with_reducible rfl | assumption | (simp only [bn]; first | omega | assumption | decide))) | ((first | apply W1.knowTn | apply W1.knowF | apply WQ.knowTn | apply WQ.knowF | apply W.condF); exact rfl; (first | with_reducible rfl | assumption | (simp only [bn]; first | omega | assumption | decide))) | (apply WQ.go; exact rfl; exact rfl) | (apply WQ.no; exact rfl) | ((first | apply W1.bothT | apply W1.bothF | apply WQ.bothT | apply WQ.bothF | apply W.cond); exact rfl; all_goals intro hc; all_goals first | (cases hc; done) | ((try simp only [hc]); (try simp only [bm] at hc))) | refine WO.nil ?_ | refine WB.nil ?_ | refine WP.bag rfl ?_ | refine WP.nil ?_ | refine W.seq ?_ | refine W.reg ?_ | refine W.dreg ?_ | refine W.block ?_ | refine W.ret ?_ | refine W.skip ?_ | refine W.exit ?_ | (simp only [srow_len, List.length_map, Qit, Int.toNat_natCast, entry, Opd.eat, cellsOf, TV.ofCells, allAv, Qseq, Qblk, List.map_cons, List.map_nil, putD, kp, Nat.reduceEqDiff, ↓reduceIte, beq_self_eq_true, Nat.reduceBEq]))
    exact Qend.two rfl rfl rfl rfl
theorem tensCmp_ret {T : Tab} (h : Fn T F.tens_Cmp tens_Cmp.fn) (h1 : Fn T F.tens_size tens_size.fn) (h2 : Fn T F.tens_split tens_split.fn) (h3 : Fn T F.tens_Formed tens_Formed.fn) (a b : Str) (ha : number a = true) (hb : number b = true) (hl : a.length ≤ 1073741824) (hl' : b.length ≤ 1073741824) :
    Ret T F.tens_Cmp [.val (.str a), .val (.str b)] (two (.int .i64 (zcmp a b)) (.int .i64 0)) := by
  have f1 := tensFormed_ret h3 a hl
  have f2 := tensFormed_ret h3 b hl'
  rw [ha] at f1
  rw [hb] at f2
  have s1 := tensSplit_ret h2 a (number_len ha) hl
  have s2 := tensSplit_ret h2 b (number_len hb) hl'
  have z1 := tensSize_ret h1 a b hl hl'
  have z2 := tensSize_ret h1 (b.drop 1) (a.drop 1) (by simp; omega) (by simp; omega)
  refine Ret.mk h rfl ?_
  cases ma : minus a <;> cases mb : minus b <;> simp only [ma, mb, Bool.false_eq_true, if_false, if_true] at s1 s2
  repeat' (first | refine WO.cons ?_ | refine WB.cons ?_ | refine WP.one ?_ | (first | (apply WQ.call (hm := h3.modes); (iterate 4 exact rfl)) | (apply W1.callV (hm := h3.modes); (iterate 5 exact rfl); exact (f1); exact rfl)) | (first | (apply WQ.call (hm := h3.modes); (iterate 4 exact rfl)) | (apply W1.callV (hm := h3.modes); (iterate 5 exact rfl); exact (f2); exact rfl)) | (first | (apply WQ.call (hm := h2.modes); (iterate 4 exact rfl)) | (apply W1.callV (hm := h2.modes); (iterate 5 exact rfl); exact (s1); exact rfl)) | (first | (apply WQ.call (hm := h2.modes); (iterate 4 exact rfl)) | (apply W1.callV (hm := h2.modes); (iterate 5 exact rfl); exact (s2); exact rfl)) | (first | (apply WQ.call (hm := h1.modes); (iterate 4 exact rfl)) | (apply W1.callV (hm := h1.modes); (iterate 5 exact rfl); exact (z1); exact rfl)) | (first | (apply WQ.call (hm := h1.modes); (iterate 4 exact rfl)) | (apply W1.callV (hm := h1.modes); (iterate 5 exact rfl); exact (z2); exact rfl)) | ((first | apply W1.add64 | apply W1.sub64); (iterate 3 exact rfl); omega; omega) | (apply W1.iadr; (iterate 3 exact rfl); omega; first | assumption | ((first | apply V.get_row | apply get_srow | apply get_ty | apply get_ar | apply get_ob | apply get_sprow | apply get_brow); assumption)) | (apply W1.idxS; (iterate 3 exact rfl); omega; omega) | (apply W1.slcS; (iterate 4 exact rfl); omega) | (apply W1.pickT; exact rfl; exact rfl; (first | with_reducible rfl | assumption | (simp only [bn]; first | omega | assumption | decide)); exact rfl) | (apply W1.pickF; exact rfl; exact rfl; (first | with_reducible rfl | assumption | (simp only [bn]; first | omega | assumption | decide)); exact rfl) | (apply W1.op; (iterate 3 exact rfl)) | (apply W1.no; exact rfl) | ((first | apply W1.knowT | apply W1.knowFn | apply WQ.knowT | apply WQ.knowFn | apply W.condT); exact rfl; (first | with_reducible rfl | assumption | (simp only [bn]; first | omega | assumption | decide))) | ((first | apply W1.knowTn | apply W1.knowF | apply WQ.knowTn | apply WQ.knowF | apply W.condF); exact rfl; (first | with_reducible rfl | assumption | (simp only [bn]; first | omega | assumption | decide))) | (apply WQ.go; exact rfl; exact rfl) | (apply WQ.no; exact rfl) | ((first | apply W1.bothT | apply W1.bothF | apply WQ.bothT | apply WQ.bothF | apply W.cond); exact rfl; all_goals intro hc; all_goals first | (cases hc; done) | ((try simp only [hc]); (try simp only [bm] at hc))) | refine WO.nil ?_ | refine WB.nil ?_ | refine WP.bag rfl ?_ | refine WP.nil ?_ | refine W.seq ?_ | refine W.reg ?_ | refine W.dreg ?_ | refine W.block ?_ | refine W.ret ?_ | refine W.skip ?_ | refine W.exit ?_ | (simp only [srow_len, List.length_map, Qit, Int.toNat_natCast, entry, Opd.eat, cellsOf, TV.ofCells, allAv, Qseq, Qblk, List.map_cons, List.map_nil, putD, kp, Nat.reduceEqDiff, ↓reduceIte, beq_self_eq_true, Nat.reduceBEq]))
  all_goals refine Qend.two rfl rfl ?_ rfl
  all_goals first | (simp [zcmp, ma, mb]; done) | (simp [zcmp, ma, mb]; rfl)
end Hm

/- Comparisons of Go's library. Conditions: see each theorem. -/
namespace Hm
open Go (IntKind)
set_option maxHeartbeats 4000000
set_option maxRecDepth 4000
theorem isNaNInt_ret {T : Tab} (h : Fn T F.cmp_isNaN_int cmp_isNaN_int.fn) (a : Int) : Ret T F.cmp_isNaN_int [.val (.int .i64 a)] (one (.bool false)) := by
  refine Ret.mk h rfl ?_
  repeat' (first | refine WO.cons ?_ | refine WB.cons ?_ | refine WP.one ?_ | ((first | apply W1.add64 | apply W1.sub64); (iterate 3 exact rfl); omega; omega) | (apply W1.iadr; (iterate 3 exact rfl); omega; first | assumption | ((first | apply V.get_row | apply get_srow | apply get_ty | apply get_ar | apply get_ob | apply get_sprow | apply get_brow); assumption)) | (apply W1.idxS; (iterate 3 exact rfl); omega; omega) | (apply W1.slcS; (iterate 4 exact rfl); omega) | (apply W1.pickT; exact rfl; exact rfl; (first | with_reducible rfl | assumption | (simp only [bn]; first | omega | assumption | decide)); exact rfl) | (apply W1.pickF; exact rfl; exact rfl; (first | with_reducible rfl | assumption | (simp only [bn]; first | omega | assumption | decide)); exact rfl) | (apply W1.op; (iterate 3 exact rfl)) | (apply W1.no; exact rfl) | ((first | apply W1.knowT | apply W1.knowFn | apply WQ.knowT | apply WQ.knowFn | apply W.condT); exact rfl; (first | with_reducible rfl | assumption | (simp only [bn]; first | omega | assumption | decide))) | ((first | apply W1.knowTn | apply W1.knowF | apply WQ.knowTn | apply WQ.knowF | apply W.condF); exact rfl; (first | with_reducible rfl | assumption | (simp only [bn]; first | omega | assumption | decide))) | (apply WQ.go; exact rfl; exact rfl) | (apply WQ.no; exact rfl) | ((first | apply W1.bothT | apply W1.bothF | apply WQ.bothT | apply WQ.bothF | apply W.cond); exact rfl; all_goals intro hc; all_goals first | (cases hc; done) | ((try simp only [hc]); (try simp only [bm] at hc))) | refine WO.nil ?_ | refine WB.nil ?_ | refine WP.bag rfl ?_ | refine WP.nil ?_ | refine W.seq ?_ | refine W.reg ?_ | refine W.dreg ?_ | refine W.block ?_ | refine W.ret ?_ | refine W.skip ?_ | refine W.exit ?_ | (simp only [srow_len, List.length_map, Qit, Int.toNat_natCast, entry, Opd.eat, cellsOf, TV.ofCells, allAv, Qseq, Qblk, List.map_cons, List.map_nil, putD, kp, Nat.reduceEqDiff, ↓reduceIte, beq_self_eq_true, Nat.reduceBEq]))
  refine Qend.boo rfl rfl ?_
  simp
theorem isNaNStr_ret {T : Tab} (h : Fn T F.cmp_isNaN_string cmp_isNaN_string.fn) (a : Str) : Ret T F.cmp_isNaN_string [.val (.str a)] (one (.bool false)) := by
  refine Ret.mk h rfl ?_
  repeat' (first | refine WO.cons ?_ | refine WB.cons ?_ | refine WP.one ?_ | ((first | apply W1.add64 | apply W1.sub64); (iterate 3 exact rfl); omega; omega) | (apply W1.iadr; (iterate 3 exact rfl); omega; first | assumption | ((first | apply V.get_row | apply get_srow | apply get_ty | apply get_ar | apply get_ob | apply get_sprow | apply get_brow); assumption)) | (apply W1.idxS; (iterate 3 exact rfl); omega; omega) | (apply W1.slcS; (iterate 4 exact rfl); omega) | (apply W1.pickT; exact rfl; exact rfl; (first | with_reducible rfl | assumption | (simp only [bn]; first | omega | assumption | decide)); exact rfl) | (apply W1.pickF; exact rfl; exact rfl; (first | with_reducible rfl | assumption | (simp only [bn]; first | omega | assumption | decide)); exact rfl) | (apply W1.op; (iterate 3 exact rfl)) | (apply W1.no; exact rfl) | ((first | apply W1.knowT | apply W1.knowFn | apply WQ.knowT | apply WQ.knowFn | apply W.condT); exact rfl; (first | with_reducible rfl | assumption | (simp only [bn]; first | omega | assumption | decide))) | ((first | apply W1.knowTn | apply W1.knowF | apply WQ.knowTn | apply WQ.knowF | apply W.condF); exact rfl; (first | with_reducible rfl | assumption | (simp only [bn]; first | omega | assumption | decide))) | (apply WQ.go; exact rfl; exact rfl) | (apply WQ.no; exact rfl) | ((first | apply W1.bothT | apply W1.bothF | apply WQ.bothT | apply WQ.bothF | apply W.cond); exact rfl; all_goals intro hc; all_goals first | (cases hc; done) | ((try simp only [hc]); (try simp only [bm] at hc))) | refine WO.nil ?_ | refine WB.nil ?_ | refine WP.bag rfl ?_ | refine WP.nil ?_ | refine W.seq ?_ | refine W.reg ?_ | refine W.dreg ?_ | refine W.block ?_ | refine W.ret ?_ | refine W.skip ?_ | refine W.exit ?_ | (simp only [srow_len, List.length_map, Qit, Int.toNat_natCast, entry, Opd.eat, cellsOf, TV.ofCells, allAv, Qseq, Qblk, List.map_cons, List.map_nil, putD, kp, Nat.reduceEqDiff, ↓reduceIte, beq_self_eq_true, Nat.reduceBEq]))
  refine Qend.boo rfl rfl ?_
  simp
theorem cmpInt_ret {T : Tab} (h : Fn T F.cmp_Compare_int cmp_Compare_int.fn) (h1 : Fn T F.cmp_isNaN_int cmp_isNaN_int.fn) (a b : Int) : Ret T F.cmp_Compare_int [.val (.int .i64 a), .val (.int .i64 b)] (one (.int .i64 (icmp a b))) := by
  have r1 := isNaNInt_ret h1 a
  have r2 := isNaNInt_ret h1 b
  refine Ret.mk h rfl ?_
  repeat' (first | refine WO.cons ?_ | refine WB.cons ?_ | refine WP.one ?_ | (first | (apply WQ.call (hm := h1.modes); (iterate 4 exact rfl)) | (apply W1.callV (hm := h1.modes); (iterate 5 exact rfl); exact (r1); exact rfl)) | (first | (apply WQ.call (hm := h1.modes); (iterate 4 exact rfl)) | (apply W1.callV (hm := h1.modes); (iterate 5 exact rfl); exact (r2); exact rfl)) | ((first | apply W1.add64 | apply W1.sub64); (iterate 3 exact rfl); omega; omega) | (apply W1.iadr; (iterate 3 exact rfl); omega; first | assumption | ((first | apply V.get_row | apply get_srow | apply get_ty | apply get_ar | apply get_ob | apply get_sprow | apply get_brow); assumption)) | (apply W1.idxS; (iterate 3 exact rfl); omega; omega) | (apply W1.slcS; (iterate 4 exact rfl); omega) | (apply W1.pickT; exact rfl; exact rfl; (first | with_reducible rfl | assumption | (simp only [bn]; first | omega | assumption | decide)); exact rfl) | (apply W1.pickF; exact rfl; exact rfl; (first | with_reducible rfl | assumption | (simp only [bn]; first | omega | assumption | decide)); exact rfl) | (apply W1.op; (iterate 3 exact rfl)) | (apply W1.no; exact rfl) | ((first | apply W1.knowT | apply W1.knowFn | apply WQ.knowT | apply WQ.knowFn | apply W.condT); exact rfl; (first | with_reducible rfl | assumption | (simp only [bn]; first | omega | assumption | decide))) | ((first | apply W1.knowTn | apply W1.knowF | apply WQ.knowTn | apply WQ.knowF | apply W.condF); exact rfl; (first | with_reducible rfl | assumption | (simp only [bn]; first | omega | assumption | decide))) | (apply WQ.go; exact rfl; exact rfl) | (apply WQ.no; exact rfl) | ((first | apply W1.bothT | apply W1.bothF | apply WQ.bothT | apply WQ.bothF | apply W.cond); exact rfl; all_goals intro hc; all_goals first | (cases hc; done) | ((try simp only [hc]); (try simp only [bm] at hc))) | refine WO.nil ?_ | refine WB.nil ?_ | refine WP.bag rfl ?_ | refine WP.nil ?_ | refine W.seq ?_ | refine W.reg ?_ | refine W.dreg ?_ | refine W.block ?_ | refine W.ret ?_ | refine W.skip ?_ | refine W.exit ?_ | (simp only [srow_len, List.length_map, Qit, Int.toNat_natCast, entry, Opd.eat, cellsOf, TV.ofCells, allAv, Qseq, Qblk, List.map_cons, List.map_nil, putD, kp, Nat.reduceEqDiff, ↓reduceIte, beq_self_eq_true, Nat.reduceBEq]))
  all_goals refine Qend.num rfl rfl ?_
  all_goals simp only [icmp]
  all_goals first
    | rw [if_pos (by omega)]
    | (rw [if_neg (by omega), if_pos (by omega)]; done)
    | (rw [if_neg (by omega), if_neg (by omega)]; done)
theorem cmpStr_ret {T : Tab} (h : Fn T F.cmp_Compare_string cmp_Compare_string.fn) (h1 : Fn T F.cmp_isNaN_string cmp_isNaN_string.fn) (a b : Str) : Ret T F.cmp_Compare_string [.val (.str a), .val (.str b)] (one (.int .i64 (tcmp a b))) := by
  have r1 := isNaNStr_ret h1 a
  have r2 := isNaNStr_ret h1 b
  refine Ret.mk h rfl ?_
  repeat' (first | refine WO.cons ?_ | refine WB.cons ?_ | refine WP.one ?_ | (first | (apply WQ.call (hm := h1.modes); (iterate 4 exact rfl)) | (apply W1.callV (hm := h1.modes); (iterate 5 exact rfl); exact (r1); exact rfl)) | (first | (apply WQ.call (hm := h1.modes); (iterate 4 exact rfl)) | (apply W1.callV (hm := h1.modes); (iterate 5 exact rfl); exact (r2); exact rfl)) | ((first | apply W1.add64 | apply W1.sub64); (iterate 3 exact rfl); omega; omega) | (apply W1.iadr; (iterate 3 exact rfl); omega; first | assumption | ((first | apply V.get_row | apply get_srow | apply get_ty | apply get_ar | apply get_ob | apply get_sprow | apply get_brow); assumption)) | (apply W1.idxS; (iterate 3 exact rfl); omega; omega) | (apply W1.slcS; (iterate 4 exact rfl); omega) | (apply W1.pickT; exact rfl; exact rfl; (first | with_reducible rfl | assumption | (simp only [bn]; first | omega | assumption | decide)); exact rfl) | (apply W1.pickF; exact rfl; exact rfl; (first | with_reducible rfl | assumption | (simp only [bn]; first | omega | assumption | decide)); exact rfl) | (apply W1.op; (iterate 3 exact rfl)) | (apply W1.no; exact rfl) | ((first | apply W1.knowT | apply W1.knowFn | apply WQ.knowT | apply WQ.knowFn | apply W.condT); exact rfl; (first | with_reducible rfl | assumption | (simp only [bn]; first | omega | assumption | decide))) | ((first | apply W1.knowTn | apply W1.knowF | apply WQ.knowTn | apply WQ.knowF | apply W.condF); exact rfl; (first | with_reducible rfl | assumption | (simp only [bn]; first | omega | assumption | decide))) | (apply WQ.go; exact rfl; exact rfl) | (apply WQ.no; exact rfl) | ((first | apply W1.bothT | apply W1.bothF | apply WQ.bothT | apply WQ.bothF | apply W.cond); exact rfl; all_goals intro hc; all_goals first | (cases hc; done) | ((try simp only [hc]); (try simp only [bm] at hc))) | refine WO.nil ?_ | refine WB.nil ?_ | refine WP.bag rfl ?_ | refine WP.nil ?_ | refine W.seq ?_ | refine W.reg ?_ | refine W.dreg ?_ | refine W.block ?_ | refine W.ret ?_ | refine W.skip ?_ | refine W.exit ?_ | (simp only [srow_len, List.length_map, Qit, Int.toNat_natCast, entry, Opd.eat, cellsOf, TV.ofCells, allAv, Qseq, Qblk, List.map_cons, List.map_nil, putD, kp, Nat.reduceEqDiff, ↓reduceIte, beq_self_eq_true, Nat.reduceBEq]))
  all_goals refine Qend.num rfl rfl ?_
  all_goals simp_all [tcmp]
theorem lcmp_drop {α : Type} {c : α → α → Int} {l m : List α} {i : Nat} {x y : α} (hx : l[i]? = some x) (hy : m[i]? = some y) : lcmp c (l.drop i) (m.drop i) = orI (c x y) (lcmp c (l.drop (i + 1)) (m.drop (i + 1))) := by
  have h1 := (List.getElem?_eq_some_iff.1 hx)
  have h2 := (List.getElem?_eq_some_iff.1 hy)
  obtain ⟨h1, rfl⟩ := h1
  obtain ⟨h2, rfl⟩ := h2
  rw [List.drop_eq_getElem_cons h1, List.drop_eq_getElem_cons h2, lcmp]
theorem lcmp_more {α : Type} {c : α → α → Int} {l m : List α} {i : Nat} (h1 : i < l.length) (h2 : m.length ≤ i) : lcmp c (l.drop i) (m.drop i) = 1 := by
  rw [List.drop_eq_getElem_cons h1, List.drop_eq_nil_of_le h2, lcmp]
theorem lcmp_end {α : Type} {c : α → α → Int} {l m : List α} : lcmp c (l.drop l.length) (m.drop l.length) = if l.length < m.length then -1 else 0 := by
  rw [List.drop_length]
  by_cases h : l.length < m.length
  · rw [if_pos h, List.drop_eq_getElem_cons h, lcmp]
  · rw [if_neg h, List.drop_eq_nil_of_le (by omega), lcmp]
theorem cmpStrs_ret {T : Tab} (h : Fn T F.slices_Compare_Lstring_string slices_Compare_Lstring_string.fn) (h0 : Fn T F.cmp_Compare_string cmp_Compare_string.fn) (h1 : Fn T F.cmp_isNaN_string cmp_isNaN_string.fn) (l m : List Str) (hl : l.length ≤ 1073741824) (hm : m.length ≤ 1073741824) :
    Ret T F.slices_Compare_Lstring_string [.val (.lst 1 (srow l)), .val (.lst 1 (srow m))] (one (.int .i64 (lcmp tcmp l m))) := by
  have e1 := srow_len l
  have e2 := srow_len m
  refine Ret.mk h rfl ?_
  repeat' (first | refine WO.cons ?_ | refine WB.cons ?_ | refine WP.one ?_ | ((first | apply W1.add64 | apply W1.sub64); (iterate 3 exact rfl); omega; omega) | (apply W1.iadr; (iterate 3 exact rfl); omega; first | assumption | ((first | apply V.get_row | apply get_srow | apply get_ty | apply get_ar | apply get_ob | apply get_sprow | apply get_brow); assumption)) | (apply W1.idxS; (iterate 3 exact rfl); omega; omega) | (apply W1.slcS; (iterate 4 exact rfl); omega) | (apply W1.pickT; exact rfl; exact rfl; (first | with_reducible rfl | assumption | (simp only [bn]; first | omega | assumption | decide)); exact rfl) | (apply W1.pickF; exact rfl; exact rfl; (first | with_reducible rfl | assumption | (simp only [bn]; first | omega | assumption | decide)); exact rfl) | (apply W1.op; (iterate 3 exact rfl)) | (apply W1.no; exact rfl) | ((first | apply W1.knowT | apply W1.knowFn | apply WQ.knowT | apply WQ.knowFn | apply W.condT); exact rfl; (first | with_reducible rfl | assumption | (simp only [bn]; first | omega | assumption | decide))) | ((first | apply W1.knowTn | apply W1.knowF | apply WQ.knowTn | apply WQ.knowF | apply W.condF); exact rfl; (first | with_reducible rfl | assumption | (simp only [bn]; first | omega | assumption | decide))) | (apply WQ.go; exact rfl; exact rfl) | (apply WQ.no; exact rfl) | ((first | apply W1.bothT | apply W1.bothF | apply WQ.bothT | apply WQ.bothF | apply W.cond); exact rfl; all_goals intro hc; all_goals first | (cases hc; done) | ((try simp only [hc]); (try simp only [bm] at hc))) | refine WO.nil ?_ | refine WB.nil ?_ | refine WP.bag rfl ?_ | refine WP.nil ?_ | refine W.seq ?_ | refine W.reg ?_ | refine W.dreg ?_ | refine W.block ?_ | refine W.ret ?_ | refine W.skip ?_ | refine W.exit ?_ | (simp only [srow_len, List.length_map, Qit, Int.toNat_natCast, entry, Opd.eat, cellsOf, TV.ofCells, allAv, Qseq, Qblk, List.map_cons, List.map_nil, putD, kp, Nat.reduceEqDiff, ↓reduceIte, beq_self_eq_true, Nat.reduceBEq]))
  refine W.listP l (fun i (_ : Unit) s => s.put 11 (.av (.int .i64 (i : Int)))) (fun i _ => i ≤ m.length ∧ lcmp tcmp (l.drop i) (m.drop i) = lcmp tcmp l m) () ⟨by omega, rfl⟩ rfl ?_ ?_
  · intro i x u hx hi hp
    obtain ⟨hp1, hp2⟩ := hp
    by_cases him : i < m.length
    · obtain ⟨y, hy⟩ : ∃ y, m[i]? = some y := ⟨m[i], List.getElem?_eq_getElem him⟩
      have r := cmpStr_ret h0 h1 x y
      have e := lcmp_drop (c := tcmp) hx hy
      repeat' (first | refine WO.cons ?_ | refine WB.cons ?_ | refine WP.one ?_ | (first | (apply WQ.call (hm := h0.modes); (iterate 4 exact rfl)) | (apply W1.callV (hm := h0.modes); (iterate 5 exact rfl); exact (r); exact rfl)) | ((first | apply W1.add64 | apply W1.sub64); (iterate 3 exact rfl); omega; omega) | (apply W1.iadr; (iterate 3 exact rfl); omega; first | assumption | ((first | apply V.get_row | apply get_srow | apply get_ty | apply get_ar | apply get_ob | apply get_sprow | apply get_brow); assumption)) | (apply W1.idxS; (iterate 3 exact rfl); omega; omega) | (apply W1.slcS; (iterate 4 exact rfl); omega) | (apply W1.pickT; exact rfl; exact rfl; (first | with_reducible rfl | assumption | (simp only [bn]; first | omega | assumption | decide)); exact rfl) | (apply W1.pickF; exact rfl; exact rfl; (first | with_reducible rfl | assumption | (simp only [bn]; first | omega | assumption | decide)); exact rfl) | (apply W1.op; (iterate 3 exact rfl)) | (apply W1.no; exact rfl) | ((first | apply W1.knowT | apply W1.knowFn | apply WQ.knowT | apply WQ.knowFn | apply W.condT); exact rfl; (first | with_reducible rfl | assumption | (simp only [bn]; first | omega | assumption | decide))) | ((first | apply W1.knowTn | apply W1.knowF | apply WQ.knowTn | apply WQ.knowF | apply W.condF); exact rfl; (first | with_reducible rfl | assumption | (simp only [bn]; first | omega | assumption | decide))) | (apply WQ.go; exact rfl; exact rfl) | (apply WQ.no; exact rfl) | ((first | apply W1.bothT | apply W1.bothF | apply WQ.bothT | apply WQ.bothF | apply W.cond); exact rfl; all_goals intro hc; all_goals first | (cases hc; done) | ((try simp only [hc]); (try simp only [bm] at hc))) | refine WO.nil ?_ | refine WB.nil ?_ | refine WP.bag rfl ?_ | refine WP.nil ?_ | refine W.seq ?_ | refine W.reg ?_ | refine W.dreg ?_ | refine W.block ?_ | refine W.ret ?_ | refine W.skip ?_ | refine W.exit ?_ | (simp only [srow_len, List.length_map, Qit, Int.toNat_natCast, entry, Opd.eat, cellsOf, TV.ofCells, allAv, Qseq, Qblk, List.map_cons, List.map_nil, putD, kp, Nat.reduceEqDiff, ↓reduceIte, beq_self_eq_true, Nat.reduceBEq]))
      · exact Qend.num rfl rfl (by rw [← hp2, e, orI_ne (by assumption)])
      · exact ⟨(), ⟨by omega, by rw [← hp2, e, show tcmp x y = 0 by omega, orI0]⟩, rfl⟩
    · skip
      repeat' (first | refine WO.cons ?_ | refine WB.cons ?_ | refine WP.one ?_ | ((first | apply W1.add64 | apply W1.sub64); (iterate 3 exact rfl); omega; omega) | (apply W1.iadr; (iterate 3 exact rfl); omega; first | assumption | ((first | apply V.get_row | apply get_srow | apply get_ty | apply get_ar | apply get_ob | apply get_sprow | apply get_brow); assumption)) | (apply W1.idxS; (iterate 3 exact rfl); omega; omega) | (apply W1.slcS; (iterate 4 exact rfl); omega) | (apply W1.pickT; exact rfl; exact rfl; (first | with_reducible rfl | assumption | (simp only [bn]; first | omega | assumption | decide)); exact rfl) | (apply W1.pickF; exact rfl; exact rfl; (first | with_reducible rfl | assumption | (simp only [bn]; first | omega | assumption | decide)); exact rfl) | (apply W1.op; (iterate 3 exact rfl)) | (apply W1.no; exact rfl) | ((first | apply W1.knowT | apply W1.knowFn | apply WQ.knowT | apply WQ.knowFn | apply W.condT); exact rfl; (first | with_reducible rfl | assumption | (simp only [bn]; first | omega | assumption | decide))) | ((first | apply W1.knowTn | apply W1.knowF | apply WQ.knowTn | apply WQ.knowF | apply W.condF); exact rfl; (first | with_reducible rfl | assumption | (simp only [bn]; first | omega | assumption | decide))) | (apply WQ.go; exact rfl; exact rfl) | (apply WQ.no; exact rfl) | ((first | apply W1.bothT | apply W1.bothF | apply WQ.bothT | apply WQ.bothF | apply W.cond); exact rfl; all_goals intro hc; all_goals first | (cases hc; done) | ((try simp only [hc]); (try simp only [bm] at hc))) | refine WO.nil ?_ | refine WB.nil ?_ | refine WP.bag rfl ?_ | refine WP.nil ?_ | refine W.seq ?_ | refine W.reg ?_ | refine W.dreg ?_ | refine W.block ?_ | refine W.ret ?_ | refine W.skip ?_ | refine W.exit ?_ | (simp only [srow_len, List.length_map, Qit, Int.toNat_natCast, entry, Opd.eat, cellsOf, TV.ofCells, allAv, Qseq, Qblk, List.map_cons, List.map_nil, putD, kp, Nat.reduceEqDiff, ↓reduceIte, beq_self_eq_true, Nat.reduceBEq]))
      exact Qend.num rfl rfl (by rw [← hp2, lcmp_more hi (by omega)])
  · intro u hp
    have e := lcmp_end (c := tcmp) (l := l) (m := m)
    rw [hp.2] at e
    repeat' (first | refine WO.cons ?_ | refine WB.cons ?_ | refine WP.one ?_ | ((first | apply W1.add64 | apply W1.sub64); (iterate 3 exact rfl); omega; omega) | (apply W1.iadr; (iterate 3 exact rfl); omega; first | assumption | ((first | apply V.get_row | apply get_srow | apply get_ty | apply get_ar | apply get_ob | apply get_sprow | apply get_brow); assumption)) | (apply W1.idxS; (iterate 3 exact rfl); omega; omega) | (apply W1.slcS; (iterate 4 exact rfl); omega) | (apply W1.pickT; exact rfl; exact rfl; (first | with_reducible rfl | assumption | (simp only [bn]; first | omega | assumption | decide)); exact rfl) | (apply W1.pickF; exact rfl; exact rfl; (first | with_reducible rfl | assumption | (simp only [bn]; first | omega | assumption | decide)); exact rfl) | (apply W1.op; (iterate 3 exact rfl)) | (apply W1.no; exact rfl) | ((first | apply W1.knowT | apply W1.knowFn | apply WQ.knowT | apply WQ.knowFn | apply W.condT); exact rfl; (first | with_reducible rfl | assumption | (simp only [bn]; first | omega | assumption | decide))) | ((first | apply W1.knowTn | apply W1.knowF | apply WQ.knowTn | apply WQ.knowF | apply W.condF); exact rfl; (first | with_reducible rfl | assumption | (simp only [bn]; first | omega | assumption | decide))) | (apply WQ.go; exact rfl; exact rfl) | (apply WQ.no; exact rfl) | ((first | apply W1.bothT | apply W1.bothF | apply WQ.bothT | apply WQ.bothF | apply W.cond); exact rfl; all_goals intro hc; all_goals first | (cases hc; done) | ((try simp only [hc]); (try simp only [bm] at hc))) | refine WO.nil ?_ | refine WB.nil ?_ | refine WP.bag rfl ?_ | refine WP.nil ?_ | refine W.seq ?_ | refine W.reg ?_ | refine W.dreg ?_ | refine W.block ?_ | refine W.ret ?_ | refine W.skip ?_ | refine W.exit ?_ | (simp only [srow_len, List.length_map, Qit, Int.toNat_natCast, entry, Opd.eat, cellsOf, TV.ofCells, allAv, Qseq, Qblk, List.map_cons, List.map_nil, putD, kp, Nat.reduceEqDiff, ↓reduceIte, beq_self_eq_true, Nat.reduceBEq]))
    · exact Qend.num rfl rfl (by rw [e, if_pos (by omega)])
    · exact Qend.num rfl rfl (by rw [e, if_neg (by omega)])
def orL : List Int → Int
  | [] => 0
  | x :: r => orI x (orL r)
def irow (l : List Int) : List (List AV) := l.map fun n => [AV.int .i64 n]
theorem irow_len (l : List Int) : (irow l).length = l.length := by simp [irow]
theorem get_irow {l : List Int} {i : Nat} {x : Int} (h : l[i]? = some x) : (irow l)[i]? = some [.int .i64 x] := by simp only [irow, List.getElem?_map, h, Option.map_some]
theorem cmpOr_ret {T : Tab} (h : Fn T F.cmp_Or_int cmp_Or_int.fn) (l : List Int) (hl : l.length ≤ 1000) : Ret T F.cmp_Or_int [.val (.lst 1 (irow l))] (one (.int .i64 (orL l))) := by
  have e1 := irow_len l
  refine Ret.mk h rfl ?_
  repeat' (first | refine WO.cons ?_ | refine WB.cons ?_ | refine WP.one ?_ | ((first | apply W1.add64 | apply W1.sub64); (iterate 3 exact rfl); omega; omega) | (apply W1.iadr; (iterate 3 exact rfl); omega; first | assumption | ((first | apply V.get_row | apply get_srow | apply get_ty | apply get_ar | apply get_ob | apply get_sprow | apply get_brow); assumption)) | (apply W1.idxS; (iterate 3 exact rfl); omega; omega) | (apply W1.slcS; (iterate 4 exact rfl); omega) | (apply W1.pickT; exact rfl; exact rfl; (first | with_reducible rfl | assumption | (simp only [bn]; first | omega | assumption | decide)); exact rfl) | (apply W1.pickF; exact rfl; exact rfl; (first | with_reducible rfl | assumption | (simp only [bn]; first | omega | assumption | decide)); exact rfl) | (apply W1.op; (iterate 3 exact rfl)) | (apply W1.no; exact rfl) | ((first | apply W1.knowT | apply W1.knowFn | apply WQ.knowT | apply WQ.knowFn | apply W.condT); exact rfl; (first | with_reducible rfl | assumption | (simp only [bn]; first | omega | assumption | decide))) | ((first | apply W1.knowTn | apply W1.knowF | apply WQ.knowTn | apply WQ.knowF | apply W.condF); exact rfl; (first | with_reducible rfl | assumption | (simp only [bn]; first | omega | assumption | decide))) | (apply WQ.go; exact rfl; exact rfl) | (apply WQ.no; exact rfl) | ((first | apply W1.bothT | apply W1.bothF | apply WQ.bothT | apply WQ.bothF | apply W.cond); exact rfl; all_goals intro hc; all_goals first | (cases hc; done) | ((try simp only [hc]); (try simp only [bm] at hc))) | refine WO.nil ?_ | refine WB.nil ?_ | refine WP.bag rfl ?_ | refine WP.nil ?_ | refine W.seq ?_ | refine W.reg ?_ | refine W.dreg ?_ | refine W.block ?_ | refine W.ret ?_ | refine W.skip ?_ | refine W.exit ?_ | (simp only [srow_len, List.length_map, Qit, Int.toNat_natCast, entry, Opd.eat, cellsOf, TV.ofCells, allAv, Qseq, Qblk, List.map_cons, List.map_nil, putD, kp, Nat.reduceEqDiff, ↓reduceIte, beq_self_eq_true, Nat.reduceBEq]))
  refine W.listP l (fun i (_ : Unit) s => s.put 8 (.av (.int .i64 (i : Int)))) (fun i _ => orL (l.drop i) = orL l) () rfl rfl ?_ ?_
  · intro i x u hx hi hp
    have hg := get_irow hx
    have e : l.drop i = x :: l.drop (i + 1) := by
      obtain ⟨h1, rfl⟩ := List.getElem?_eq_some_iff.1 hx
      exact List.drop_eq_getElem_cons h1
    rw [e, orL] at hp
    repeat' (first | refine WO.cons ?_ | refine WB.cons ?_ | refine WP.one ?_ | ((first | apply W1.add64 | apply W1.sub64); (iterate 3 exact rfl); omega; omega) | (apply W1.iadr; (iterate 3 exact rfl); omega; first | assumption | ((first | apply V.get_row | apply get_srow | apply get_ty | apply get_ar | apply get_ob | apply get_sprow | apply get_brow); assumption)) | (apply W1.idxS; (iterate 3 exact rfl); omega; omega) | (apply W1.slcS; (iterate 4 exact rfl); omega) | (apply W1.pickT; exact rfl; exact rfl; (first | with_reducible rfl | assumption | (simp only [bn]; first | omega | assumption | decide)); exact rfl) | (apply W1.pickF; exact rfl; exact rfl; (first | with_reducible rfl | assumption | (simp only [bn]; first | omega | assumption | decide)); exact rfl) | (apply W1.op; (iterate 3 exact rfl)) | (apply W1.no; exact rfl) | ((first | apply W1.knowT | apply W1.knowFn | apply WQ.knowT | apply WQ.knowFn | apply W.condT); exact rfl; (first | with_reducible rfl | assumption | (simp only [bn]; first | omega | assumption | decide))) | ((first | apply W1.knowTn | apply W1.knowF | apply WQ.knowTn | apply WQ.knowF | apply W.condF); exact rfl; (first | with_reducible rfl | assumption | (simp only [bn]; first | omega | assumption | decide))) | (apply WQ.go; exact rfl; exact rfl) | (apply WQ.no; exact rfl) | ((first | apply W1.bothT | apply W1.bothF | apply WQ.bothT | apply WQ.bothF | apply W.cond); exact rfl; all_goals intro hc; all_goals first | (cases hc; done) | ((try simp only [hc]); (try simp only [bm] at hc))) | refine WO.nil ?_ | refine WB.nil ?_ | refine WP.bag rfl ?_ | refine WP.nil ?_ | refine W.seq ?_ | refine W.reg ?_ | refine W.dreg ?_ | refine W.block ?_ | refine W.ret ?_ | refine W.skip ?_ | refine W.exit ?_ | (simp only [srow_len, List.length_map, Qit, Int.toNat_natCast, entry, Opd.eat, cellsOf, TV.ofCells, allAv, Qseq, Qblk, List.map_cons, List.map_nil, putD, kp, Nat.reduceEqDiff, ↓reduceIte, beq_self_eq_true, Nat.reduceBEq]))
    · exact Qend.num rfl rfl (by rw [← hp, orI_ne (by assumption)])
    · exact ⟨(), by rw [← hp, show x = 0 by omega, orI0], rfl⟩
  · intro u hp
    rw [List.drop_length] at hp
    repeat' (first | refine WO.cons ?_ | refine WB.cons ?_ | refine WP.one ?_ | ((first | apply W1.add64 | apply W1.sub64); (iterate 3 exact rfl); omega; omega) | (apply W1.iadr; (iterate 3 exact rfl); omega; first | assumption | ((first | apply V.get_row | apply get_srow | apply get_ty | apply get_ar | apply get_ob | apply get_sprow | apply get_brow); assumption)) | (apply W1.idxS; (iterate 3 exact rfl); omega; omega) | (apply W1.slcS; (iterate 4 exact rfl); omega) | (apply W1.pickT; exact rfl; exact rfl; (first | with_reducible rfl | assumption | (simp only [bn]; first | omega | assumption | decide)); exact rfl) | (apply W1.pickF; exact rfl; exact rfl; (first | with_reducible rfl | assumption | (simp only [bn]; first | omega | assumption | decide)); exact rfl) | (apply W1.op; (iterate 3 exact rfl)) | (apply W1.no; exact rfl) | ((first | apply W1.knowT | apply W1.knowFn | apply WQ.knowT | apply WQ.knowFn | apply W.condT); exact rfl; (first | with_reducible rfl | assumption | (simp only [bn]; first | omega | assumption | decide))) | ((first | apply W1.knowTn | apply W1.knowF | apply WQ.knowTn | apply WQ.knowF | apply W.condF); exact rfl; (first | with_reducible rfl | assumption | (simp only [bn]; first | omega | assumption | decide))) | (apply WQ.go; exact rfl; exact rfl) | (apply WQ.no; exact rfl) | ((first | apply W1.bothT | apply W1.bothF | apply WQ.bothT | apply WQ.bothF | apply W.cond); exact rfl; all_goals intro hc; all_goals first | (cases hc; done) | ((try simp only [hc]); (try simp only [bm] at hc))) | refine WO.nil ?_ | refine WB.nil ?_ | refine WP.bag rfl ?_ | refine WP.nil ?_ | refine W.seq ?_ | refine W.reg ?_ | refine W.dreg ?_ | refine W.block ?_ | refine W.ret ?_ | refine W.skip ?_ | refine W.exit ?_ | (simp only [srow_len, List.length_map, Qit, Int.toNat_natCast, entry, Opd.eat, cellsOf, TV.ofCells, allAv, Qseq, Qblk, List.map_cons, List.map_nil, putD, kp, Nat.reduceEqDiff, ↓reduceIte, beq_self_eq_true, Nat.reduceBEq]))
    exact Qend.num rfl rfl (by rw [← hp]; rfl)
end Hm

/- Types stand in a row. Conditions: see each theorem. -/
namespace Hm
open Go (IntKind)
set_option maxHeartbeats 4000000
set_option maxRecDepth 4000
abbrev Spn := Str × Str
def trC (a b : Bool) : Int := if a = b then 0 else if b then -1 else 1
def bdC (op : Int) (a b : Str) : Int := if a = b then 0 else if a = [] then op else if b = [] then -op else zcmp a b
def spC (a b : Spn) : Int := orI (bdC (-1) a.1 b.1) (bdC 1 a.2 b.2)
def moC (a b : Int) : Int := if a = b then 0 else if a < 0 then 1 else if b < 0 then -1 else icmp a b
theorem trC_pre : Pre (fun _ => True) trC where
  rng a b _ _ := by cases a <;> cases b <;> decide
  anti a b _ _ := by cases a <;> cases b <;> decide
  trans a b d _ _ _ := by cases a <;> cases b <;> cases d <;> decide
theorem trC_zero {a b : Bool} (h : trC a b = 0) : a = b := by cases a <;> cases b <;> first | rfl | (revert h; decide)
theorem bdC_eq (op : Int) (a b : Str) : bdC op a b = if a = [] then (if b = [] then 0 else op) else if b = [] then -op else zcmp a b := by
  unfold bdC
  by_cases e : a = b
  · subst e
    by_cases ha : a = []
    · simp [ha]
    · simp only [if_true, ha, if_false]; exact (zcmp_pre.refl trivial).symm
  · rw [if_neg e]
    by_cases ha : a = []
    · have : ¬ b = [] := fun hb => e (by rw [ha, hb])
      simp [ha, this]
    · simp [ha]
theorem bdC_pre {op : Int} (ho : op = 1 ∨ op = -1) : Pre (fun _ => True) (bdC op) where
  rng a b _ _ := by
    rw [bdC_eq]
    have := zcmp_pre.rng a b trivial trivial
    split <;> (split <;> omega)
  anti a b _ _ := by
    rw [bdC_eq, bdC_eq]
    have := zcmp_pre.anti a b trivial trivial
    by_cases ha : a = [] <;> by_cases hb : b = [] <;> simp only [ha, hb, if_true, if_false] <;> omega
  trans a b d _ _ _ h1 h2 := by
    rw [bdC_eq] at *
    have := zcmp_pre.trans a b d trivial trivial trivial
    by_cases ha : a = [] <;> by_cases hb : b = [] <;> by_cases hd : d = [] <;> simp only [ha, hb, hd, if_true, if_false] at * <;> first | omega | exact this h1 h2
theorem zcmp_zero' {a b : Str} (h : zcmp a b = 0) : a = b := by
  simp only [zcmp] at h
  have mm : ∀ s : Str, minus s = true → s = 45 :: s.drop 1 := fun s hm => by
    simp only [minus, decide_eq_true_eq] at hm
    have h45 := (u8_eq (bAt s 0) 45 (by omega)).1 hm
    cases s with
    | nil => simp [bAt] at hm
    | cons c r => simp [bAt] at h45; simp [h45]
  cases ma : minus a <;> cases mb : minus b <;> simp only [ma, mb] at h
  · exact ncmp_good.eq a b trivial trivial (by simpa using h)
  · simp at h
  · simp at h
  · have := ncmp_good.eq (b.drop 1) (a.drop 1) trivial trivial (by simpa using h)
    rw [mm a ma, mm b mb, this]
theorem bdC_zero {op : Int} (ho : op = 1 ∨ op = -1) {a b : Str} (h : bdC op a b = 0) : a = b := by
  unfold bdC at h
  split at h
  · assumption
  · split at h
    · omega
    · split at h
      · omega
      · exact zcmp_zero' h
theorem spC_pre : Pre (fun _ => True) spC := Pre.or (Pre.comap (f := fun s : Spn => s.1) (bdC_pre (.inr rfl)) fun _ _ => trivial) (Pre.comap (f := fun s : Spn => s.2) (bdC_pre (.inl rfl)) fun _ _ => trivial)
theorem spC_zero {a b : Spn} (h : spC a b = 0) : a = b := by
  obtain ⟨h1, h2⟩ := orI_zero h
  exact Prod.ext (bdC_zero (.inr rfl) h1) (bdC_zero (.inl rfl) h2)
theorem Pre.congrP {α : Type} {P : α → Prop} {c c' : α → α → Int} (h : Pre P c) (e : ∀ a b, P a → P b → c' a b = c a b) : Pre P c' where
  rng a b ha hb := by rw [e a b ha hb]; exact h.rng a b ha hb
  anti a b ha hb := by rw [e a b ha hb, e b a hb ha]; exact h.anti a b ha hb
  trans a b d ha hb hd := by rw [e a b ha hb, e b d hb hd, e a d ha hd]; exact h.trans a b d ha hb hd
def negI (a : Int) : Int := if a < 0 then 1 else 0
theorem moC_pre : Pre (fun a => -1 ≤ a) moC := by
  refine Pre.congrP (c := fun a b => orI (icmp (negI a) (negI b)) (icmp a b)) (Pre.or (Pre.comap (f := negI) icmp_pre fun _ _ => trivial) (icmp_pre.mono fun _ _ => trivial)) fun a b ha hb => ?_
  unfold moC orI icmp negI
  by_cases e : a = b
  · subst e; simp
  · by_cases h1 : a < 0
    · have : ¬ b < 0 := by omega
      simp [e, h1, this]
    · by_cases h2 : b < 0
      · simp [e, h1, h2]
      · simp [e, h1, h2]
theorem moC_zero {a b : Int} (h : moC a b = 0) : a = b := by
  unfold moC at h
  split at h
  · assumption
  · split at h
    · omega
    · split at h
      · omega
      · exact icmp_eq h
mutual
def tyC : Ty → Ty → Int
  | .mk a n f t ns x ts as os, b => orI (trC a b.all) (orI (trC n b.nul) (orI (trC f b.fls) (orI (trC t b.tru) (orI (lcmp spC ns b.nums) (orI (trC x b.anyText) (orI (lcmp tcmp ts b.texts) (orI (arsC as b.arrays) (obsC os b.objects))))))))
def arC : Ar → Ar → Int
  | .mk i mn mx, b => orI (icmp mn b.min) (orI (moC mx b.max) (tyC i b.item))
def obC : Ob → Ob → Int
  | .mk ns fs ms r, b => orI (lcmp tcmp ns b.names) (orI (lcmp trC ms b.must) (orI (tysC fs b.fields) (tyC r b.rest)))
def tysC : List Ty → List Ty → Int
  | [], [] => 0
  | [], _ :: _ => -1
  | _ :: _, [] => 1
  | a :: l, b :: m => orI (tyC a b) (tysC l m)
def arsC : List Ar → List Ar → Int
  | [], [] => 0
  | [], _ :: _ => -1
  | _ :: _, [] => 1
  | a :: l, b :: m => orI (arC a b) (arsC l m)
def obsC : List Ob → List Ob → Int
  | [], [] => 0
  | [], _ :: _ => -1
  | _ :: _, [] => 1
  | a :: l, b :: m => orI (obC a b) (obsC l m)
end
theorem tysC_eq : ∀ l m : List Ty, tysC l m = lcmp tyC l m
  | [], [] => by simp [tysC, lcmp]
  | [], _ :: _ => by simp [tysC, lcmp]
  | _ :: _, [] => by simp [tysC, lcmp]
  | a :: l, b :: m => by rw [tysC, lcmp, tysC_eq l m]
theorem arsC_eq : ∀ l m : List Ar, arsC l m = lcmp arC l m
  | [], [] => by simp [arsC, lcmp]
  | [], _ :: _ => by simp [arsC, lcmp]
  | _ :: _, [] => by simp [arsC, lcmp]
  | a :: l, b :: m => by rw [arsC, lcmp, arsC_eq l m]
theorem obsC_eq : ∀ l m : List Ob, obsC l m = lcmp obC l m
  | [], [] => by simp [obsC, lcmp]
  | [], _ :: _ => by simp [obsC, lcmp]
  | _ :: _, [] => by simp [obsC, lcmp]
  | a :: l, b :: m => by rw [obsC, lcmp, obsC_eq l m]
theorem tyC_eq (a b : Ty) : tyC a b = orI (trC a.all b.all) (orI (trC a.nul b.nul) (orI (trC a.fls b.fls) (orI (trC a.tru b.tru) (orI (lcmp spC a.nums b.nums) (orI (trC a.anyText b.anyText) (orI (lcmp tcmp a.texts b.texts) (orI (lcmp arC a.arrays b.arrays) (lcmp obC a.objects b.objects)))))))) := by
  cases a; simp only [tyC, arsC_eq, obsC_eq, Ty.all, Ty.nul, Ty.fls, Ty.tru, Ty.nums, Ty.anyText, Ty.texts, Ty.arrays, Ty.objects]
theorem arC_eq (a b : Ar) : arC a b = orI (icmp a.min b.min) (orI (moC a.max b.max) (tyC a.item b.item)) := by cases a; simp only [arC, Ar.min, Ar.max, Ar.item]
theorem obC_eq (a b : Ob) : obC a b = orI (lcmp tcmp a.names b.names) (orI (lcmp trC a.must b.must) (orI (lcmp tyC a.fields b.fields) (tyC a.rest b.rest))) := by cases a; simp only [obC, tysC_eq, Ob.names, Ob.must, Ob.fields, Ob.rest]
theorem fields_formed : ∀ {l : List Ty} {ms : List Bool}, fieldsOk l ms = true → ∀ x ∈ l, tformed x = true
  | [], _, _, x, h => by simp at h
  | y :: l, ms, h, x, hx => by
    simp only [fieldsOk, Bool.and_eq_true] at h
    rcases List.mem_cons.1 hx with rfl | hx
    · exact h.1.1
    · exact fields_formed h.2 x hx
theorem tformed_ar {t : Ty} (h : tformed t = true) : ∀ x ∈ t.arrays, -1 ≤ x.max ∧ tformed x.item = true := by
  rw [tformed_eq] at h
  simp only [Bool.and_eq_true, List.all_eq_true] at h
  intro x hx
  have := h.2.2.1.2 x hx
  rw [arOk_eq] at this
  simp only [Bool.and_eq_true, Bool.not_eq_true', Bool.or_eq_false_iff, decide_eq_false_iff_not] at this
  exact ⟨by omega, this.2.1⟩
theorem tformed_ob {t : Ty} (h : tformed t = true) : ∀ x ∈ t.objects, (∀ y ∈ x.fields, tformed y = true) ∧ tformed x.rest = true := by
  rw [tformed_eq] at h
  simp only [Bool.and_eq_true, List.all_eq_true] at h
  intro x hx
  have := h.2.2.2 x hx
  rw [obOk_eq] at this
  simp only [Bool.and_eq_true] at this
  exact ⟨fields_formed this.2, this.1.2⟩
theorem ar_lt {t : Ty} {x : Ar} (h : x ∈ t.arrays) : x.item.bk < t.bk := by
  have h1 := arBk_mem h
  have h2 := Ty.bk_eq t
  have h3 := Ar.bk_eq x
  omega
theorem ob_lt {t : Ty} {x : Ob} (h : x ∈ t.objects) : x.rest.bk < t.bk ∧ ∀ y ∈ x.fields, y.bk < t.bk := by
  have h1 := obBk_mem h
  have h2 := Ty.bk_eq t
  have h3 := Ob.bk_eq x
  exact ⟨by omega, fun y hy => by have := tyBk_mem hy; omega⟩
theorem tyC_pre : Pre (fun t : Ty => tformed t = true) tyC := by
  have key : ∀ n, Pre (fun t : Ty => t.bk < n ∧ tformed t = true) tyC := by
    intro n
    induction n with
    | zero => exact ⟨fun a _ h => by omega, fun a _ h => by omega, fun a _ _ h => by omega⟩
    | succ n ih =>
      have har : Pre (fun x : Ar => -1 ≤ x.max ∧ x.item.bk < n ∧ tformed x.item = true) arC :=
        Pre.congr (Pre.or (Pre.comap (f := Ar.min) icmp_pre fun _ _ => trivial) (Pre.or (Pre.comap (f := Ar.max) moC_pre fun _ h => h.1) (Pre.comap (f := Ar.item) ih fun _ h => h.2))) arC_eq
      have hob : Pre (fun x : Ob => (∀ y ∈ x.fields, y.bk < n ∧ tformed y = true) ∧ x.rest.bk < n ∧ tformed x.rest = true) obC :=
        Pre.congr (Pre.or (Pre.comap (f := Ob.names) (Pre.list tcmp_good.pre) fun _ _ _ _ => trivial) (Pre.or (Pre.comap (f := Ob.must) (Pre.list trC_pre) fun _ _ _ _ => trivial) (Pre.or (Pre.comap (f := Ob.fields) (Pre.list ih) fun _ h => h.1) (Pre.comap (f := Ob.rest) ih fun _ h => h.2)))) obC_eq
      refine Pre.congr ?_ tyC_eq
      refine Pre.or (Pre.comap (f := Ty.all) trC_pre fun _ _ => trivial) (Pre.or (Pre.comap (f := Ty.nul) trC_pre fun _ _ => trivial) (Pre.or (Pre.comap (f := Ty.fls) trC_pre fun _ _ => trivial) (Pre.or (Pre.comap (f := Ty.tru) trC_pre fun _ _ => trivial)
        (Pre.or (Pre.comap (f := Ty.nums) (Pre.list spC_pre) fun _ _ _ _ => trivial) (Pre.or (Pre.comap (f := Ty.anyText) trC_pre fun _ _ => trivial) (Pre.or (Pre.comap (f := Ty.texts) (Pre.list tcmp_good.pre) fun _ _ _ _ => trivial)
        (Pre.or (Pre.comap (f := Ty.arrays) (Pre.list har) fun a ha x hx => ?_) (Pre.comap (f := Ty.objects) (Pre.list hob) fun a ha x hx => ?_))))))))
      · have := ar_lt hx
        have := tformed_ar ha.2 x hx
        exact ⟨this.1, by omega, this.2⟩
      · have h1 := ob_lt hx
        have h2 := tformed_ob ha.2 x hx
        exact ⟨fun y hy => ⟨by have := h1.2 y hy; omega, h2.1 y hy⟩, by omega, h2.2⟩
  refine ⟨fun a b ha hb => ?_, fun a b ha hb => ?_, fun a b d ha hb hd => ?_⟩
  · exact (key (a.bk + b.bk + 1)).rng a b ⟨by omega, ha⟩ ⟨by omega, hb⟩
  · exact (key (a.bk + b.bk + 1)).anti a b ⟨by omega, ha⟩ ⟨by omega, hb⟩
  · exact (key (a.bk + b.bk + d.bk + 1)).trans a b d ⟨by omega, ha⟩ ⟨by omega, hb⟩ ⟨by omega, hd⟩
theorem lcmp_zero {α : Type} {c : α → α → Int} : ∀ {l m : List α}, (∀ a ∈ l, ∀ b, c a b = 0 → a = b) → lcmp c l m = 0 → l = m
  | [], [], _, _ => rfl
  | [], _ :: _, _, h => by simp [lcmp] at h
  | _ :: _, [], _, h => by simp [lcmp] at h
  | a :: l, b :: m, he, h => by
    obtain ⟨h1, h2⟩ := orI_zero (show orI (c a b) (lcmp c l m) = 0 from h)
    rw [he a (by simp) b h1, lcmp_zero (fun x hx => he x (by simp [hx])) h2]
theorem tyC_zero : ∀ {a b : Ty}, tyC a b = 0 → a = b := by
  intro a
  induction a using Ty.ind with
  | h a ih =>
  intro b h
  rw [tyC_eq] at h
  obtain ⟨h1, h⟩ := orI_zero h
  obtain ⟨h2, h⟩ := orI_zero h
  obtain ⟨h3, h⟩ := orI_zero h
  obtain ⟨h4, h⟩ := orI_zero h
  obtain ⟨h5, h⟩ := orI_zero h
  obtain ⟨h6, h⟩ := orI_zero h
  obtain ⟨h7, h⟩ := orI_zero h
  obtain ⟨h8, h9⟩ := orI_zero h
  have e1 := trC_zero h1
  have e2 := trC_zero h2
  have e3 := trC_zero h3
  have e4 := trC_zero h4
  have e5 := lcmp_zero (fun a _ b h => spC_zero h) h5
  have e6 := trC_zero h6
  have e7 := lcmp_zero (fun a _ b h => tcmp_good.eq a b trivial trivial h) h7
  have e8 := lcmp_zero (fun x hx y h => by
    rw [arC_eq] at h
    obtain ⟨k1, h⟩ := orI_zero h
    obtain ⟨k2, k3⟩ := orI_zero h
    have q1 := icmp_eq k1
    have q2 := moC_zero k2
    have q3 := ih x.item (ar_lt hx) k3
    cases x; cases y
    simp only [Ar.min, Ar.max, Ar.item] at q1 q2 q3
    subst q1; subst q2; subst q3; rfl) h8
  have e9 := lcmp_zero (fun x hx y h => by
    rw [obC_eq] at h
    obtain ⟨k1, h⟩ := orI_zero h
    obtain ⟨k2, h⟩ := orI_zero h
    obtain ⟨k3, k4⟩ := orI_zero h
    have q1 := lcmp_zero (fun a _ b h => tcmp_good.eq a b trivial trivial h) k1
    have q2 := lcmp_zero (fun a _ b h => trC_zero h) k2
    have q3 := lcmp_zero (fun z hz w h => ih z ((ob_lt hx).2 z hz) h) k3
    have q4 := ih x.rest (ob_lt hx).1 k4
    cases x; cases y
    simp only [Ob.names, Ob.must, Ob.fields, Ob.rest] at q1 q2 q3 q4
    subst q1; subst q2; subst q3; subst q4; rfl) h9
  cases a; cases b
  simp only [Ty.all, Ty.nul, Ty.fls, Ty.tru, Ty.nums, Ty.anyText, Ty.texts, Ty.arrays, Ty.objects] at *
  subst e1; subst e2; subst e3; subst e4; subst e5; subst e6; subst e7; subst e8; subst e9; rfl
end Hm
