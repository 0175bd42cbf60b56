/- What the law answers on the abstract machine. Conditions: see each theorem. -/
import Derived.Test.YtkjppfdcnfiaeaaDoorVFormT1
set_option linter.unusedVariables false
set_option linter.unusedSimpArgs false
/- Which types are well shaped, as the program's reference has it. Conditions: see each theorem. -/
namespace Hm
open Go (IntKind)
set_option maxHeartbeats 4000000
set_option maxRecDepth 4000
mutual
def tformed : Ty → Bool
  | .mk a n f t ns at' ts as os => !(a && !bare (.mk a n f t ns at' ts as os)) && !(!rise ts || (at' && decide (0 < ts.length))) && (spansOk ns && (decide (as.length ≤ 1) && arsOk as && obsOk os))
def arOk : Ar → Bool
  | .mk i mn mx => !(decide (mn < 0) || decide (mx < -1) || (decide (mx ≥ 0) && decide (mx < mn))) && (tformed i && never i == decide (mx = 0))
def obOk : Ob → Bool
  | .mk ns fs ms r => decide (ns.length = fs.length) && decide (ns.length = ms.length) && rise ns && tformed r && fieldsOk fs ms
def arsOk : List Ar → Bool
  | [] => true
  | x :: r => arOk x && arsOk r
def obsOk : List Ob → Bool
  | [] => true
  | x :: r => obOk x && obsOk r
def fieldsOk : List Ty → List Bool → Bool
  | [], _ => true
  | f :: fs, ms => tformed f && !(ms.headD false && never f) && fieldsOk fs ms.tail
end
theorem arsOk_eq (l : List Ar) : arsOk l = l.all arOk := by
  induction l with
  | nil => rfl
  | cons x l ih => simp only [arsOk, List.all_cons, ih]
theorem obsOk_eq (l : List Ob) : obsOk l = l.all obOk := by
  induction l with
  | nil => rfl
  | cons x l ih => simp only [obsOk, List.all_cons, ih]
theorem tformed_eq (v : Ty) : tformed v = (!(v.all && !bare v) && !(!rise v.texts || (v.anyText && decide (0 < v.texts.length))) && (spansOk v.nums && (decide (v.arrays.length ≤ 1) && v.arrays.all arOk && v.objects.all obOk))) := by
  cases v; simp only [tformed, arsOk_eq, obsOk_eq, Ty.all, Ty.texts, Ty.anyText, Ty.nums, Ty.arrays, Ty.objects]; rfl
theorem arOk_eq (x : Ar) : arOk x = (!(decide (x.min < 0) || decide (x.max < -1) || (decide (x.max ≥ 0) && decide (x.max < x.min))) && (tformed x.item && never x.item == decide (x.max = 0))) := by
  cases x; simp only [arOk, Ar.min, Ar.max, Ar.item]; rfl
theorem obOk_eq (x : Ob) : obOk x = (decide (x.names.length = x.fields.length) && decide (x.names.length = x.must.length) && rise x.names && tformed x.rest && fieldsOk x.fields x.must) := by
  cases x; simp only [obOk, Ob.names, Ob.fields, Ob.must, Ob.rest]; rfl
theorem fieldsOk_take_succ : ∀ {l : List Ty} {ms : List Bool} {i : Nat} {x : Ty} {b : Bool}, l[i]? = some x → ms[i]? = some b → fieldsOk (l.take (i + 1)) ms = (fieldsOk (l.take i) ms && (tformed x && !(b && never x)))
  | [], ms, i, x, b, h, _ => by simp at h
  | y :: l, [], i, x, b, _, h => by simp at h
  | y :: l, m :: ms, 0, x, b, h, h' => by
    simp only [List.getElem?_cons_zero, Option.some.injEq] at h h'
    subst h h'
    simp [fieldsOk]
  | y :: l, m :: ms, i + 1, x, b, h, h' => by
    simp only [List.getElem?_cons_succ] at h h'
    have := fieldsOk_take_succ h h'
    simp only [List.take_succ_cons, fieldsOk, List.tail_cons, this, Bool.and_assoc]
theorem fieldsOk_split : ∀ (l : List Ty) (ms : List Bool) (i : Nat), fieldsOk l ms = (fieldsOk (l.take i) ms && fieldsOk (l.drop i) (ms.drop i))
  | [], ms, i => by simp [fieldsOk]
  | y :: l, ms, 0 => by simp [fieldsOk]
  | y :: l, [], i + 1 => by
    have := fieldsOk_split l [] i
    simp only [List.drop_nil] at this
    simp only [List.take_succ_cons, List.drop_succ_cons, fieldsOk, List.tail_nil, List.drop_nil]
    rw [this, Bool.and_assoc]; simp [Bool.and_assoc]
  | y :: l, m :: ms, i + 1 => by
    have := fieldsOk_split l ms i
    simp only [List.take_succ_cons, List.drop_succ_cons, fieldsOk, List.tail_cons, this, Bool.and_assoc]
theorem fieldsOk_false {l : List Ty} {ms : List Bool} {i : Nat} {x : Ty} {b : Bool} (h : l[i]? = some x) (hm : ms[i]? = some b) (hx : (tformed x && !(b && never x)) = false) : fieldsOk l ms = false := by
  rw [fieldsOk_split l ms (i + 1), fieldsOk_take_succ h hm, hx]; simp
def Formed9 (T : Tab) (v : Ty) : Prop := Ret T F.hallmarkref09_Formed [.val v.av] (one (.bool (tformed v)))
theorem refArrays_of {T : Tab} (h : Fn T F.hallmarkref09_arrays hallmarkref09_arrays.fn) (hf : Fn T F.hallmarkref09_Formed hallmarkref09_Formed.fn) (h1 : Fn T F.hallmarkref09_Never hallmarkref09_Never.fn) (h2 : Fn T F.hallmarkref09_Bare hallmarkref09_Bare.fn)
    (l : List Ar) (hb : arBks l ≤ 1073741824) (ih : ∀ x ∈ l, Formed9 T x.item) : Ret T F.hallmarkref09_arrays [.val (.lst 11 (l.map Ar.row))] (one (.bool (decide (l.length ≤ 1) && l.all arOk))) := by
  refine Ret.mk h rfl ?_
  have hl := len_arBks l
  have e1 : (l.map Ar.row).length = l.length := List.length_map ..
  have z : ∀ n : Int, (n == 0) = decide (n = 0) := fun n => by rw [Bool.eq_iff_iff]; simp
  by_cases hle : l.length ≤ 1
  · have hd : decide (l.length ≤ 1) = true := decide_eq_true hle
    rw [hd, Bool.true_and]
    repeat' (first | refine WO.cons ?_ | refine WB.cons ?_ | refine WP.one ?_ | ((first | apply W1.add64 | apply W1.sub64); (iterate 3 exact rfl); omega; omega) | (apply W1.iadr; (iterate 3 exact rfl); omega; first | assumption | ((first | apply V.get_row | apply get_srow | apply get_ty | apply get_ar | apply get_ob | apply get_sprow | apply get_brow); assumption)) | (apply W1.idxS; (iterate 3 exact rfl); omega; omega) | (apply W1.slcS; (iterate 4 exact rfl); omega) | (apply W1.pickT; exact rfl; exact rfl; (first | with_reducible rfl | assumption | (simp only [bn]; first | omega | assumption | decide)); exact rfl) | (apply W1.pickF; exact rfl; exact rfl; (first | with_reducible rfl | assumption | (simp only [bn]; first | omega | assumption | decide)); exact rfl) | (apply W1.op; (iterate 3 exact rfl)) | (apply W1.no; exact rfl) | ((first | apply W1.knowT | apply W1.knowFn | apply WQ.knowT | apply WQ.knowFn | apply W.condT); exact rfl; (first | with_reducible rfl | assumption | (simp only [bn]; first | omega | assumption | decide))) | ((first | apply W1.knowTn | apply W1.knowF | apply WQ.knowTn | apply WQ.knowF | apply W.condF); exact rfl; (first | with_reducible rfl | assumption | (simp only [bn]; first | omega | assumption | decide))) | (apply WQ.go; exact rfl; exact rfl) | (apply WQ.no; exact rfl) | ((first | apply W1.bothT | apply W1.bothF | apply WQ.bothT | apply WQ.bothF | apply W.cond); exact rfl; all_goals intro hc; all_goals first | (cases hc; done) | ((try simp only [hc]); (try simp only [bm] at hc))) | refine WO.nil ?_ | refine WB.nil ?_ | refine WP.bag rfl ?_ | refine WP.nil ?_ | refine W.seq ?_ | refine W.reg ?_ | refine W.dreg ?_ | refine W.block ?_ | refine W.ret ?_ | refine W.skip ?_ | refine W.exit ?_ | (simp only [sprow_len, brow_len, srow_len, List.length_map, Qit, Int.toNat_natCast, entry, Opd.eat, cellsOf, TV.ofCells, allAv, Qseq, Qblk, List.map_cons, List.map_nil, putD, kp, Nat.reduceEqDiff, ↓reduceIte, beq_self_eq_true, Nat.reduceBEq]))
    refine W.listP l (fun i (_ : Unit) s => s.put 3 (.av (.int .i64 (i : Int)))) (fun i _ => (l.take i).all arOk = true) () (by simp) rfl ?_ ?_
    · intro i x u hx hi hp
      have r1 := ih x (List.mem_of_getElem? hx)
      have r2 := refNever_ret h1 h2 x.item
      rw [Formed9, Ty.av_eq] at r1
      rw [Ty.av_eq] at r2
      repeat' (first | refine WO.cons ?_ | refine WB.cons ?_ | refine WP.one ?_ | (first | (apply WQ.call (hm := hf.modes); (iterate 4 exact rfl)) | (apply W1.callV (hm := hf.modes); (iterate 5 exact rfl); exact (r1); exact rfl)) | (first | (apply WQ.call (hm := h1.modes); (iterate 4 exact rfl)) | (apply W1.callV (hm := h1.modes); (iterate 5 exact rfl); exact (r2); exact rfl)) | ((first | apply W1.add64 | apply W1.sub64); (iterate 3 exact rfl); omega; omega) | (apply W1.iadr; (iterate 3 exact rfl); omega; first | assumption | ((first | apply V.get_row | apply get_srow | apply get_ty | apply get_ar | apply get_ob | apply get_sprow | apply get_brow); assumption)) | (apply W1.idxS; (iterate 3 exact rfl); omega; omega) | (apply W1.slcS; (iterate 4 exact rfl); omega) | (apply W1.pickT; exact rfl; exact rfl; (first | with_reducible rfl | assumption | (simp only [bn]; first | omega | assumption | decide)); exact rfl) | (apply W1.pickF; exact rfl; exact rfl; (first | with_reducible rfl | assumption | (simp only [bn]; first | omega | assumption | decide)); exact rfl) | (apply W1.op; (iterate 3 exact rfl)) | (apply W1.no; exact rfl) | ((first | apply W1.knowT | apply W1.knowFn | apply WQ.knowT | apply WQ.knowFn | apply W.condT); exact rfl; (first | with_reducible rfl | assumption | (simp only [bn]; first | omega | assumption | decide))) | ((first | apply W1.knowTn | apply W1.knowF | apply WQ.knowTn | apply WQ.knowF | apply W.condF); exact rfl; (first | with_reducible rfl | assumption | (simp only [bn]; first | omega | assumption | decide))) | (apply WQ.go; exact rfl; exact rfl) | (apply WQ.no; exact rfl) | ((first | apply W1.bothT | apply W1.bothF | apply WQ.bothT | apply WQ.bothF | apply W.cond); exact rfl; all_goals intro hc; all_goals first | (cases hc; done) | ((try simp only [hc]); (try simp only [bm] at hc))) | refine WO.nil ?_ | refine WB.nil ?_ | refine WP.bag rfl ?_ | refine WP.nil ?_ | refine W.seq ?_ | refine W.reg ?_ | refine W.dreg ?_ | refine W.block ?_ | refine W.ret ?_ | refine W.skip ?_ | refine W.exit ?_ | (simp only [sprow_len, brow_len, srow_len, List.length_map, Qit, Int.toNat_natCast, entry, Opd.eat, cellsOf, TV.ofCells, allAv, Qseq, Qblk, List.map_cons, List.map_nil, putD, kp, Nat.reduceEqDiff, ↓reduceIte, beq_self_eq_true, Nat.reduceBEq]))
      all_goals clear r1 r2 ih
      all_goals first
        | (exfalso; simp_all; done)
        | (refine ⟨(), ?_, rfl⟩; rw [all_take_succ hx, hp, arOk_eq]; simp_all; done)
        | (refine ⟨(), ?_, rfl⟩; rw [all_take_succ hx, hp, arOk_eq]; simp_all; omega)
        | (refine Qend.boo rfl rfl ?_; rw [all_false hx (by rw [arOk_eq]; simp_all; done)]; done)
        | (refine Qend.boo rfl rfl ?_; rw [all_false hx (by rw [arOk_eq]; simp_all; omega)]; done)
        | skip
    · intro u hp
      rw [List.take_length] at hp
      repeat' (first | refine WO.cons ?_ | refine WB.cons ?_ | refine WP.one ?_ | ((first | apply W1.add64 | apply W1.sub64); (iterate 3 exact rfl); omega; omega) | (apply W1.iadr; (iterate 3 exact rfl); omega; first | assumption | ((first | apply V.get_row | apply get_srow | apply get_ty | apply get_ar | apply get_ob | apply get_sprow | apply get_brow); assumption)) | (apply W1.idxS; (iterate 3 exact rfl); omega; omega) | (apply W1.slcS; (iterate 4 exact rfl); omega) | (apply W1.pickT; exact rfl; exact rfl; (first | with_reducible rfl | assumption | (simp only [bn]; first | omega | assumption | decide)); exact rfl) | (apply W1.pickF; exact rfl; exact rfl; (first | with_reducible rfl | assumption | (simp only [bn]; first | omega | assumption | decide)); exact rfl) | (apply W1.op; (iterate 3 exact rfl)) | (apply W1.no; exact rfl) | ((first | apply W1.knowT | apply W1.knowFn | apply WQ.knowT | apply WQ.knowFn | apply W.condT); exact rfl; (first | with_reducible rfl | assumption | (simp only [bn]; first | omega | assumption | decide))) | ((first | apply W1.knowTn | apply W1.knowF | apply WQ.knowTn | apply WQ.knowF | apply W.condF); exact rfl; (first | with_reducible rfl | assumption | (simp only [bn]; first | omega | assumption | decide))) | (apply WQ.go; exact rfl; exact rfl) | (apply WQ.no; exact rfl) | ((first | apply W1.bothT | apply W1.bothF | apply WQ.bothT | apply WQ.bothF | apply W.cond); exact rfl; all_goals intro hc; all_goals first | (cases hc; done) | ((try simp only [hc]); (try simp only [bm] at hc))) | refine WO.nil ?_ | refine WB.nil ?_ | refine WP.bag rfl ?_ | refine WP.nil ?_ | refine W.seq ?_ | refine W.reg ?_ | refine W.dreg ?_ | refine W.block ?_ | refine W.ret ?_ | refine W.skip ?_ | refine W.exit ?_ | (simp only [sprow_len, brow_len, srow_len, List.length_map, Qit, Int.toNat_natCast, entry, Opd.eat, cellsOf, TV.ofCells, allAv, Qseq, Qblk, List.map_cons, List.map_nil, putD, kp, Nat.reduceEqDiff, ↓reduceIte, beq_self_eq_true, Nat.reduceBEq]))
      refine Qend.boo rfl rfl ?_
      rw [hp]
  · have hd : decide (l.length ≤ 1) = false := decide_eq_false hle
    repeat' (first | refine WO.cons ?_ | refine WB.cons ?_ | refine WP.one ?_ | ((first | apply W1.add64 | apply W1.sub64); (iterate 3 exact rfl); omega; omega) | (apply W1.iadr; (iterate 3 exact rfl); omega; first | assumption | ((first | apply V.get_row | apply get_srow | apply get_ty | apply get_ar | apply get_ob | apply get_sprow | apply get_brow); assumption)) | (apply W1.idxS; (iterate 3 exact rfl); omega; omega) | (apply W1.slcS; (iterate 4 exact rfl); omega) | (apply W1.pickT; exact rfl; exact rfl; (first | with_reducible rfl | assumption | (simp only [bn]; first | omega | assumption | decide)); exact rfl) | (apply W1.pickF; exact rfl; exact rfl; (first | with_reducible rfl | assumption | (simp only [bn]; first | omega | assumption | decide)); exact rfl) | (apply W1.op; (iterate 3 exact rfl)) | (apply W1.no; exact rfl) | ((first | apply W1.knowT | apply W1.knowFn | apply WQ.knowT | apply WQ.knowFn | apply W.condT); exact rfl; (first | with_reducible rfl | assumption | (simp only [bn]; first | omega | assumption | decide))) | ((first | apply W1.knowTn | apply W1.knowF | apply WQ.knowTn | apply WQ.knowF | apply W.condF); exact rfl; (first | with_reducible rfl | assumption | (simp only [bn]; first | omega | assumption | decide))) | (apply WQ.go; exact rfl; exact rfl) | (apply WQ.no; exact rfl) | ((first | apply W1.bothT | apply W1.bothF | apply WQ.bothT | apply WQ.bothF | apply W.cond); exact rfl; all_goals intro hc; all_goals first | (cases hc; done) | ((try simp only [hc]); (try simp only [bm] at hc))) | refine WO.nil ?_ | refine WB.nil ?_ | refine WP.bag rfl ?_ | refine WP.nil ?_ | refine W.seq ?_ | refine W.reg ?_ | refine W.dreg ?_ | refine W.block ?_ | refine W.ret ?_ | refine W.skip ?_ | refine W.exit ?_ | (simp only [sprow_len, brow_len, srow_len, List.length_map, Qit, Int.toNat_natCast, entry, Opd.eat, cellsOf, TV.ofCells, allAv, Qseq, Qblk, List.map_cons, List.map_nil, putD, kp, Nat.reduceEqDiff, ↓reduceIte, beq_self_eq_true, Nat.reduceBEq]))
    refine Qend.boo rfl rfl ?_
    rw [hd]; rfl
theorem refObject_of {T : Tab} (h : Fn T F.hallmarkref09_object hallmarkref09_object.fn) (hf : Fn T F.hallmarkref09_Formed hallmarkref09_Formed.fn) (h1 : Fn T F.hallmarkref09_Never hallmarkref09_Never.fn) (h2 : Fn T F.hallmarkref09_Bare hallmarkref09_Bare.fn)
    (h3 : Fn T F.hallmarkref03_Rise hallmarkref03_Rise.fn) (h4 : Fn T F.hallmarkref03_UTF hallmarkref03_UTF.fn) (h5 : Fn T F.hallmarkref03_width hallmarkref03_width.fn) (h6 : Fn T F.hallmarkref03_trail hallmarkref03_trail.fn)
    (o : Ob) (hb : o.bk ≤ 1073741824) (ih : ∀ x ∈ o.fields, Formed9 T x) (ihr : Formed9 T o.rest) : Ret T F.hallmarkref09_object [.val (.agg o.row)] (one (.bool (obOk o))) := by
  refine Ret.mk h rfl ?_
  have hbk := Ob.bk_eq o
  have l1 := len_sbk o.names
  have l2 := len_tyBks o.fields
  have e1 := srow_len o.names
  have e2 := brow_len o.must
  have e3 : (o.fields.map Ty.row).length = o.fields.length := List.length_map ..
  have r0 := refRise_ret h3 h4 h5 h6 o.names (by omega)
  have r1 := ihr
  rw [Formed9, Ty.av_eq] at r1
  rw [Ob.row_eq]
  have hoe := obOk_eq o
  by_cases hn : o.names.length = o.fields.length ∧ o.names.length = o.must.length ∧ rise o.names = true ∧ tformed o.rest = true
  · obtain ⟨n1, n2, n3, n4⟩ := hn
    have hoe' : obOk o = fieldsOk o.fields o.must := by rw [hoe]; simp [← n1, ← n2, n3, n4]
    rw [hoe']
    repeat' (first | refine WO.cons ?_ | refine WB.cons ?_ | refine WP.one ?_ | (first | (apply WQ.call (hm := h3.modes); (iterate 4 exact rfl)) | (apply W1.callV (hm := h3.modes); (iterate 5 exact rfl); exact (r0); exact rfl)) | (first | (apply WQ.call (hm := hf.modes); (iterate 4 exact rfl)) | (apply W1.callV (hm := hf.modes); (iterate 5 exact rfl); exact (r1); exact rfl)) | ((first | apply W1.add64 | apply W1.sub64); (iterate 3 exact rfl); omega; omega) | (apply W1.iadr; (iterate 3 exact rfl); omega; first | assumption | ((first | apply V.get_row | apply get_srow | apply get_ty | apply get_ar | apply get_ob | apply get_sprow | apply get_brow); assumption)) | (apply W1.idxS; (iterate 3 exact rfl); omega; omega) | (apply W1.slcS; (iterate 4 exact rfl); omega) | (apply W1.pickT; exact rfl; exact rfl; (first | with_reducible rfl | assumption | (simp only [bn]; first | omega | assumption | decide)); exact rfl) | (apply W1.pickF; exact rfl; exact rfl; (first | with_reducible rfl | assumption | (simp only [bn]; first | omega | assumption | decide)); exact rfl) | (apply W1.op; (iterate 3 exact rfl)) | (apply W1.no; exact rfl) | ((first | apply W1.knowT | apply W1.knowFn | apply WQ.knowT | apply WQ.knowFn | apply W.condT); exact rfl; (first | with_reducible rfl | assumption | (simp only [bn]; first | omega | assumption | decide))) | ((first | apply W1.knowTn | apply W1.knowF | apply WQ.knowTn | apply WQ.knowF | apply W.condF); exact rfl; (first | with_reducible rfl | assumption | (simp only [bn]; first | omega | assumption | decide))) | (apply WQ.go; exact rfl; exact rfl) | (apply WQ.no; exact rfl) | ((first | apply W1.bothT | apply W1.bothF | apply WQ.bothT | apply WQ.bothF | apply W.cond); exact rfl; all_goals intro hc; all_goals first | (cases hc; done) | ((try simp only [hc]); (try simp only [bm] at hc))) | refine WO.nil ?_ | refine WB.nil ?_ | refine WP.bag rfl ?_ | refine WP.nil ?_ | refine W.seq ?_ | refine W.reg ?_ | refine W.dreg ?_ | refine W.block ?_ | refine W.ret ?_ | refine W.skip ?_ | refine W.exit ?_ | (simp only [sprow_len, brow_len, srow_len, List.length_map, Qit, Int.toNat_natCast, entry, Opd.eat, cellsOf, TV.ofCells, allAv, Qseq, Qblk, List.map_cons, List.map_nil, putD, kp, Nat.reduceEqDiff, ↓reduceIte, beq_self_eq_true, Nat.reduceBEq]))
    all_goals first | (exfalso; clear r0 r1; simp_all; done) | (exfalso; omega) | skip
    refine W.listP o.fields (fun i (_ : Unit) s => s.put 3 (.av (.int .i64 (i : Int)))) (fun i _ => fieldsOk (o.fields.take i) o.must = true) () (by simp [fieldsOk]) rfl ?_ ?_
    · intro i x u hx hi hp
      obtain ⟨b, hbm⟩ : ∃ b, o.must[i]? = some b := ⟨o.must[i]'(by omega), List.getElem?_eq_getElem (by omega)⟩
      have r2 := ih x (List.mem_of_getElem? hx)
      have r3 := refNever_ret h1 h2 x
      rw [Formed9, Ty.av_eq] at r2
      rw [Ty.av_eq] at r3
      repeat' (first | refine WO.cons ?_ | refine WB.cons ?_ | refine WP.one ?_ | (first | (apply WQ.call (hm := hf.modes); (iterate 4 exact rfl)) | (apply W1.callV (hm := hf.modes); (iterate 5 exact rfl); exact (r2); exact rfl)) | (first | (apply WQ.call (hm := h1.modes); (iterate 4 exact rfl)) | (apply W1.callV (hm := h1.modes); (iterate 5 exact rfl); exact (r3); exact rfl)) | ((first | apply W1.add64 | apply W1.sub64); (iterate 3 exact rfl); omega; omega) | (apply W1.iadr; (iterate 3 exact rfl); omega; first | assumption | ((first | apply V.get_row | apply get_srow | apply get_ty | apply get_ar | apply get_ob | apply get_sprow | apply get_brow); assumption)) | (apply W1.idxS; (iterate 3 exact rfl); omega; omega) | (apply W1.slcS; (iterate 4 exact rfl); omega) | (apply W1.pickT; exact rfl; exact rfl; (first | with_reducible rfl | assumption | (simp only [bn]; first | omega | assumption | decide)); exact rfl) | (apply W1.pickF; exact rfl; exact rfl; (first | with_reducible rfl | assumption | (simp only [bn]; first | omega | assumption | decide)); exact rfl) | (apply W1.op; (iterate 3 exact rfl)) | (apply W1.no; exact rfl) | ((first | apply W1.knowT | apply W1.knowFn | apply WQ.knowT | apply WQ.knowFn | apply W.condT); exact rfl; (first | with_reducible rfl | assumption | (simp only [bn]; first | omega | assumption | decide))) | ((first | apply W1.knowTn | apply W1.knowF | apply WQ.knowTn | apply WQ.knowF | apply W.condF); exact rfl; (first | with_reducible rfl | assumption | (simp only [bn]; first | omega | assumption | decide))) | (apply WQ.go; exact rfl; exact rfl) | (apply WQ.no; exact rfl) | ((first | apply W1.bothT | apply W1.bothF | apply WQ.bothT | apply WQ.bothF | apply W.cond); exact rfl; all_goals intro hc; all_goals first | (cases hc; done) | ((try simp only [hc]); (try simp only [bm] at hc))) | refine WO.nil ?_ | refine WB.nil ?_ | refine WP.bag rfl ?_ | refine WP.nil ?_ | refine W.seq ?_ | refine W.reg ?_ | refine W.dreg ?_ | refine W.block ?_ | refine W.ret ?_ | refine W.skip ?_ | refine W.exit ?_ | (simp only [sprow_len, brow_len, srow_len, List.length_map, Qit, Int.toNat_natCast, entry, Opd.eat, cellsOf, TV.ofCells, allAv, Qseq, Qblk, List.map_cons, List.map_nil, putD, kp, Nat.reduceEqDiff, ↓reduceIte, beq_self_eq_true, Nat.reduceBEq]))
      all_goals clear r0 r1 r2 r3 ih ihr
      all_goals first
        | (refine Qend.boo rfl rfl ?_; rw [fieldsOk_false hx hbm (by simp_all)]; done)
        | (refine ⟨(), ?_, rfl⟩; rw [fieldsOk_take_succ hx hbm, hp]; simp_all; done)
        | (exfalso; simp_all; done)
        | skip
    · intro u hp
      rw [List.take_length] at hp
      repeat' (first | refine WO.cons ?_ | refine WB.cons ?_ | refine WP.one ?_ | ((first | apply W1.add64 | apply W1.sub64); (iterate 3 exact rfl); omega; omega) | (apply W1.iadr; (iterate 3 exact rfl); omega; first | assumption | ((first | apply V.get_row | apply get_srow | apply get_ty | apply get_ar | apply get_ob | apply get_sprow | apply get_brow); assumption)) | (apply W1.idxS; (iterate 3 exact rfl); omega; omega) | (apply W1.slcS; (iterate 4 exact rfl); omega) | (apply W1.pickT; exact rfl; exact rfl; (first | with_reducible rfl | assumption | (simp only [bn]; first | omega | assumption | decide)); exact rfl) | (apply W1.pickF; exact rfl; exact rfl; (first | with_reducible rfl | assumption | (simp only [bn]; first | omega | assumption | decide)); exact rfl) | (apply W1.op; (iterate 3 exact rfl)) | (apply W1.no; exact rfl) | ((first | apply W1.knowT | apply W1.knowFn | apply WQ.knowT | apply WQ.knowFn | apply W.condT); exact rfl; (first | with_reducible rfl | assumption | (simp only [bn]; first | omega | assumption | decide))) | ((first | apply W1.knowTn | apply W1.knowF | apply WQ.knowTn | apply WQ.knowF | apply W.condF); exact rfl; (first | with_reducible rfl | assumption | (simp only [bn]; first | omega | assumption | decide))) | (apply WQ.go; exact rfl; exact rfl) | (apply WQ.no; exact rfl) | ((first | apply W1.bothT | apply W1.bothF | apply WQ.bothT | apply WQ.bothF | apply W.cond); exact rfl; all_goals intro hc; all_goals first | (cases hc; done) | ((try simp only [hc]); (try simp only [bm] at hc))) | refine WO.nil ?_ | refine WB.nil ?_ | refine WP.bag rfl ?_ | refine WP.nil ?_ | refine W.seq ?_ | refine W.reg ?_ | refine W.dreg ?_ | refine W.block ?_ | refine W.ret ?_ | refine W.skip ?_ | refine W.exit ?_ | (simp only [sprow_len, brow_len, srow_len, List.length_map, Qit, Int.toNat_natCast, entry, Opd.eat, cellsOf, TV.ofCells, allAv, Qseq, Qblk, List.map_cons, List.map_nil, putD, kp, Nat.reduceEqDiff, ↓reduceIte, beq_self_eq_true, Nat.reduceBEq]))
      refine Qend.boo rfl rfl ?_
      rw [hp]
  · have hoe' : obOk o = false := by
      rw [hoe, Bool.eq_false_iff]
      intro hc
      simp only [Bool.and_eq_true, decide_eq_true_eq] at hc
      exact hn ⟨hc.1.1.1.1, hc.1.1.1.2, hc.1.1.2, hc.1.2⟩
    rw [hoe']
    by_cases n1 : o.names.length = o.fields.length
    · by_cases n2 : o.names.length = o.must.length
      · by_cases n3 : rise o.names = true
        · have n4 : tformed o.rest = false := by
            rw [Bool.eq_false_iff]; exact fun hc => hn ⟨n1, n2, n3, hc⟩
          repeat' (first | refine WO.cons ?_ | refine WB.cons ?_ | refine WP.one ?_ | (first | (apply WQ.call (hm := h3.modes); (iterate 4 exact rfl)) | (apply W1.callV (hm := h3.modes); (iterate 5 exact rfl); exact (r0); exact rfl)) | (first | (apply WQ.call (hm := hf.modes); (iterate 4 exact rfl)) | (apply W1.callV (hm := hf.modes); (iterate 5 exact rfl); exact (r1); exact rfl)) | ((first | apply W1.add64 | apply W1.sub64); (iterate 3 exact rfl); omega; omega) | (apply W1.iadr; (iterate 3 exact rfl); omega; first | assumption | ((first | apply V.get_row | apply get_srow | apply get_ty | apply get_ar | apply get_ob | apply get_sprow | apply get_brow); assumption)) | (apply W1.idxS; (iterate 3 exact rfl); omega; omega) | (apply W1.slcS; (iterate 4 exact rfl); omega) | (apply W1.pickT; exact rfl; exact rfl; (first | with_reducible rfl | assumption | (simp only [bn]; first | omega | assumption | decide)); exact rfl) | (apply W1.pickF; exact rfl; exact rfl; (first | with_reducible rfl | assumption | (simp only [bn]; first | omega | assumption | decide)); exact rfl) | (apply W1.op; (iterate 3 exact rfl)) | (apply W1.no; exact rfl) | ((first | apply W1.knowT | apply W1.knowFn | apply WQ.knowT | apply WQ.knowFn | apply W.condT); exact rfl; (first | with_reducible rfl | assumption | (simp only [bn]; first | omega | assumption | decide))) | ((first | apply W1.knowTn | apply W1.knowF | apply WQ.knowTn | apply WQ.knowF | apply W.condF); exact rfl; (first | with_reducible rfl | assumption | (simp only [bn]; first | omega | assumption | decide))) | (apply WQ.go; exact rfl; exact rfl) | (apply WQ.no; exact rfl) | ((first | apply W1.bothT | apply W1.bothF | apply WQ.bothT | apply WQ.bothF | apply W.cond); exact rfl; all_goals intro hc; all_goals first | (cases hc; done) | ((try simp only [hc]); (try simp only [bm] at hc))) | refine WO.nil ?_ | refine WB.nil ?_ | refine WP.bag rfl ?_ | refine WP.nil ?_ | refine W.seq ?_ | refine W.reg ?_ | refine W.dreg ?_ | refine W.block ?_ | refine W.ret ?_ | refine W.skip ?_ | refine W.exit ?_ | (simp only [sprow_len, brow_len, srow_len, List.length_map, Qit, Int.toNat_natCast, entry, Opd.eat, cellsOf, TV.ofCells, allAv, Qseq, Qblk, List.map_cons, List.map_nil, putD, kp, Nat.reduceEqDiff, ↓reduceIte, beq_self_eq_true, Nat.reduceBEq]))
          all_goals first | exact Qend.boo rfl rfl rfl | (exfalso; omega) | (exfalso; clear r0 r1; simp_all; done) | skip
        · rw [Bool.not_eq_true] at n3
          repeat' (first | refine WO.cons ?_ | refine WB.cons ?_ | refine WP.one ?_ | (first | (apply WQ.call (hm := h3.modes); (iterate 4 exact rfl)) | (apply W1.callV (hm := h3.modes); (iterate 5 exact rfl); exact (r0); exact rfl)) | (first | (apply WQ.call (hm := hf.modes); (iterate 4 exact rfl)) | (apply W1.callV (hm := hf.modes); (iterate 5 exact rfl); exact (r1); exact rfl)) | ((first | apply W1.add64 | apply W1.sub64); (iterate 3 exact rfl); omega; omega) | (apply W1.iadr; (iterate 3 exact rfl); omega; first | assumption | ((first | apply V.get_row | apply get_srow | apply get_ty | apply get_ar | apply get_ob | apply get_sprow | apply get_brow); assumption)) | (apply W1.idxS; (iterate 3 exact rfl); omega; omega) | (apply W1.slcS; (iterate 4 exact rfl); omega) | (apply W1.pickT; exact rfl; exact rfl; (first | with_reducible rfl | assumption | (simp only [bn]; first | omega | assumption | decide)); exact rfl) | (apply W1.pickF; exact rfl; exact rfl; (first | with_reducible rfl | assumption | (simp only [bn]; first | omega | assumption | decide)); exact rfl) | (apply W1.op; (iterate 3 exact rfl)) | (apply W1.no; exact rfl) | ((first | apply W1.knowT | apply W1.knowFn | apply WQ.knowT | apply WQ.knowFn | apply W.condT); exact rfl; (first | with_reducible rfl | assumption | (simp only [bn]; first | omega | assumption | decide))) | ((first | apply W1.knowTn | apply W1.knowF | apply WQ.knowTn | apply WQ.knowF | apply W.condF); exact rfl; (first | with_reducible rfl | assumption | (simp only [bn]; first | omega | assumption | decide))) | (apply WQ.go; exact rfl; exact rfl) | (apply WQ.no; exact rfl) | ((first | apply W1.bothT | apply W1.bothF | apply WQ.bothT | apply WQ.bothF | apply W.cond); exact rfl; all_goals intro hc; all_goals first | (cases hc; done) | ((try simp only [hc]); (try simp only [bm] at hc))) | refine WO.nil ?_ | refine WB.nil ?_ | refine WP.bag rfl ?_ | refine WP.nil ?_ | refine W.seq ?_ | refine W.reg ?_ | refine W.dreg ?_ | refine W.block ?_ | refine W.ret ?_ | refine W.skip ?_ | refine W.exit ?_ | (simp only [sprow_len, brow_len, srow_len, List.length_map, Qit, Int.toNat_natCast, entry, Opd.eat, cellsOf, TV.ofCells, allAv, Qseq, Qblk, List.map_cons, List.map_nil, putD, kp, Nat.reduceEqDiff, ↓reduceIte, beq_self_eq_true, Nat.reduceBEq]))
          all_goals first | exact Qend.boo rfl rfl rfl | (exfalso; omega) | (exfalso; clear r0 r1; simp_all; done) | skip
      · skip
        repeat' (first | refine WO.cons ?_ | refine WB.cons ?_ | refine WP.one ?_ | (first | (apply WQ.call (hm := h3.modes); (iterate 4 exact rfl)) | (apply W1.callV (hm := h3.modes); (iterate 5 exact rfl); exact (r0); exact rfl)) | (first | (apply WQ.call (hm := hf.modes); (iterate 4 exact rfl)) | (apply W1.callV (hm := hf.modes); (iterate 5 exact rfl); exact (r1); exact rfl)) | ((first | apply W1.add64 | apply W1.sub64); (iterate 3 exact rfl); omega; omega) | (apply W1.iadr; (iterate 3 exact rfl); omega; first | assumption | ((first | apply V.get_row | apply get_srow | apply get_ty | apply get_ar | apply get_ob | apply get_sprow | apply get_brow); assumption)) | (apply W1.idxS; (iterate 3 exact rfl); omega; omega) | (apply W1.slcS; (iterate 4 exact rfl); omega) | (apply W1.pickT; exact rfl; exact rfl; (first | with_reducible rfl | assumption | (simp only [bn]; first | omega | assumption | decide)); exact rfl) | (apply W1.pickF; exact rfl; exact rfl; (first | with_reducible rfl | assumption | (simp only [bn]; first | omega | assumption | decide)); exact rfl) | (apply W1.op; (iterate 3 exact rfl)) | (apply W1.no; exact rfl) | ((first | apply W1.knowT | apply W1.knowFn | apply WQ.knowT | apply WQ.knowFn | apply W.condT); exact rfl; (first | with_reducible rfl | assumption | (simp only [bn]; first | omega | assumption | decide))) | ((first | apply W1.knowTn | apply W1.knowF | apply WQ.knowTn | apply WQ.knowF | apply W.condF); exact rfl; (first | with_reducible rfl | assumption | (simp only [bn]; first | omega | assumption | decide))) | (apply WQ.go; exact rfl; exact rfl) | (apply WQ.no; exact rfl) | ((first | apply W1.bothT | apply W1.bothF | apply WQ.bothT | apply WQ.bothF | apply W.cond); exact rfl; all_goals intro hc; all_goals first | (cases hc; done) | ((try simp only [hc]); (try simp only [bm] at hc))) | refine WO.nil ?_ | refine WB.nil ?_ | refine WP.bag rfl ?_ | refine WP.nil ?_ | refine W.seq ?_ | refine W.reg ?_ | refine W.dreg ?_ | refine W.block ?_ | refine W.ret ?_ | refine W.skip ?_ | refine W.exit ?_ | (simp only [sprow_len, brow_len, srow_len, List.length_map, Qit, Int.toNat_natCast, entry, Opd.eat, cellsOf, TV.ofCells, allAv, Qseq, Qblk, List.map_cons, List.map_nil, putD, kp, Nat.reduceEqDiff, ↓reduceIte, beq_self_eq_true, Nat.reduceBEq]))
        all_goals first | exact Qend.boo rfl rfl rfl | (exfalso; omega) | (exfalso; clear r0 r1; simp_all; done) | skip
    · skip
      repeat' (first | refine WO.cons ?_ | refine WB.cons ?_ | refine WP.one ?_ | (first | (apply WQ.call (hm := h3.modes); (iterate 4 exact rfl)) | (apply W1.callV (hm := h3.modes); (iterate 5 exact rfl); exact (r0); exact rfl)) | (first | (apply WQ.call (hm := hf.modes); (iterate 4 exact rfl)) | (apply W1.callV (hm := hf.modes); (iterate 5 exact rfl); exact (r1); exact rfl)) | ((first | apply W1.add64 | apply W1.sub64); (iterate 3 exact rfl); omega; omega) | (apply W1.iadr; (iterate 3 exact rfl); omega; first | assumption | ((first | apply V.get_row | apply get_srow | apply get_ty | apply get_ar | apply get_ob | apply get_sprow | apply get_brow); assumption)) | (apply W1.idxS; (iterate 3 exact rfl); omega; omega) | (apply W1.slcS; (iterate 4 exact rfl); omega) | (apply W1.pickT; exact rfl; exact rfl; (first | with_reducible rfl | assumption | (simp only [bn]; first | omega | assumption | decide)); exact rfl) | (apply W1.pickF; exact rfl; exact rfl; (first | with_reducible rfl | assumption | (simp only [bn]; first | omega | assumption | decide)); exact rfl) | (apply W1.op; (iterate 3 exact rfl)) | (apply W1.no; exact rfl) | ((first | apply W1.knowT | apply W1.knowFn | apply WQ.knowT | apply WQ.knowFn | apply W.condT); exact rfl; (first | with_reducible rfl | assumption | (simp only [bn]; first | omega | assumption | decide))) | ((first | apply W1.knowTn | apply W1.knowF | apply WQ.knowTn | apply WQ.knowF | apply W.condF); exact rfl; (first | with_reducible rfl | assumption | (simp only [bn]; first | omega | assumption | decide))) | (apply WQ.go; exact rfl; exact rfl) | (apply WQ.no; exact rfl) | ((first | apply W1.bothT | apply W1.bothF | apply WQ.bothT | apply WQ.bothF | apply W.cond); exact rfl; all_goals intro hc; all_goals first | (cases hc; done) | ((try simp only [hc]); (try simp only [bm] at hc))) | refine WO.nil ?_ | refine WB.nil ?_ | refine WP.bag rfl ?_ | refine WP.nil ?_ | refine W.seq ?_ | refine W.reg ?_ | refine W.dreg ?_ | refine W.block ?_ | refine W.ret ?_ | refine W.skip ?_ | refine W.exit ?_ | (simp only [sprow_len, brow_len, srow_len, List.length_map, Qit, Int.toNat_natCast, entry, Opd.eat, cellsOf, TV.ofCells, allAv, Qseq, Qblk, List.map_cons, List.map_nil, putD, kp, Nat.reduceEqDiff, ↓reduceIte, beq_self_eq_true, Nat.reduceBEq]))
      all_goals first | exact Qend.boo rfl rfl rfl | (exfalso; omega) | (exfalso; clear r0 r1; simp_all; done) | skip
theorem refObjects_of {T : Tab} (h : Fn T F.hallmarkref09_objects hallmarkref09_objects.fn) (h0 : Fn T F.hallmarkref09_object hallmarkref09_object.fn) (l : List Ob) (hb : obBks l ≤ 1073741824)
    (ih : ∀ x ∈ l, Ret T F.hallmarkref09_object [.val (.agg x.row)] (one (.bool (obOk x)))) : Ret T F.hallmarkref09_objects [.val (.lst 12 (l.map Ob.row))] (one (.bool (l.all obOk))) := by
  refine Ret.mk h rfl ?_
  have hl := len_obBks l
  have e1 : (l.map Ob.row).length = l.length := List.length_map ..
  repeat' (first | refine WO.cons ?_ | refine WB.cons ?_ | refine WP.one ?_ | ((first | apply W1.add64 | apply W1.sub64); (iterate 3 exact rfl); omega; omega) | (apply W1.iadr; (iterate 3 exact rfl); omega; first | assumption | ((first | apply V.get_row | apply get_srow | apply get_ty | apply get_ar | apply get_ob | apply get_sprow | apply get_brow); assumption)) | (apply W1.idxS; (iterate 3 exact rfl); omega; omega) | (apply W1.slcS; (iterate 4 exact rfl); omega) | (apply W1.pickT; exact rfl; exact rfl; (first | with_reducible rfl | assumption | (simp only [bn]; first | omega | assumption | decide)); exact rfl) | (apply W1.pickF; exact rfl; exact rfl; (first | with_reducible rfl | assumption | (simp only [bn]; first | omega | assumption | decide)); exact rfl) | (apply W1.op; (iterate 3 exact rfl)) | (apply W1.no; exact rfl) | ((first | apply W1.knowT | apply W1.knowFn | apply WQ.knowT | apply WQ.knowFn | apply W.condT); exact rfl; (first | with_reducible rfl | assumption | (simp only [bn]; first | omega | assumption | decide))) | ((first | apply W1.knowTn | apply W1.knowF | apply WQ.knowTn | apply WQ.knowF | apply W.condF); exact rfl; (first | with_reducible rfl | assumption | (simp only [bn]; first | omega | assumption | decide))) | (apply WQ.go; exact rfl; exact rfl) | (apply WQ.no; exact rfl) | ((first | apply W1.bothT | apply W1.bothF | apply WQ.bothT | apply WQ.bothF | apply W.cond); exact rfl; all_goals intro hc; all_goals first | (cases hc; done) | ((try simp only [hc]); (try simp only [bm] at hc))) | refine WO.nil ?_ | refine WB.nil ?_ | refine WP.bag rfl ?_ | refine WP.nil ?_ | refine W.seq ?_ | refine W.reg ?_ | refine W.dreg ?_ | refine W.block ?_ | refine W.ret ?_ | refine W.skip ?_ | refine W.exit ?_ | (simp only [sprow_len, brow_len, srow_len, List.length_map, Qit, Int.toNat_natCast, entry, Opd.eat, cellsOf, TV.ofCells, allAv, Qseq, Qblk, List.map_cons, List.map_nil, putD, kp, Nat.reduceEqDiff, ↓reduceIte, beq_self_eq_true, Nat.reduceBEq]))
  refine W.listP l (fun i (_ : Unit) s => s.put 3 (.av (.int .i64 (i : Int)))) (fun i _ => (l.take i).all obOk = true) () (by simp) rfl ?_ ?_
  · intro i x u hx hi hp
    have r1 := ih x (List.mem_of_getElem? hx)
    rw [Ob.row_eq] at r1
    repeat' (first | refine WO.cons ?_ | refine WB.cons ?_ | refine WP.one ?_ | (first | (apply WQ.call (hm := h0.modes); (iterate 4 exact rfl)) | (apply W1.callV (hm := h0.modes); (iterate 5 exact rfl); exact (r1); exact rfl)) | ((first | apply W1.add64 | apply W1.sub64); (iterate 3 exact rfl); omega; omega) | (apply W1.iadr; (iterate 3 exact rfl); omega; first | assumption | ((first | apply V.get_row | apply get_srow | apply get_ty | apply get_ar | apply get_ob | apply get_sprow | apply get_brow); assumption)) | (apply W1.idxS; (iterate 3 exact rfl); omega; omega) | (apply W1.slcS; (iterate 4 exact rfl); omega) | (apply W1.pickT; exact rfl; exact rfl; (first | with_reducible rfl | assumption | (simp only [bn]; first | omega | assumption | decide)); exact rfl) | (apply W1.pickF; exact rfl; exact rfl; (first | with_reducible rfl | assumption | (simp only [bn]; first | omega | assumption | decide)); exact rfl) | (apply W1.op; (iterate 3 exact rfl)) | (apply W1.no; exact rfl) | ((first | apply W1.knowT | apply W1.knowFn | apply WQ.knowT | apply WQ.knowFn | apply W.condT); exact rfl; (first | with_reducible rfl | assumption | (simp only [bn]; first | omega | assumption | decide))) | ((first | apply W1.knowTn | apply W1.knowF | apply WQ.knowTn | apply WQ.knowF | apply W.condF); exact rfl; (first | with_reducible rfl | assumption | (simp only [bn]; first | omega | assumption | decide))) | (apply WQ.go; exact rfl; exact rfl) | (apply WQ.no; exact rfl) | ((first | apply W1.bothT | apply W1.bothF | apply WQ.bothT | apply WQ.bothF | apply W.cond); exact rfl; all_goals intro hc; all_goals first | (cases hc; done) | ((try simp only [hc]); (try simp only [bm] at hc))) | refine WO.nil ?_ | refine WB.nil ?_ | refine WP.bag rfl ?_ | refine WP.nil ?_ | refine W.seq ?_ | refine W.reg ?_ | refine W.dreg ?_ | refine W.block ?_ | refine W.ret ?_ | refine W.skip ?_ | refine W.exit ?_ | (simp only [sprow_len, brow_len, srow_len, List.length_map, Qit, Int.toNat_natCast, entry, Opd.eat, cellsOf, TV.ofCells, allAv, Qseq, Qblk, List.map_cons, List.map_nil, putD, kp, Nat.reduceEqDiff, ↓reduceIte, beq_self_eq_true, Nat.reduceBEq]))
    · refine Qend.boo rfl rfl ?_
      rw [all_false hx (by simp_all)]
    · refine ⟨(), ?_, rfl⟩
      rw [all_take_succ hx, hp]; simp_all
  · intro u hp
    rw [List.take_length] at hp
    repeat' (first | refine WO.cons ?_ | refine WB.cons ?_ | refine WP.one ?_ | ((first | apply W1.add64 | apply W1.sub64); (iterate 3 exact rfl); omega; omega) | (apply W1.iadr; (iterate 3 exact rfl); omega; first | assumption | ((first | apply V.get_row | apply get_srow | apply get_ty | apply get_ar | apply get_ob | apply get_sprow | apply get_brow); assumption)) | (apply W1.idxS; (iterate 3 exact rfl); omega; omega) | (apply W1.slcS; (iterate 4 exact rfl); omega) | (apply W1.pickT; exact rfl; exact rfl; (first | with_reducible rfl | assumption | (simp only [bn]; first | omega | assumption | decide)); exact rfl) | (apply W1.pickF; exact rfl; exact rfl; (first | with_reducible rfl | assumption | (simp only [bn]; first | omega | assumption | decide)); exact rfl) | (apply W1.op; (iterate 3 exact rfl)) | (apply W1.no; exact rfl) | ((first | apply W1.knowT | apply W1.knowFn | apply WQ.knowT | apply WQ.knowFn | apply W.condT); exact rfl; (first | with_reducible rfl | assumption | (simp only [bn]; first | omega | assumption | decide))) | ((first | apply W1.knowTn | apply W1.knowF | apply WQ.knowTn | apply WQ.knowF | apply W.condF); exact rfl; (first | with_reducible rfl | assumption | (simp only [bn]; first | omega | assumption | decide))) | (apply WQ.go; exact rfl; exact rfl) | (apply WQ.no; exact rfl) | ((first | apply W1.bothT | apply W1.bothF | apply WQ.bothT | apply WQ.bothF | apply W.cond); exact rfl; all_goals intro hc; all_goals first | (cases hc; done) | ((try simp only [hc]); (try simp only [bm] at hc))) | refine WO.nil ?_ | refine WB.nil ?_ | refine WP.bag rfl ?_ | refine WP.nil ?_ | refine W.seq ?_ | refine W.reg ?_ | refine W.dreg ?_ | refine W.block ?_ | refine W.ret ?_ | refine W.skip ?_ | refine W.exit ?_ | (simp only [sprow_len, brow_len, srow_len, List.length_map, Qit, Int.toNat_natCast, entry, Opd.eat, cellsOf, TV.ofCells, allAv, Qseq, Qblk, List.map_cons, List.map_nil, putD, kp, Nat.reduceEqDiff, ↓reduceIte, beq_self_eq_true, Nat.reduceBEq]))
    refine Qend.boo rfl rfl ?_
    rw [hp]
theorem refFormed9_ret {T : Tab} (hf : Fn T F.hallmarkref09_Formed hallmarkref09_Formed.fn) (a1 : Fn T F.hallmarkref09_objects hallmarkref09_objects.fn) (a2 : Fn T F.hallmarkref09_object hallmarkref09_object.fn) (a3 : Fn T F.hallmarkref09_Never hallmarkref09_Never.fn) (a4 : Fn T F.hallmarkref09_Bare hallmarkref09_Bare.fn)
    (a5 : Fn T F.hallmarkref03_Rise hallmarkref03_Rise.fn) (a6 : Fn T F.hallmarkref03_UTF hallmarkref03_UTF.fn) (a7 : Fn T F.hallmarkref03_width hallmarkref03_width.fn) (a8 : Fn T F.hallmarkref03_trail hallmarkref03_trail.fn) (a9 : Fn T F.hallmarkref09_arrays hallmarkref09_arrays.fn)
    (b1 : Fn T F.hallmarkref09_Spans hallmarkref09_Spans.fn) (b2 : Fn T F.hallmarkref03_Numbers hallmarkref03_Numbers.fn) (b3 : Fn T F.hallmarkref03_Texts hallmarkref03_Texts.fn) (b4 : Fn T F.hallmarkref09_bound hallmarkref09_bound.fn) (b5 : Fn T F.hallmarkref03_Number hallmarkref03_Number.fn) :
    ∀ (v : Ty), v.bk ≤ 1073741824 → Formed9 T v := by
  intro v
  induction v using Ty.ind with
  | h v ih =>
  intro hb
  have hbk := Ty.bk_eq v
  have l1 := len_sbk v.texts
  have e1 := srow_len v.texts
  have r0 := refBare_ret a4 v
  have r1 := refRise_ret a5 a6 a7 a8 v.texts (by omega)
  have r2 := refSpans_ret b1 b4 b5 b2 b3 v.nums (by omega)
  have r3 := refArrays_of a9 hf a3 a4 v.arrays (by omega) (fun x hx => by
    have := arBk_mem hx
    have := Ar.bk_eq x
    exact ih x.item (by omega) (by omega))
  have r4 := refObjects_of a1 a2 v.objects (by omega) (fun x hx => by
    have := obBk_mem hx
    have t3 := Ob.bk_eq x
    exact refObject_of a2 hf a3 a4 a5 a6 a7 a8 x (by omega) (fun y hy => by have := tyBk_mem hy; exact ih y (by omega) (by omega)) (ih x.rest (by omega) (by omega)))
  refine Ret.mk hf rfl ?_
  rw [tformed_eq]
  rw [Ty.av_eq] at *
  clear ih
  cases hA : v.all <;> simp only [hA] at *
  repeat' (first | refine WO.cons ?_ | refine WB.cons ?_ | refine WP.one ?_ | (first | (apply WQ.call (hm := a4.modes); (iterate 4 exact rfl)) | (apply W1.callV (hm := a4.modes); (iterate 5 exact rfl); exact (r0); exact rfl)) | (first | (apply WQ.call (hm := a5.modes); (iterate 4 exact rfl)) | (apply W1.callV (hm := a5.modes); (iterate 5 exact rfl); exact (r1); exact rfl)) | (first | (apply WQ.call (hm := b1.modes); (iterate 4 exact rfl)) | (apply W1.callV (hm := b1.modes); (iterate 5 exact rfl); exact (r2); exact rfl)) | (first | (apply WQ.call (hm := a9.modes); (iterate 4 exact rfl)) | (apply W1.callV (hm := a9.modes); (iterate 5 exact rfl); exact (r3); exact rfl)) | (first | (apply WQ.call (hm := a1.modes); (iterate 4 exact rfl)) | (apply W1.callV (hm := a1.modes); (iterate 5 exact rfl); exact (r4); exact rfl)) | ((first | apply W1.add64 | apply W1.sub64); (iterate 3 exact rfl); omega; omega) | (apply W1.iadr; (iterate 3 exact rfl); omega; first | assumption | ((first | apply V.get_row | apply get_srow | apply get_ty | apply get_ar | apply get_ob | apply get_sprow | apply get_brow); assumption)) | (apply W1.idxS; (iterate 3 exact rfl); omega; omega) | (apply W1.slcS; (iterate 4 exact rfl); omega) | (apply W1.pickT; exact rfl; exact rfl; (first | with_reducible rfl | assumption | (simp only [bn]; first | omega | assumption | decide)); exact rfl) | (apply W1.pickF; exact rfl; exact rfl; (first | with_reducible rfl | assumption | (simp only [bn]; first | omega | assumption | decide)); exact rfl) | (apply W1.op; (iterate 3 exact rfl)) | (apply W1.no; exact rfl) | ((first | apply W1.knowT | apply W1.knowFn | apply WQ.knowT | apply WQ.knowFn | apply W.condT); exact rfl; (first | with_reducible rfl | assumption | (simp only [bn]; first | omega | assumption | decide))) | ((first | apply W1.knowTn | apply W1.knowF | apply WQ.knowTn | apply WQ.knowF | apply W.condF); exact rfl; (first | with_reducible rfl | assumption | (simp only [bn]; first | omega | assumption | decide))) | (apply WQ.go; exact rfl; exact rfl) | (apply WQ.no; exact rfl) | ((first | apply W1.bothT | apply W1.bothF | apply WQ.bothT | apply WQ.bothF | apply W.cond); exact rfl; all_goals intro hc; all_goals first | (cases hc; done) | ((try simp only [hc]); (try simp only [bm] at hc))) | refine WO.nil ?_ | refine WB.nil ?_ | refine WP.bag rfl ?_ | refine WP.nil ?_ | refine W.seq ?_ | refine W.reg ?_ | refine W.dreg ?_ | refine W.block ?_ | refine W.ret ?_ | refine W.skip ?_ | refine W.exit ?_ | (simp only [sprow_len, brow_len, srow_len, List.length_map, Qit, Int.toNat_natCast, entry, Opd.eat, cellsOf, TV.ofCells, allAv, Qseq, Qblk, List.map_cons, List.map_nil, putD, kp, Nat.reduceEqDiff, ↓reduceIte, beq_self_eq_true, Nat.reduceBEq]))
  all_goals clear r0 r1 r2 r3 r4
  all_goals first | refine Qend.boo rfl rfl ?_ | skip
  all_goals first | (simp_all; done) | skip
end Hm

/- Comparisons that set things in a row. Conditions: none (definitions and plain lemmas). -/
namespace Hm
/-- A comparison is good on the things of a kind. -/
structure Good {α : Type} (P : α → Prop) (c : α → α → Int) : Prop where
  rng : ∀ a b, P a → P b → -1 ≤ c a b ∧ c a b ≤ 1
  anti : ∀ a b, P a → P b → c a b = - c b a
  trans : ∀ a b d, P a → P b → P d → c a b ≤ 0 → c b d ≤ 0 → c a d ≤ 0
  eq : ∀ a b, P a → P b → c a b = 0 → a = b
theorem Good.refl {α : Type} {P : α → Prop} {c : α → α → Int} (h : Good P c) (a : α) (ha : P a) : c a a = 0 := by
  have := h.anti a a ha ha; omega
theorem Good.lt_trans {α : Type} {P : α → Prop} {c : α → α → Int} (h : Good P c) {a b d : α} (ha : P a) (hb : P b) (hd : P d) (h1 : c a b < 0) (h2 : c b d ≤ 0) : c a d < 0 := by
  have h3 := h.trans a b d ha hb hd (by omega) h2
  by_cases h0 : c a d = 0
  · have := h.eq a d ha hd h0
    subst this
    have := h.anti a b ha hb
    omega
  · omega
theorem bLess_irrefl : ∀ a : Str, binA.bLess a a = false
  | [] => rfl
  | x :: r => by simp [binA.bLess, bLess_irrefl r]
theorem bLess_trans : ∀ a b d : Str, binA.bLess a b = true → binA.bLess b d = true → binA.bLess a d = true
  | [], [], _, h, _ => by simp [binA.bLess] at h
  | [], _ :: _, [], _, h => by simp [binA.bLess] at h
  | [], _ :: _, _ :: _, _, _ => by simp [binA.bLess]
  | _ :: _, [], _, h, _ => by simp [binA.bLess] at h
  | _ :: _, _ :: _, [], _, h => by simp [binA.bLess] at h
  | x :: a, y :: b, z :: d, h1, h2 => by
    simp only [binA.bLess, Bool.or_eq_true, Bool.and_eq_true, decide_eq_true_eq, beq_iff_eq] at *
    rcases h1 with h1 | ⟨h1, h1'⟩
    · rcases h2 with h2 | ⟨h2, _⟩
      · exact .inl (UInt8.lt_trans h1 h2)
      · subst h2; exact .inl h1
    · subst h1
      rcases h2 with h2 | ⟨h2, h2'⟩
      · exact .inl h2
      · subst h2; exact .inr ⟨rfl, bLess_trans a b d h1' h2'⟩
theorem bLess_tri : ∀ a b : Str, binA.bLess a b = true ∨ a = b ∨ binA.bLess b a = true
  | [], [] => .inr (.inl rfl)
  | [], _ :: _ => .inl rfl
  | _ :: _, [] => .inr (.inr rfl)
  | x :: a, y :: b => by
    simp only [binA.bLess, Bool.or_eq_true, Bool.and_eq_true, decide_eq_true_eq, beq_iff_eq, List.cons.injEq]
    by_cases h : x = y
    · subst h
      rcases bLess_tri a b with h | h | h
      · exact .inl (.inr ⟨rfl, h⟩)
      · exact .inr (.inl ⟨rfl, h⟩)
      · exact .inr (.inr (.inr ⟨rfl, h⟩))
    · rcases UInt8.lt_or_lt_of_ne h with h | h
      · exact .inl (.inl h)
      · exact .inr (.inr (.inl h))
end Hm

/- Texts and numbers stand in a row. Conditions: see each theorem. -/
namespace Hm
theorem tcmp_cases (a b : Str) : (tcmp a b = -1 ∧ binA.bLess a b = true) ∨ (tcmp a b = 0 ∧ a = b) ∨ (tcmp a b = 1 ∧ binA.bLess b a = true) := by
  by_cases h : binA.bLess a b = true
  · left; simp [tcmp, h]
  · rw [Bool.not_eq_true] at h
    rcases bLess_tri a b with h' | h' | h'
    · rw [h] at h'; cases h'
    · right; left; subst h'; simp [tcmp, bLess_irrefl]
    · right; right
      have hne : ¬ a = b := fun he => by subst he; rw [bLess_irrefl] at h'; cases h'
      simp [tcmp, h, h', hne]
theorem tcmp_good : Good (fun _ => True) tcmp where
  rng a b _ _ := by rcases tcmp_cases a b with h | h | h <;> omega
  anti a b _ _ := by
    rcases tcmp_cases a b with ⟨h, h1⟩ | ⟨h, h1⟩ | ⟨h, h1⟩ <;> rcases tcmp_cases b a with ⟨k, k1⟩ | ⟨k, k1⟩ | ⟨k, k1⟩ <;> try omega
    · have := bLess_trans a b a h1 k1; rw [bLess_irrefl] at this; cases this
    · subst k1; rw [bLess_irrefl] at h1; cases h1
    · subst h1; rw [bLess_irrefl] at k1; cases k1
    · subst h1; rw [bLess_irrefl] at k1; cases k1
    · subst k1; rw [bLess_irrefl] at h1; cases h1
    · have := bLess_trans b a b h1 k1; rw [bLess_irrefl] at this; cases this
  trans a b d _ _ _ h1 h2 := by
    rcases tcmp_cases a b with ⟨h, k1⟩ | ⟨h, k1⟩ | ⟨h, k1⟩
    · rcases tcmp_cases b d with ⟨h', k2⟩ | ⟨h', k2⟩ | ⟨h', k2⟩
      · have := bLess_trans a b d k1 k2
        rcases tcmp_cases a d with ⟨h'', k3⟩ | ⟨h'', k3⟩ | ⟨h'', k3⟩
        · omega
        · omega
        · have := bLess_trans a d a this k3; rw [bLess_irrefl] at this; cases this
      · subst k2; omega
      · omega
    · subst k1; omega
    · omega
  eq a b _ _ h := by rcases tcmp_cases a b with h' | h' | h' <;> first | exact h'.2 | omega
theorem ncmp_good : Good (fun _ => True) ncmp where
  rng a b _ _ := by
    simp only [ncmp]; split
    · exact tcmp_good.rng a b trivial trivial
    · split <;> omega
  anti a b _ _ := by
    simp only [ncmp]
    by_cases h : a.length = b.length
    · rw [if_pos h, if_pos h.symm]; exact tcmp_good.anti a b trivial trivial
    · have h' : ¬ b.length = a.length := fun e => h e.symm
      simp only [h, h', if_false]
      by_cases hl : a.length < b.length
      · have : ¬ b.length < a.length := by omega
        simp [hl, this]
      · have : b.length < a.length := by omega
        simp [hl, this]
  trans a b d _ _ _ h1 h2 := by
    simp only [ncmp] at *
    by_cases e1 : a.length = b.length
    · rw [if_pos e1] at h1
      by_cases e2 : b.length = d.length
      · rw [if_pos e2] at h2; rw [if_pos (by omega)]; exact tcmp_good.trans a b d trivial trivial trivial h1 h2
      · rw [if_neg e2] at h2; rw [if_neg (by omega)]; split at h2 <;> split <;> omega
    · rw [if_neg e1] at h1
      by_cases e2 : b.length = d.length
      · rw [if_neg (by omega)]; split at h1 <;> split <;> omega
      · rw [if_neg e2] at h2
        have : a.length < b.length := by split at h1 <;> omega
        have : b.length < d.length := by split at h2 <;> omega
        rw [if_neg (by omega), if_pos (by omega)]; omega
  eq a b _ _ h := by
    simp only [ncmp] at h
    by_cases e : a.length = b.length
    · rw [if_pos e] at h; exact tcmp_good.eq a b trivial trivial h
    · rw [if_neg e] at h; split at h <;> omega
theorem minus_eq {a : Str} (h : number a = true) (hm : minus a = true) : a = 45 :: a.drop 1 := by
  have hl := number_len h
  simp only [minus, decide_eq_true_eq] at hm
  have h45 := (u8_eq (bAt a 0) 45 (by omega)).1 hm
  cases a with
  | nil => simp at hl
  | cons c r => simp [bAt] at h45; simp [h45]
theorem zcmp_good : Good (fun a => number a = true) zcmp where
  rng a b _ _ := by
    have h1 := ncmp_good.rng (b.drop 1) (a.drop 1) trivial trivial
    have h2 := ncmp_good.rng a b trivial trivial
    simp only [List.drop_one] at h1
    simp only [zcmp]; cases minus a <;> cases minus b <;> simp <;> first | exact h1 | exact h2
  anti a b _ _ := by
    have h1 := ncmp_good.anti (b.drop 1) (a.drop 1) trivial trivial
    have h2 := ncmp_good.anti a b trivial trivial
    simp only [zcmp]; cases minus a <;> cases minus b <;> simp <;> first | exact h2 | simpa using h1
  trans a b d _ _ _ h1 h2 := by
    have t1 := ncmp_good.trans a b d trivial trivial trivial
    have t2 := ncmp_good.trans (d.drop 1) (b.drop 1) (a.drop 1) trivial trivial trivial
    simp only [zcmp] at *
    cases ma : minus a <;> cases mb : minus b <;> cases md : minus d <;> simp [ma, mb, md] at *
    all_goals first
      | exact t1 h1 h2
      | exact t2 h2 h1
      | omega
  eq a b ha hb h := by
    simp only [zcmp] at h
    cases ma : minus a <;> cases mb : minus b <;> simp only [ma, mb] at h
    · exact ncmp_good.eq a b trivial trivial (by simpa using h)
    · simp at h
    · simp at h
    · have := ncmp_good.eq (b.drop 1) (a.drop 1) trivial trivial (by simpa using h)
      rw [minus_eq ha ma, minus_eq hb mb, this]
end Hm

/- Whole numbers in tens, as the program has them. Conditions: see each theorem. -/
namespace Hm
open Go (IntKind)
set_option maxHeartbeats 4000000
set_option maxRecDepth 4000
def two (v w : AV) : CR := ⟨[([.av v], false), ([.av w], false)], []⟩
theorem Qend.two {fn : AFun} {as : List Arg} {v w v' w' : AV} {st : St} (hr : results st fn.results = some [([.av v], false), ([.av w], false)]) (ho : outs st 0 as = some []) (h : v = v') (h' : w = w') : Qend fn as (Hm.two v' w') .ret st := by
  subst h h'; exact ⟨.inr rfl, hr, ho⟩
theorem tensFormed_ret {T : Tab} (h : Fn T F.tens_Formed tens_Formed.fn) (s : Str) (hb : s.length ≤ 1073741824) : Ret T F.tens_Formed [.val (.str s)] (one (.bool (number s))) := by
  refine Ret.mk h rfl ?_
  by_cases hs : s = [48]
  · subst hs
    repeat' (first | refine WO.cons ?_ | refine WB.cons ?_ | refine WP.one ?_ | ((first | apply W1.add64 | apply W1.sub64); (iterate 3 exact rfl); omega; omega) | (apply W1.iadr; (iterate 3 exact rfl); omega; first | assumption | ((first | apply V.get_row | apply get_srow | apply get_ty | apply get_ar | apply get_ob | apply get_sprow | apply get_brow); assumption)) | (apply W1.idxS; (iterate 3 exact rfl); omega; omega) | (apply W1.slcS; (iterate 4 exact rfl); omega) | (apply W1.pickT; exact rfl; exact rfl; (first | with_reducible rfl | assumption | (simp only [bn]; first | omega | assumption | decide)); exact rfl) | (apply W1.pickF; exact rfl; exact rfl; (first | with_reducible rfl | assumption | (simp only [bn]; first | omega | assumption | decide)); exact rfl) | (apply W1.op; (iterate 3 exact rfl)) | (apply W1.no; exact rfl) | ((first | apply W1.knowT | apply W1.knowFn | apply WQ.knowT | apply WQ.knowFn | apply W.condT); exact rfl; (first | with_reducible rfl | assumption | (simp only [bn]; first | omega | assumption | decide))) | ((first | apply W1.knowTn | apply W1.knowF | apply WQ.knowTn | apply WQ.knowF | apply W.condF); exact rfl; (first | with_reducible rfl | assumption | (simp only [bn]; first | omega | assumption | decide))) | (apply WQ.go; exact rfl; exact rfl) | (apply WQ.no; exact rfl) | ((first | apply W1.bothT | apply W1.bothF | apply WQ.bothT | apply WQ.bothF | apply W.cond); exact rfl; all_goals intro hc; all_goals first | (cases hc; done) | ((try simp only [hc]); (try simp only [bm] at hc))) | refine WO.nil ?_ | refine WB.nil ?_ | refine WP.bag rfl ?_ | refine WP.nil ?_ | refine W.seq ?_ | refine W.reg ?_ | refine W.dreg ?_ | refine W.block ?_ | refine W.ret ?_ | refine W.skip ?_ | refine W.exit ?_ | (simp only [sprow_len, brow_len, srow_len, List.length_map, Qit, Int.toNat_natCast, entry, Opd.eat, cellsOf, TV.ofCells, allAv, Qseq, Qblk, List.map_cons, List.map_nil, putD, kp, Nat.reduceEqDiff, ↓reduceIte, beq_self_eq_true, Nat.reduceBEq]))
    exact Qend.boo rfl rfl rfl
  have hs' : (s == [48]) = false := beq_eq_false_iff_ne.2 hs
  have hnum : number s = ((digs s).all isDig && decide (0 < (digs s).length) && !(bAt (digs s) 0 == 48)) := by simp only [number, hs', Bool.not_false, Bool.and_true]
  have fin : ∀ d : Str, d = digs s → 0 < d.length → ¬ ((bAt d 0).toNat : Int) = 48 → d.length ≤ 1073741824 → W T (AC.loop [0, 23, 24] tens_Formed.l1) ⟨lstE [(0, .av (.str d)), (23, .av (.int .i64 (d.length : Nat))), (24, .av (.int .i64 0))], lstB [(0, none), (23, none), (24, none)]⟩
      (Qblk 0 (Qseq T ((AC.reg tens_Formed.r13 [2]).seq AC.ret) (Qend tens_Formed.fn [.val (.str s)] (one (.bool (number s)))))) := by
    intro d hd hl h48 hlb
    refine W.listP d (fun i (_ : Unit) s => s.put 24 (.av (.int .i64 (i : Int)))) (fun i _ => (d.take i).all isDig = true) () (by simp) rfl ?_ ?_
    · intro i x u hx hi hp
      have e := bAt_get hx
      have e' : bAt d ((i : Int)).toNat = x := e
      repeat' (first | refine WO.cons ?_ | refine WB.cons ?_ | refine WP.one ?_ | ((first | apply W1.add64 | apply W1.sub64); (iterate 3 exact rfl); omega; omega) | (apply W1.iadr; (iterate 3 exact rfl); omega; first | assumption | ((first | apply V.get_row | apply get_srow | apply get_ty | apply get_ar | apply get_ob | apply get_sprow | apply get_brow); assumption)) | (apply W1.idxS; (iterate 3 exact rfl); omega; omega) | (apply W1.slcS; (iterate 4 exact rfl); omega) | (apply W1.pickT; exact rfl; exact rfl; (first | with_reducible rfl | assumption | (simp only [bn]; first | omega | assumption | decide)); exact rfl) | (apply W1.pickF; exact rfl; exact rfl; (first | with_reducible rfl | assumption | (simp only [bn]; first | omega | assumption | decide)); exact rfl) | (apply W1.op; (iterate 3 exact rfl)) | (apply W1.no; exact rfl) | ((first | apply W1.knowT | apply W1.knowFn | apply WQ.knowT | apply WQ.knowFn | apply W.condT); exact rfl; (first | with_reducible rfl | assumption | (simp only [bn]; first | omega | assumption | decide))) | ((first | apply W1.knowTn | apply W1.knowF | apply WQ.knowTn | apply WQ.knowF | apply W.condF); exact rfl; (first | with_reducible rfl | assumption | (simp only [bn]; first | omega | assumption | decide))) | (apply WQ.go; exact rfl; exact rfl) | (apply WQ.no; exact rfl) | ((first | apply W1.bothT | apply W1.bothF | apply WQ.bothT | apply WQ.bothF | apply W.cond); exact rfl; all_goals intro hc; all_goals first | (cases hc; done) | ((try simp only [hc]); (try simp only [bm] at hc))) | refine WO.nil ?_ | refine WB.nil ?_ | refine WP.bag rfl ?_ | refine WP.nil ?_ | refine W.seq ?_ | refine W.reg ?_ | refine W.dreg ?_ | refine W.block ?_ | refine W.ret ?_ | refine W.skip ?_ | refine W.exit ?_ | (simp only [sprow_len, brow_len, srow_len, List.length_map, Qit, Int.toNat_natCast, entry, Opd.eat, cellsOf, TV.ofCells, allAv, Qseq, Qblk, List.map_cons, List.map_nil, putD, kp, Nat.reduceEqDiff, ↓reduceIte, beq_self_eq_true, Nat.reduceBEq]))
      all_goals first
        | (refine Qend.boo rfl rfl ?_; rw [hnum, ← hd, all_false hx (by rw [← e]; simp only [isDig, Bool.and_eq_false_iff, decide_eq_false_iff_not]; simp only [Int.toNat_natCast] at *; omega)]; rfl)
        | (refine ⟨(), ?_, rfl⟩; rw [all_take_succ hx, hp, ← e]; simp only [isDig, Bool.true_and, Bool.and_eq_true, decide_eq_true_eq]; simp only [Int.toNat_natCast] at *; omega)
        | skip
    · intro u hp
      rw [List.take_length] at hp
      repeat' (first | refine WO.cons ?_ | refine WB.cons ?_ | refine WP.one ?_ | ((first | apply W1.add64 | apply W1.sub64); (iterate 3 exact rfl); omega; omega) | (apply W1.iadr; (iterate 3 exact rfl); omega; first | assumption | ((first | apply V.get_row | apply get_srow | apply get_ty | apply get_ar | apply get_ob | apply get_sprow | apply get_brow); assumption)) | (apply W1.idxS; (iterate 3 exact rfl); omega; omega) | (apply W1.slcS; (iterate 4 exact rfl); omega) | (apply W1.pickT; exact rfl; exact rfl; (first | with_reducible rfl | assumption | (simp only [bn]; first | omega | assumption | decide)); exact rfl) | (apply W1.pickF; exact rfl; exact rfl; (first | with_reducible rfl | assumption | (simp only [bn]; first | omega | assumption | decide)); exact rfl) | (apply W1.op; (iterate 3 exact rfl)) | (apply W1.no; exact rfl) | ((first | apply W1.knowT | apply W1.knowFn | apply WQ.knowT | apply WQ.knowFn | apply W.condT); exact rfl; (first | with_reducible rfl | assumption | (simp only [bn]; first | omega | assumption | decide))) | ((first | apply W1.knowTn | apply W1.knowF | apply WQ.knowTn | apply WQ.knowF | apply W.condF); exact rfl; (first | with_reducible rfl | assumption | (simp only [bn]; first | omega | assumption | decide))) | (apply WQ.go; exact rfl; exact rfl) | (apply WQ.no; exact rfl) | ((first | apply W1.bothT | apply W1.bothF | apply WQ.bothT | apply WQ.bothF | apply W.cond); exact rfl; all_goals intro hc; all_goals first | (cases hc; done) | ((try simp only [hc]); (try simp only [bm] at hc))) | refine WO.nil ?_ | refine WB.nil ?_ | refine WP.bag rfl ?_ | refine WP.nil ?_ | refine W.seq ?_ | refine W.reg ?_ | refine W.dreg ?_ | refine W.block ?_ | refine W.ret ?_ | refine W.skip ?_ | refine W.exit ?_ | (simp only [sprow_len, brow_len, srow_len, List.length_map, Qit, Int.toNat_natCast, entry, Opd.eat, cellsOf, TV.ofCells, allAv, Qseq, Qblk, List.map_cons, List.map_nil, putD, kp, Nat.reduceEqDiff, ↓reduceIte, beq_self_eq_true, Nat.reduceBEq]))
      refine Qend.boo rfl rfl ?_
      have : ¬ bAt d 0 = 48 := fun h => h48 ((u8_eq _ 48 (by omega)).2 h)
      have : (bAt d 0 == 48) = false := beq_eq_false_iff_ne.2 this
      rw [hnum, ← hd, hp, decide_eq_true hl, this]; rfl
  by_cases hm : 0 < s.length ∧ ((bAt s 0).toNat : Int) = 45
  · have hd : digs s = s.drop 1 := by rw [digs, if_pos ⟨hm.1, (u8_eq _ 45 (by omega)).1 hm.2⟩]
    have ed : List.drop (Int.toNat 1) (List.take s.length s) = s.drop 1 := by rw [List.take_length]; rfl
    have hne : ¬ s = [] := (fun h => by rw [h] at hm; simp at hm)
    have hm' : ((bAt s (Int.toNat 0)).toNat : Int) = 45 := hm.2
    by_cases hl : 0 < (s.drop 1).length
    · have hne2 : ¬ List.drop (Int.toNat 1) (List.take s.length s) = [] := by rw [ed]; exact (fun h => by rw [h] at hl; simp at hl)
      have hl2 : 0 < (List.drop (Int.toNat 1) (List.take s.length s)).length := by rw [ed]; exact hl
      by_cases h48 : ((bAt (s.drop 1) 0).toNat : Int) = 48
      · have h48' : ((bAt (List.drop (Int.toNat 1) (List.take s.length s)) (Int.toNat 0)).toNat : Int) = 48 := by rw [ed]; exact h48
        repeat' (first | refine WO.cons ?_ | refine WB.cons ?_ | refine WP.one ?_ | ((first | apply W1.add64 | apply W1.sub64); (iterate 3 exact rfl); omega; omega) | (apply W1.iadr; (iterate 3 exact rfl); omega; first | assumption | ((first | apply V.get_row | apply get_srow | apply get_ty | apply get_ar | apply get_ob | apply get_sprow | apply get_brow); assumption)) | (apply W1.idxS; (iterate 3 exact rfl); omega; omega) | (apply W1.slcS; (iterate 4 exact rfl); omega) | (apply W1.pickT; exact rfl; exact rfl; (first | with_reducible rfl | assumption | (simp only [bn]; first | omega | assumption | decide)); exact rfl) | (apply W1.pickF; exact rfl; exact rfl; (first | with_reducible rfl | assumption | (simp only [bn]; first | omega | assumption | decide)); exact rfl) | (apply W1.op; (iterate 3 exact rfl)) | (apply W1.no; exact rfl) | ((first | apply W1.knowT | apply W1.knowFn | apply WQ.knowT | apply WQ.knowFn | apply W.condT); exact rfl; (first | with_reducible rfl | assumption | (simp only [bn]; first | omega | assumption | decide))) | ((first | apply W1.knowTn | apply W1.knowF | apply WQ.knowTn | apply WQ.knowF | apply W.condF); exact rfl; (first | with_reducible rfl | assumption | (simp only [bn]; first | omega | assumption | decide))) | (apply WQ.go; exact rfl; exact rfl) | (apply WQ.no; exact rfl) | ((first | apply W1.bothT | apply W1.bothF | apply WQ.bothT | apply WQ.bothF | apply W.cond); exact rfl; all_goals intro hc; all_goals first | (cases hc; done) | ((try simp only [hc]); (try simp only [bm] at hc))) | refine WO.nil ?_ | refine WB.nil ?_ | refine WP.bag rfl ?_ | refine WP.nil ?_ | refine W.seq ?_ | refine W.reg ?_ | refine W.dreg ?_ | refine W.block ?_ | refine W.ret ?_ | refine W.skip ?_ | refine W.exit ?_ | (simp only [sprow_len, brow_len, srow_len, List.length_map, Qit, Int.toNat_natCast, entry, Opd.eat, cellsOf, TV.ofCells, allAv, Qseq, Qblk, List.map_cons, List.map_nil, putD, kp, Nat.reduceEqDiff, ↓reduceIte, beq_self_eq_true, Nat.reduceBEq]))
        refine Qend.boo rfl rfl ?_
        have : (bAt (s.drop 1) 0) = 48 := (u8_eq _ 48 (by omega)).1 h48
        rw [hnum, hd, this]; simp
      · have h48' : ¬ ((bAt (List.drop (Int.toNat 1) (List.take s.length s)) (Int.toNat 0)).toNat : Int) = 48 := by rw [ed]; exact h48
        repeat' (first | refine WO.cons ?_ | refine WB.cons ?_ | refine WP.one ?_ | (exact fin _ (ed.trans hd.symm) (by rw [ed]; exact hl) h48' (by rw [ed]; simp; omega)) | ((first | apply W1.add64 | apply W1.sub64); (iterate 3 exact rfl); omega; omega) | (apply W1.iadr; (iterate 3 exact rfl); omega; first | assumption | ((first | apply V.get_row | apply get_srow | apply get_ty | apply get_ar | apply get_ob | apply get_sprow | apply get_brow); assumption)) | (apply W1.idxS; (iterate 3 exact rfl); omega; omega) | (apply W1.slcS; (iterate 4 exact rfl); omega) | (apply W1.pickT; exact rfl; exact rfl; (first | with_reducible rfl | assumption | (simp only [bn]; first | omega | assumption | decide)); exact rfl) | (apply W1.pickF; exact rfl; exact rfl; (first | with_reducible rfl | assumption | (simp only [bn]; first | omega | assumption | decide)); exact rfl) | (apply W1.op; (iterate 3 exact rfl)) | (apply W1.no; exact rfl) | ((first | apply W1.knowT | apply W1.knowFn | apply WQ.knowT | apply WQ.knowFn | apply W.condT); exact rfl; (first | with_reducible rfl | assumption | (simp only [bn]; first | omega | assumption | decide))) | ((first | apply W1.knowTn | apply W1.knowF | apply WQ.knowTn | apply WQ.knowF | apply W.condF); exact rfl; (first | with_reducible rfl | assumption | (simp only [bn]; first | omega | assumption | decide))) | (apply WQ.go; exact rfl; exact rfl) | (apply WQ.no; exact rfl) | ((first | apply W1.bothT | apply W1.bothF | apply WQ.bothT | apply WQ.bothF | apply W.cond); exact rfl; all_goals intro hc; all_goals first | (cases hc; done) | ((try simp only [hc]); (try simp only [bm] at hc))) | refine WO.nil ?_ | refine WB.nil ?_ | refine WP.bag rfl ?_ | refine WP.nil ?_ | refine W.seq ?_ | refine W.reg ?_ | refine W.dreg ?_ | refine W.block ?_ | refine W.ret ?_ | refine W.skip ?_ | refine W.exit ?_ | (simp only [sprow_len, brow_len, srow_len, List.length_map, Qit, Int.toNat_natCast, entry, Opd.eat, cellsOf, TV.ofCells, allAv, Qseq, Qblk, List.map_cons, List.map_nil, putD, kp, Nat.reduceEqDiff, ↓reduceIte, beq_self_eq_true, Nat.reduceBEq]))
    · have e0 : s.drop 1 = [] := List.eq_nil_of_length_eq_zero (by omega)
      have hne2 : List.drop (Int.toNat 1) (List.take s.length s) = [] := by rw [ed, e0]
      repeat' (first | refine WO.cons ?_ | refine WB.cons ?_ | refine WP.one ?_ | ((first | apply W1.add64 | apply W1.sub64); (iterate 3 exact rfl); omega; omega) | (apply W1.iadr; (iterate 3 exact rfl); omega; first | assumption | ((first | apply V.get_row | apply get_srow | apply get_ty | apply get_ar | apply get_ob | apply get_sprow | apply get_brow); assumption)) | (apply W1.idxS; (iterate 3 exact rfl); omega; omega) | (apply W1.slcS; (iterate 4 exact rfl); omega) | (apply W1.pickT; exact rfl; exact rfl; (first | with_reducible rfl | assumption | (simp only [bn]; first | omega | assumption | decide)); exact rfl) | (apply W1.pickF; exact rfl; exact rfl; (first | with_reducible rfl | assumption | (simp only [bn]; first | omega | assumption | decide)); exact rfl) | (apply W1.op; (iterate 3 exact rfl)) | (apply W1.no; exact rfl) | ((first | apply W1.knowT | apply W1.knowFn | apply WQ.knowT | apply WQ.knowFn | apply W.condT); exact rfl; (first | with_reducible rfl | assumption | (simp only [bn]; first | omega | assumption | decide))) | ((first | apply W1.knowTn | apply W1.knowF | apply WQ.knowTn | apply WQ.knowF | apply W.condF); exact rfl; (first | with_reducible rfl | assumption | (simp only [bn]; first | omega | assumption | decide))) | (apply WQ.go; exact rfl; exact rfl) | (apply WQ.no; exact rfl) | ((first | apply W1.bothT | apply W1.bothF | apply WQ.bothT | apply WQ.bothF | apply W.cond); exact rfl; all_goals intro hc; all_goals first | (cases hc; done) | ((try simp only [hc]); (try simp only [bm] at hc))) | refine WO.nil ?_ | refine WB.nil ?_ | refine WP.bag rfl ?_ | refine WP.nil ?_ | refine W.seq ?_ | refine W.reg ?_ | refine W.dreg ?_ | refine W.block ?_ | refine W.ret ?_ | refine W.skip ?_ | refine W.exit ?_ | (simp only [sprow_len, brow_len, srow_len, List.length_map, Qit, Int.toNat_natCast, entry, Opd.eat, cellsOf, TV.ofCells, allAv, Qseq, Qblk, List.map_cons, List.map_nil, putD, kp, Nat.reduceEqDiff, ↓reduceIte, beq_self_eq_true, Nat.reduceBEq]))
      refine Qend.boo rfl rfl ?_
      rw [hnum, hd, e0]; rfl
  · have hd : digs s = s := by rw [digs, if_neg (fun h => hm ⟨h.1, (u8_eq _ 45 (by omega)).2 h.2⟩)]
    by_cases hl : 0 < s.length
    · have hne : ¬ s = [] := (fun h => by rw [h] at hl; simp at hl)
      have hm' : ¬ ((bAt s (Int.toNat 0)).toNat : Int) = 45 := fun h => hm ⟨hl, h⟩
      by_cases h48 : ((bAt s 0).toNat : Int) = 48
      · have h48' : ((bAt s (Int.toNat 0)).toNat : Int) = 48 := h48
        repeat' (first | refine WO.cons ?_ | refine WB.cons ?_ | refine WP.one ?_ | ((first | apply W1.add64 | apply W1.sub64); (iterate 3 exact rfl); omega; omega) | (apply W1.iadr; (iterate 3 exact rfl); omega; first | assumption | ((first | apply V.get_row | apply get_srow | apply get_ty | apply get_ar | apply get_ob | apply get_sprow | apply get_brow); assumption)) | (apply W1.idxS; (iterate 3 exact rfl); omega; omega) | (apply W1.slcS; (iterate 4 exact rfl); omega) | (apply W1.pickT; exact rfl; exact rfl; (first | with_reducible rfl | assumption | (simp only [bn]; first | omega | assumption | decide)); exact rfl) | (apply W1.pickF; exact rfl; exact rfl; (first | with_reducible rfl | assumption | (simp only [bn]; first | omega | assumption | decide)); exact rfl) | (apply W1.op; (iterate 3 exact rfl)) | (apply W1.no; exact rfl) | ((first | apply W1.knowT | apply W1.knowFn | apply WQ.knowT | apply WQ.knowFn | apply W.condT); exact rfl; (first | with_reducible rfl | assumption | (simp only [bn]; first | omega | assumption | decide))) | ((first | apply W1.knowTn | apply W1.knowF | apply WQ.knowTn | apply WQ.knowF | apply W.condF); exact rfl; (first | with_reducible rfl | assumption | (simp only [bn]; first | omega | assumption | decide))) | (apply WQ.go; exact rfl; exact rfl) | (apply WQ.no; exact rfl) | ((first | apply W1.bothT | apply W1.bothF | apply WQ.bothT | apply WQ.bothF | apply W.cond); exact rfl; all_goals intro hc; all_goals first | (cases hc; done) | ((try simp only [hc]); (try simp only [bm] at hc))) | refine WO.nil ?_ | refine WB.nil ?_ | refine WP.bag rfl ?_ | refine WP.nil ?_ | refine W.seq ?_ | refine W.reg ?_ | refine W.dreg ?_ | refine W.block ?_ | refine W.ret ?_ | refine W.skip ?_ | refine W.exit ?_ | (simp only [sprow_len, brow_len, srow_len, List.length_map, Qit, Int.toNat_natCast, entry, Opd.eat, cellsOf, TV.ofCells, allAv, Qseq, Qblk, List.map_cons, List.map_nil, putD, kp, Nat.reduceEqDiff, ↓reduceIte, beq_self_eq_true, Nat.reduceBEq]))
        refine Qend.boo rfl rfl ?_
        have : (bAt s 0) = 48 := (u8_eq _ 48 (by omega)).1 h48
        rw [hnum, hd, this]; simp
      · have h48' : ¬ ((bAt s (Int.toNat 0)).toNat : Int) = 48 := h48
        repeat' (first | refine WO.cons ?_ | refine WB.cons ?_ | refine WP.one ?_ | (exact fin s hd.symm hl h48 hb) | ((first | apply W1.add64 | apply W1.sub64); (iterate 3 exact rfl); omega; omega) | (apply W1.iadr; (iterate 3 exact rfl); omega; first | assumption | ((first | apply V.get_row | apply get_srow | apply get_ty | apply get_ar | apply get_ob | apply get_sprow | apply get_brow); assumption)) | (apply W1.idxS; (iterate 3 exact rfl); omega; omega) | (apply W1.slcS; (iterate 4 exact rfl); omega) | (apply W1.pickT; exact rfl; exact rfl; (first | with_reducible rfl | assumption | (simp only [bn]; first | omega | assumption | decide)); exact rfl) | (apply W1.pickF; exact rfl; exact rfl; (first | with_reducible rfl | assumption | (simp only [bn]; first | omega | assumption | decide)); exact rfl) | (apply W1.op; (iterate 3 exact rfl)) | (apply W1.no; exact rfl) | ((first | apply W1.knowT | apply W1.knowFn | apply WQ.knowT | apply WQ.knowFn | apply W.condT); exact rfl; (first | with_reducible rfl | assumption | (simp only [bn]; first | omega | assumption | decide))) | ((first | apply W1.knowTn | apply W1.knowF | apply WQ.knowTn | apply WQ.knowF | apply W.condF); exact rfl; (first | with_reducible rfl | assumption | (simp only [bn]; first | omega | assumption | decide))) | (apply WQ.go; exact rfl; exact rfl) | (apply WQ.no; exact rfl) | ((first | apply W1.bothT | apply W1.bothF | apply WQ.bothT | apply WQ.bothF | apply W.cond); exact rfl; all_goals intro hc; all_goals first | (cases hc; done) | ((try simp only [hc]); (try simp only [bm] at hc))) | refine WO.nil ?_ | refine WB.nil ?_ | refine WP.bag rfl ?_ | refine WP.nil ?_ | refine W.seq ?_ | refine W.reg ?_ | refine W.dreg ?_ | refine W.block ?_ | refine W.ret ?_ | refine W.skip ?_ | refine W.exit ?_ | (simp only [sprow_len, brow_len, srow_len, List.length_map, Qit, Int.toNat_natCast, entry, Opd.eat, cellsOf, TV.ofCells, allAv, Qseq, Qblk, List.map_cons, List.map_nil, putD, kp, Nat.reduceEqDiff, ↓reduceIte, beq_self_eq_true, Nat.reduceBEq]))
    · have e0 : s = [] := List.eq_nil_of_length_eq_zero (by omega)
      subst e0
      repeat' (first | refine WO.cons ?_ | refine WB.cons ?_ | refine WP.one ?_ | ((first | apply W1.add64 | apply W1.sub64); (iterate 3 exact rfl); omega; omega) | (apply W1.iadr; (iterate 3 exact rfl); omega; first | assumption | ((first | apply V.get_row | apply get_srow | apply get_ty | apply get_ar | apply get_ob | apply get_sprow | apply get_brow); assumption)) | (apply W1.idxS; (iterate 3 exact rfl); omega; omega) | (apply W1.slcS; (iterate 4 exact rfl); omega) | (apply W1.pickT; exact rfl; exact rfl; (first | with_reducible rfl | assumption | (simp only [bn]; first | omega | assumption | decide)); exact rfl) | (apply W1.pickF; exact rfl; exact rfl; (first | with_reducible rfl | assumption | (simp only [bn]; first | omega | assumption | decide)); exact rfl) | (apply W1.op; (iterate 3 exact rfl)) | (apply W1.no; exact rfl) | ((first | apply W1.knowT | apply W1.knowFn | apply WQ.knowT | apply WQ.knowFn | apply W.condT); exact rfl; (first | with_reducible rfl | assumption | (simp only [bn]; first | omega | assumption | decide))) | ((first | apply W1.knowTn | apply W1.knowF | apply WQ.knowTn | apply WQ.knowF | apply W.condF); exact rfl; (first | with_reducible rfl | assumption | (simp only [bn]; first | omega | assumption | decide))) | (apply WQ.go; exact rfl; exact rfl) | (apply WQ.no; exact rfl) | ((first | apply W1.bothT | apply W1.bothF | apply WQ.bothT | apply WQ.bothF | apply W.cond); exact rfl; all_goals intro hc; all_goals first | (cases hc; done) | ((try simp only [hc]); (try simp only [bm] at hc))) | refine WO.nil ?_ | refine WB.nil ?_ | refine WP.bag rfl ?_ | refine WP.nil ?_ | refine W.seq ?_ | refine W.reg ?_ | refine W.dreg ?_ | refine W.block ?_ | refine W.ret ?_ | refine W.skip ?_ | refine W.exit ?_ | (simp only [sprow_len, brow_len, srow_len, List.length_map, Qit, Int.toNat_natCast, entry, Opd.eat, cellsOf, TV.ofCells, allAv, Qseq, Qblk, List.map_cons, List.map_nil, putD, kp, Nat.reduceEqDiff, ↓reduceIte, beq_self_eq_true, Nat.reduceBEq]))
      exact Qend.boo rfl rfl rfl
end Hm

/- Whole numbers in tens in order, as the program has them. Conditions: see each theorem. -/
namespace Hm
open Go (IntKind)
set_option maxHeartbeats 4000000
set_option maxRecDepth 4000
theorem tensSize_ret {T : Tab} (h : Fn T F.tens_size tens_size.fn) (a b : Str) (hl : a.length ≤ 1073741824) (hl' : b.length ≤ 1073741824) : Ret T F.tens_size [.val (.str a), .val (.str b)] (one (.int .i64 (ncmp a b))) := by
  refine Ret.mk h rfl ?_
  repeat' (first | refine WO.cons ?_ | refine WB.cons ?_ | refine WP.one ?_ | ((first | apply W1.add64 | apply W1.sub64); (iterate 3 exact rfl); omega; omega) | (apply W1.iadr; (iterate 3 exact rfl); omega; first | assumption | ((first | apply V.get_row | apply get_srow | apply get_ty | apply get_ar | apply get_ob | apply get_sprow | apply get_brow); assumption)) | (apply W1.idxS; (iterate 3 exact rfl); omega; omega) | (apply W1.slcS; (iterate 4 exact rfl); omega) | (apply W1.pickT; exact rfl; exact rfl; (first | with_reducible rfl | assumption | (simp only [bn]; first | omega | assumption | decide)); exact rfl) | (apply W1.pickF; exact rfl; exact rfl; (first | with_reducible rfl | assumption | (simp only [bn]; first | omega | assumption | decide)); exact rfl) | (apply W1.op; (iterate 3 exact rfl)) | (apply W1.no; exact rfl) | ((first | apply W1.knowT | apply W1.knowFn | apply WQ.knowT | apply WQ.knowFn | apply W.condT); exact rfl; (first | with_reducible rfl | assumption | (simp only [bn]; first | omega | assumption | decide))) | ((first | apply W1.knowTn | apply W1.knowF | apply WQ.knowTn | apply WQ.knowF | apply W.condF); exact rfl; (first | with_reducible rfl | assumption | (simp only [bn]; first | omega | assumption | decide))) | (apply WQ.go; exact rfl; exact rfl) | (apply WQ.no; exact rfl) | ((first | apply W1.bothT | apply W1.bothF | apply WQ.bothT | apply WQ.bothF | apply W.cond); exact rfl; all_goals intro hc; all_goals first | (cases hc; done) | ((try simp only [hc]); (try simp only [bm] at hc))) | refine WO.nil ?_ | refine WB.nil ?_ | refine WP.bag rfl ?_ | refine WP.nil ?_ | refine W.seq ?_ | refine W.reg ?_ | refine W.dreg ?_ | refine W.block ?_ | refine W.ret ?_ | refine W.skip ?_ | refine W.exit ?_ | (simp only [srow_len, List.length_map, Qit, Int.toNat_natCast, entry, Opd.eat, cellsOf, TV.ofCells, allAv, Qseq, Qblk, List.map_cons, List.map_nil, putD, kp, Nat.reduceEqDiff, ↓reduceIte, beq_self_eq_true, Nat.reduceBEq]))
  all_goals refine Qend.num rfl rfl ?_
  all_goals simp only [ncmp, tcmp]
  · have hne : ¬ a.length = b.length := by omega
    simp only [hne, if_false]
    by_cases h1 : a.length < b.length
    · simp only [h1, if_true]
      by_cases h2 : (-1 : Int) > (a.length : Int) - b.length
      · simp [h2]
      · have : (a.length : Int) - b.length = -1 := by omega
        simp [this]
    · simp only [h1, if_false]
      have h2 : ¬ (-1 : Int) > (a.length : Int) - b.length := by omega
      simp only [h2, if_false]
      by_cases h3 : (1 : Int) < (a.length : Int) - b.length
      · simp [h3]
      · have : (a.length : Int) - b.length = 1 := by omega
        simp [this]
  · rw [if_pos (by omega)]; simp_all
  · rw [if_pos (by omega)]; simp_all
  · rw [if_pos (by omega)]; simp_all
theorem tensSplit_ret {T : Tab} (h : Fn T F.tens_split tens_split.fn) (a : Str) (ha : 0 < a.length) (hl : a.length ≤ 1073741824) : Ret T F.tens_split [.val (.str a)] (two (.bool (minus a)) (.str (if minus a then a.drop 1 else a))) := by
  have ed : List.drop (Int.toNat 1) (List.take a.length a) = a.drop 1 := by rw [List.take_length]; rfl
  by_cases hm : ((bAt a 0).toNat : Int) = 45
  · have hm' : ((bAt a (Int.toNat 0)).toNat : Int) = 45 := hm
    have hmm : minus a = true := by simp [minus, hm]
    rw [hmm]
    refine Ret.mk h rfl ?_
    repeat' (first | refine WO.cons ?_ | refine WB.cons ?_ | refine WP.one ?_ | ((first | apply W1.add64 | apply W1.sub64); (iterate 3 exact rfl); omega; omega) | (apply W1.iadr; (iterate 3 exact rfl); omega; first | assumption | ((first | apply V.get_row | apply get_srow | apply get_ty | apply get_ar | apply get_ob | apply get_sprow | apply get_brow); assumption)) | (apply W1.idxS; (iterate 3 exact rfl); omega; omega) | (apply W1.slcS; (iterate 4 exact rfl); omega) | (apply W1.pickT; exact rfl; exact rfl; (first | with_reducible rfl | assumption | (simp only [bn]; first | omega | assumption | decide)); exact rfl) | (apply W1.pickF; exact rfl; exact rfl; (first | with_reducible rfl | assumption | (simp only [bn]; first | omega | assumption | decide)); exact rfl) | (apply W1.op; (iterate 3 exact rfl)) | (apply W1.no; exact rfl) | ((first | apply W1.knowT | apply W1.knowFn | apply WQ.knowT | apply WQ.knowFn | apply W.condT); exact rfl; (first | with_reducible rfl | assumption | (simp only [bn]; first | omega | assumption | decide))) | ((first | apply W1.knowTn | apply W1.knowF | apply WQ.knowTn | apply WQ.knowF | apply W.condF); exact rfl; (first | with_reducible rfl | assumption | (simp only [bn]; first | omega | assumption | decide))) | (apply WQ.go; exact rfl; exact rfl) | (apply WQ.no; exact rfl) | ((first | apply W1.bothT | apply W1.bothF | apply WQ.bothT | apply WQ.bothF | apply W.cond); exact rfl; all_goals intro hc; all_goals first | (cases hc; done) | ((try simp only [hc]); (try simp only [bm] at hc))) | refine WO.nil ?_ | refine WB.nil ?_ | refine WP.bag rfl ?_ | refine WP.nil ?_ | refine W.seq ?_ | refine W.reg ?_ | refine W.dreg ?_ | refine W.block ?_ | refine W.ret ?_ | refine W.skip ?_ | refine W.exit ?_ | (simp only [srow_len, List.length_map, Qit, Int.toNat_natCast, entry, Opd.eat, cellsOf, TV.ofCells, allAv, Qseq, Qblk, List.map_cons, List.map_nil, putD, kp, Nat.reduceEqDiff, ↓reduceIte, beq_self_eq_true, Nat.reduceBEq]))
    refine Qend.two rfl rfl rfl ?_
    rw [ed]
  · have hm' : ¬ ((bAt a (Int.toNat 0)).toNat : Int) = 45 := hm
    have hmm : minus a = false := by simp [minus, hm]
    rw [hmm]
    refine Ret.mk h rfl ?_
    repeat' (first | refine WO.cons ?_ | refine WB.cons ?_ | refine WP.one ?_ | ((first | apply W1.add64 | apply W1.sub64); (iterate 3 exact rfl); omega; omega) | (apply W1.iadr; (iterate 3 exact rfl); omega; first | assumption | ((first | apply V.get_row | apply get_srow | apply get_ty | apply get_ar | apply get_ob | apply get_sprow | apply get_brow); assumption)) | (apply W1.idxS; (iterate 3 exact rfl); omega; omega) | (apply W1.slcS; (iterate 4 exact rfl); omega) | (apply W1.pickT; exact rfl; exact rfl; (first | with_reducible rfl | assumption | (simp only [bn]; first | omega | assumption | decide)); exact rfl) | (apply W1.pickF; exact rfl; exact rfl; (first | with_reducible rfl | assumption | (simp only [bn]; first | omega | assumption | decide)); exact rfl) | (apply W1.op; (iterate 3 exact rfl)) | (apply W1.no; exact rfl) | ((first | apply W1.knowT | apply W1.knowFn | apply WQ.knowT | apply WQ.knowFn | apply W.condT); exact rfl; (first | with_reducible rfl | assumption | (simp only [bn]; first | omega | assumption | decide))) | ((first | apply W1.knowTn | apply W1.knowF | apply WQ.knowTn | apply WQ.knowF | apply W.condF); exact rfl; (first | with_reducible rfl | assumption | (simp only [bn]; first | omega | assumption | decide))) | (apply WQ.go; exact rfl; exact rfl) | (apply WQ.no; exact rfl) | ((first | apply W1.bothT | apply W1.bothF | apply WQ.bothT | apply WQ.bothF | apply W.cond); exact rfl; all_goals intro hc; all_goals first | (cases hc; done) | ((try simp only [hc]); (try simp only [bm] at hc))) | refine WO.nil ?_ | refine WB.nil ?_ | refine WP.bag rfl ?_ | refine WP.nil ?_ | refine W.seq ?_ | refine W.reg ?_ | refine W.dreg ?_ | refine W.block ?_ | refine W.ret ?_ | refine W.skip ?_ | refine W.exit ?_ | (simp only [srow_len, List.length_map, Qit, Int.toNat_natCast, entry, Opd.eat, cellsOf, TV.ofCells, allAv, Qseq, Qblk, List.map_cons, List.map_nil, putD, kp, Nat.reduceEqDiff, ↓reduceIte, beq_self_eq_true, Nat.reduceBEq]))
    exact Qend.two rfl rfl rfl rfl
theorem tensCmp_ret {T : Tab} (h : Fn T F.tens_Cmp tens_Cmp.fn) (h1 : Fn T F.tens_size tens_size.fn) (h2 : Fn T F.tens_split tens_split.fn) (h3 : Fn T F.tens_Formed tens_Formed.fn) (a b : Str) (ha : number a = true) (hb : number b = true) (hl : a.length ≤ 1073741824) (hl' : b.length ≤ 1073741824) :
    Ret T F.tens_Cmp [.val (.str a), .val (.str b)] (two (.int .i64 (zcmp a b)) (.int .i64 0)) := by
  have f1 := tensFormed_ret h3 a hl
  have f2 := tensFormed_ret h3 b hl'
  rw [ha] at f1
  rw [hb] at f2
  have s1 := tensSplit_ret h2 a (number_len ha) hl
  have s2 := tensSplit_ret h2 b (number_len hb) hl'
  have z1 := tensSize_ret h1 a b hl hl'
  have z2 := tensSize_ret h1 (b.drop 1) (a.drop 1) (by simp; omega) (by simp; omega)
  refine Ret.mk h rfl ?_
  cases ma : minus a <;> cases mb : minus b <;> simp only [ma, mb, Bool.false_eq_true, if_false, if_true] at s1 s2
  repeat' (first | refine WO.cons ?_ | refine WB.cons ?_ | refine WP.one ?_ | (first | (apply WQ.call (hm := h3.modes); (iterate 4 exact rfl)) | (apply W1.callV (hm := h3.modes); (iterate 5 exact rfl); exact (f1); exact rfl)) | (first | (apply WQ.call (hm := h3.modes); (iterate 4 exact rfl)) | (apply W1.callV (hm := h3.modes); (iterate 5 exact rfl); exact (f2); exact rfl)) | (first | (apply WQ.call (hm := h2.modes); (iterate 4 exact rfl)) | (apply W1.callV (hm := h2.modes); (iterate 5 exact rfl); exact (s1); exact rfl)) | (first | (apply WQ.call (hm := h2.modes); (iterate 4 exact rfl)) | (apply W1.callV (hm := h2.modes); (iterate 5 exact rfl); exact (s2); exact rfl)) | (first | (apply WQ.call (hm := h1.modes); (iterate 4 exact rfl)) | (apply W1.callV (hm := h1.modes); (iterate 5 exact rfl); exact (z1); exact rfl)) | (first | (apply WQ.call (hm := h1.modes); (iterate 4 exact rfl)) | (apply W1.callV (hm := h1.modes); (iterate 5 exact rfl); exact (z2); exact rfl)) | ((first | apply W1.add64 | apply W1.sub64); (iterate 3 exact rfl); omega; omega) | (apply W1.iadr; (iterate 3 exact rfl); omega; first | assumption | ((first | apply V.get_row | apply get_srow | apply get_ty | apply get_ar | apply get_ob | apply get_sprow | apply get_brow); assumption)) | (apply W1.idxS; (iterate 3 exact rfl); omega; omega) | (apply W1.slcS; (iterate 4 exact rfl); omega) | (apply W1.pickT; exact rfl; exact rfl; (first | with_reducible rfl | assumption | (simp only [bn]; first | omega | assumption | decide)); exact rfl) | (apply W1.pickF; exact rfl; exact rfl; (first | with_reducible rfl | assumption | (simp only [bn]; first | omega | assumption | decide)); exact rfl) | (apply W1.op; (iterate 3 exact rfl)) | (apply W1.no; exact rfl) | ((first | apply W1.knowT | apply W1.knowFn | apply WQ.knowT | apply WQ.knowFn | apply W.condT); exact rfl; (first | with_reducible rfl | assumption | (simp only [bn]; first | omega | assumption | decide))) | ((first | apply W1.knowTn | apply W1.knowF | apply WQ.knowTn | apply WQ.knowF | apply W.condF); exact rfl; (first | with_reducible rfl | assumption | (simp only [bn]; first | omega | assumption | decide))) | (apply WQ.go; exact rfl; exact rfl) | (apply WQ.no; exact rfl) | ((first | apply W1.bothT | apply W1.bothF | apply WQ.bothT | apply WQ.bothF | apply W.cond); exact rfl; all_goals intro hc; all_goals first | (cases hc; done) | ((try simp only [hc]); (try simp only [bm] at hc))) | refine WO.nil ?_ | refine WB.nil ?_ | refine WP.bag rfl ?_ | refine WP.nil ?_ | refine W.seq ?_ | refine W.reg ?_ | refine W.dreg ?_ | refine W.block ?_ | refine W.ret ?_ | refine W.skip ?_ | refine W.exit ?_ | (simp only [srow_len, List.length_map, Qit, Int.toNat_natCast, entry, Opd.eat, cellsOf, TV.ofCells, allAv, Qseq, Qblk, List.map_cons, List.map_nil, putD, kp, Nat.reduceEqDiff, ↓reduceIte, beq_self_eq_true, Nat.reduceBEq]))
  all_goals refine Qend.two rfl rfl ?_ rfl
  all_goals first | (simp [zcmp, ma, mb]; done) | (simp [zcmp, ma, mb]; rfl)
end Hm

/- Texts eight bytes at once. Conditions: see each theorem. -/
namespace Hm
open Go (IntKind)
set_option maxHeartbeats 4000000
set_option maxRecDepth 4000
def H64 : BitVec 64 := BitVec.ofInt 64 9259542123273814144
theorem wrapU {n : Int} (h1 : 0 ≤ n) (h2 : n < 18446744073709551616) : IntKind.wrap .u64 n = n := by
  have e : n % (2 ^ 64 : Int) = n := Int.emod_eq_of_lt h1 (by omega)
  simp only [IntKind.wrap, IntKind.bits, IntKind.signed, Bool.false_and, Bool.false_eq_true, if_false]
  exact e
theorem ofInt_nat (x : BitVec 64) : BitVec.ofInt 64 (IntKind.wrap .u64 (x.toNat : Int)) = x := by
  rw [wrapU (by omega) (by have := x.isLt; omega)]
  simp
def P8 (s : Str) (r : Int) : Prop := BitVec.ofInt 64 r &&& H64 = 0#64 → ∀ i, i < 8 → (bAt s i).toNat < 128
theorem or_hi {x y h : BitVec 64} (e : (x ||| y) &&& h = 0#64) : x &&& h = 0#64 ∧ y &&& h = 0#64 := by
  have key : ∀ i, i < 64 → ((x ||| y) &&& h).getLsbD i = false := fun i _ => by rw [e]; simp
  constructor
  · apply BitVec.eq_of_getLsbD_eq
    intro i hi
    have := key i hi
    simp only [BitVec.getLsbD_and, BitVec.getLsbD_or, BitVec.getLsbD_zero] at this ⊢
    cases h1 : x.getLsbD i <;> cases h2 : y.getLsbD i <;> cases h3 : h.getLsbD i <;> simp_all
  · apply BitVec.eq_of_getLsbD_eq
    intro i hi
    have := key i hi
    simp only [BitVec.getLsbD_and, BitVec.getLsbD_or, BitVec.getLsbD_zero] at this ⊢
    cases h1 : x.getLsbD i <;> cases h2 : y.getLsbD i <;> cases h3 : h.getLsbD i <;> simp_all
theorem byte_tab : ∀ k, k < 8 → ∀ n, n < 256 → (BitVec.ofNat 64 (n * 2 ^ (8 * k)) &&& H64 = 0#64) → n < 128 := by decide +kernel
theorem byte_of {c : UInt8} (k : Nat) (hk : k < 8) (h : BitVec.ofInt 64 (IntKind.wrap .u64 (IntKind.wrap .u64 (c.toNat : Int) * 2 ^ (8 * k))) &&& H64 = 0#64) : c.toNat < 128 := by
  have hc : c.toNat < 256 := c.toNat_lt
  have hp : 2 ^ (8 * k) ≤ 2 ^ 56 := Nat.pow_le_pow_right (by omega) (by omega)
  have hm : c.toNat * 2 ^ (8 * k) < 18446744073709551616 := Nat.lt_of_lt_of_le (Nat.mul_lt_mul_of_lt_of_le hc hp (by omega)) (by decide)
  have e1 : IntKind.wrap .u64 (c.toNat : Int) = c.toNat := wrapU (by omega) (by omega)
  have e2 : ((c.toNat : Int) * 2 ^ (8 * k)) = ((c.toNat * 2 ^ (8 * k) : Nat) : Int) := by push_cast; rfl
  rw [e1, e2, wrapU (by omega) (by omega), BitVec.ofInt_natCast] at h
  exact byte_tab k hk c.toNat hc h
def orW (a b : Int) : Int := IntKind.wrap .u64 ((BitVec.ofInt 64 a ||| BitVec.ofInt 64 b).toNat : Int)
def shW (s : Str) (i : Nat) : Int := IntKind.wrap .u64 (IntKind.wrap .u64 ((bAt s i).toNat : Int) * 2 ^ (8 * i))
def wordW (s : Str) : Int := orW (orW (orW (orW (orW (orW (orW (IntKind.wrap .u64 ((bAt s 0).toNat : Int)) (shW s 1)) (shW s 2)) (shW s 3)) (shW s 4)) (shW s 5)) (shW s 6)) (shW s 7)
theorem ofInt_orW (a b : Int) : BitVec.ofInt 64 (orW a b) = BitVec.ofInt 64 a ||| BitVec.ofInt 64 b := ofInt_nat _
theorem P8_word (s : Str) : P8 s (wordW s) := by
  intro h0
  simp only [wordW, ofInt_orW] at h0
  obtain ⟨h0, h7⟩ := or_hi h0
  obtain ⟨h0, h6⟩ := or_hi h0
  obtain ⟨h0, h5⟩ := or_hi h0
  obtain ⟨h0, h4⟩ := or_hi h0
  obtain ⟨h0, h3⟩ := or_hi h0
  obtain ⟨h0, h2⟩ := or_hi h0
  obtain ⟨h0, h1⟩ := or_hi h0
  have hb : (bAt s 0).toNat < 256 := (bAt s 0).toNat_lt
  have q0 : (bAt s 0).toNat < 128 := by
    refine byte_of 0 (by decide) ?_
    rw [show (2 : Int) ^ (8 * 0) = 1 from rfl, Int.mul_one, wrapU (n := IntKind.wrap .u64 ((bAt s 0).toNat : Int)) (by rw [wrapU (by omega) (by omega)]; omega) (by rw [wrapU (by omega) (by omega)]; omega)]
    exact h0
  intro i hi
  have hcase : i = 0 ∨ i = 1 ∨ i = 2 ∨ i = 3 ∨ i = 4 ∨ i = 5 ∨ i = 6 ∨ i = 7 := by omega
  rcases hcase with rfl | rfl | rfl | rfl | rfl | rfl | rfl | rfl
  · exact q0
  · exact byte_of 1 (by decide) h1
  · exact byte_of 2 (by decide) h2
  · exact byte_of 3 (by decide) h3
  · exact byte_of 4 (by decide) h4
  · exact byte_of 5 (by decide) h5
  · exact byte_of 6 (by decide) h6
  · exact byte_of 7 (by decide) h7
theorem word_ret {T : Tab} (h : Fn T F.unicode_utf8_word_string unicode_utf8_word_string.fn) (s : Str) (hl : 8 ≤ s.length) : Ret T F.unicode_utf8_word_string [.val (.str s)] (one (.int .u64 (wordW s))) := by
  refine Ret.mk h rfl ?_
  repeat' (first | refine WO.cons ?_ | refine WB.cons ?_ | refine WP.one ?_ | ((first | apply W1.add64 | apply W1.sub64); (iterate 3 exact rfl); omega; omega) | (apply W1.iadr; (iterate 3 exact rfl); omega; first | assumption | ((first | apply V.get_row | apply get_srow | apply get_ty | apply get_ar | apply get_ob | apply get_sprow | apply get_brow); assumption)) | (apply W1.idxS; (iterate 3 exact rfl); omega; omega) | (apply W1.slcS; (iterate 4 exact rfl); omega) | (apply W1.pickT; exact rfl; exact rfl; (first | with_reducible rfl | assumption | (simp only [bn]; first | omega | assumption | decide)); exact rfl) | (apply W1.pickF; exact rfl; exact rfl; (first | with_reducible rfl | assumption | (simp only [bn]; first | omega | assumption | decide)); exact rfl) | (apply W1.op; (iterate 3 exact rfl)) | (apply W1.no; exact rfl) | ((first | apply W1.knowT | apply W1.knowFn | apply WQ.knowT | apply WQ.knowFn | apply W.condT); exact rfl; (first | with_reducible rfl | assumption | (simp only [bn]; first | omega | assumption | decide))) | ((first | apply W1.knowTn | apply W1.knowF | apply WQ.knowTn | apply WQ.knowF | apply W.condF); exact rfl; (first | with_reducible rfl | assumption | (simp only [bn]; first | omega | assumption | decide))) | (apply WQ.go; exact rfl; exact rfl) | (apply WQ.no; exact rfl) | ((first | apply W1.bothT | apply W1.bothF | apply WQ.bothT | apply WQ.bothF | apply W.cond); exact rfl; all_goals intro hc; all_goals first | (cases hc; done) | ((try simp only [hc]); (try simp only [bm] at hc))) | refine WO.nil ?_ | refine WB.nil ?_ | refine WP.bag rfl ?_ | refine WP.nil ?_ | refine W.seq ?_ | refine W.reg ?_ | refine W.dreg ?_ | refine W.block ?_ | refine W.ret ?_ | refine W.skip ?_ | refine W.exit ?_ | (simp only [srow_len, List.length_map, Qit, Int.toNat_natCast, entry, Opd.eat, cellsOf, TV.ofCells, allAv, Qseq, Qblk, List.map_cons, List.map_nil, putD, kp, Nat.reduceEqDiff, ↓reduceIte, beq_self_eq_true, Nat.reduceBEq]))
  exact ⟨.inr rfl, rfl, rfl⟩
theorem utfF_more : ∀ (f : Nat) (s : Str), s.length ≤ f → utfF (f + 1) s = utfF f s
  | 0, s, h => by
    have : s = [] := List.eq_nil_of_length_eq_zero (by omega)
    subst this; rfl
  | f + 1, s, h => by
    show (s.isEmpty || (!(wd s == 0) && utfF (f + 1) (s.drop (wd s)))) = (s.isEmpty || (!(wd s == 0) && utfF f (s.drop (wd s))))
    by_cases hw : wd s = 0
    · simp [hw]
    · rw [utfF_more f (s.drop (wd s)) (by simp; omega)]
theorem utf_of : ∀ (f : Nat) (s : Str), s.length ≤ f → utfF f s = utf s := by
  intro f
  induction f with
  | zero =>
    intro s h
    have : s = [] := List.eq_nil_of_length_eq_zero (by omega)
    subst this; rfl
  | succ f ih =>
    intro s h
    by_cases he : s.length = f + 1
    · rw [utf, he]
    · rw [utfF_more f s (by omega), ih s (by omega)]
theorem utf_nil : utf [] = true := rfl
theorem utf_cons {s : Str} (h : s ≠ []) : utf s = (!(wd s == 0) && utf (s.drop (wd s))) := by
  cases s with
  | nil => exact absurd rfl h
  | cons c r =>
    rw [utf, List.length_cons, utfF]
    simp only [List.isEmpty_cons, Bool.false_or]
    by_cases hw : wd (c :: r) = 0
    · simp [hw]
    · rw [utf_of _ _ (by simp; omega)]
theorem utf_one {s : Str} (h : 0 < s.length) (hc : (bAt s 0).toNat < 128) : utf (s.drop 1) = utf s := by
  cases s with
  | nil => simp at h
  | cons c r =>
    have hw : wd (c :: r) = 1 := by
      simp only [bAt, List.getD_cons_zero] at hc
      simp only [wd]
      rw [if_pos (by omega)]
    have e := utf_cons (s := c :: r) (by simp)
    rw [hw] at e
    rw [e]; simp
theorem utf_asc : ∀ (k : Nat) (s : Str), k ≤ s.length → (∀ i, i < k → (bAt s i).toNat < 128) → utf (s.drop k) = utf s
  | 0, s, _, _ => by simp
  | k + 1, s, hk, h => by
    rw [← utf_one (s := s) (by omega) (h 0 (by omega)), ← utf_asc k (s.drop 1) (by simp; omega) (fun i hi => by rw [bAt_drop]; exact h (1 + i) (by omega)), List.drop_drop, Nat.add_comm]
end Hm

/- What begins an encoding. Conditions: see each theorem. -/
namespace Hm
open Go (IntKind)
set_option maxHeartbeats 4000000
set_option maxRecDepth 4000
theorem W1.slcD {T : Tab} {st : St} {K : St → Prop} {dst : Option Nat} {g : Option (Nat × Bool)} {k : Nat} {x : Opd} {lo : Option Opd} {s : Str} {l : Nat} (hg : wanted st g = some true) (hx : st.opd x = .av (.str s)) (hl : st.bnd 0 lo = some l) (hc : l ≤ s.length)
    (hk : K (putD dst (.av (.str (s.drop l))) st)) : W1 T ⟨dst, .slc true k x lo none, g⟩ st K :=
  W1.slcS hg hx hl rfl ⟨hc, Nat.le_refl _⟩ (by rw [List.take_length]; exact hk)
theorem W1.slcN (n : Nat) {T : Tab} {st : St} {K : St → Prop} {dst : Option Nat} {g : Option (Nat × Bool)} {k : Nat} {x : Opd} {s : Str} (hg : wanted st g = some true) (hx : st.opd x = .av (.str s)) (hc : n ≤ s.length)
    (hk : K (putD dst (.av (.str (s.drop n))) st)) : W1 T ⟨dst, .slc true k x (some (.v (.int .i64 (n : Int)))) none, g⟩ st K := by
  refine W1.slcD hg hx (l := n) ?_ hc hk
  show idx (.int .i64 (n : Int)) = some n
  simp only [idx, if_pos (Int.natCast_nonneg n), Int.toNat_natCast]
theorem W1.tabA {T : Tab} {st : St} {K : St → Prop} {dst : Option Nat} {g : Option (Nat × Bool)} {n k : Nat} {x i : Opd} {ik : IntKind} {c : Int} {cs r : List AV} (hg : wanted st g = some true) (hi : st.opd i = .av (.int ik c)) (hx : st.opd x = .av (.vptr cs))
    (hr : cs.drop (c.toNat * k) = r) (h0 : 0 ≤ c) (hn : c.toNat < n) (hl : c.toNat * k ≤ cs.length) (hk : K (putD dst (.av (.vptr r)) st)) : W1 T ⟨dst, .iadrA n k x i, g⟩ st K := by
  refine W1.go hg (WS.op (v := .av (.vptr r)) (st' := st) rfl ?_ hk)
  simp only [stepOp, hi, idx, if_pos h0, if_neg (Nat.not_le.2 hn), hx, if_pos hl, hr]
theorem W1.load1 {T : Tab} {st : St} {K : St → Prop} {dst : Option Nat} {g : Option (Nat × Bool)} {a : Opd} {v : AV} {rest : List AV} (hg : wanted st g = some true) (hx : st.opd a = .av (.vptr (v :: rest))) (hk : K (putD dst (.av v) st)) : W1 T ⟨dst, .load 1 false a, g⟩ st K := by
  refine W1.go hg (WS.op (v := .av v) (st' := st) rfl ?_ hk)
  simp only [stepOp, hx, List.length_cons, if_pos (show 1 ≤ rest.length + 1 by omega)]
  rfl
def firB (n : Nat) : Bool := decide (n < 128) || ((firZ[n]? == some 2 && decide (194 ≤ n) && decide (n ≤ 223)) || ((firZ[n]? == some 19 && n == 224) || ((firZ[n]? == some 3 && decide (225 ≤ n) && decide (n ≤ 239) && n != 237) || ((firZ[n]? == some 35 && n == 237) ||
  ((firZ[n]? == some 52 && n == 240) || ((firZ[n]? == some 4 && decide (241 ≤ n) && decide (n ≤ 243)) || ((firZ[n]? == some 68 && n == 244) || (firZ[n]? == some 241 && (decide (n < 194) || decide (244 < n))))))))))
theorem firB_all : ((List.range 256).all firB) = true := by decide +kernel
theorem fir_cases (n : Nat) (hn : n < 256) (h1 : 128 ≤ n) : (firZ[n]? = some 2 ∧ 194 ≤ n ∧ n ≤ 223) ∨ (firZ[n]? = some 19 ∧ n = 224) ∨ (firZ[n]? = some 3 ∧ 225 ≤ n ∧ n ≤ 239 ∧ n ≠ 237) ∨ (firZ[n]? = some 35 ∧ n = 237) ∨
    (firZ[n]? = some 52 ∧ n = 240) ∨ (firZ[n]? = some 4 ∧ 241 ≤ n ∧ n ≤ 243) ∨ (firZ[n]? = some 68 ∧ n = 244) ∨ (firZ[n]? = some 241 ∧ (n < 194 ∨ 244 < n)) := by
  have h := List.all_eq_true.1 firB_all n (List.mem_range.2 hn)
  simp only [firB, Bool.or_eq_true, Bool.and_eq_true, decide_eq_true_eq, beq_iff_eq, bne_iff_ne, ne_eq, and_assoc] at h
  rcases h with h | h
  · omega
  · exact h
theorem fir_drop {n : Nat} {x : Int} (h : firZ[n]? = some x) : ∃ rest, (zavs firZ).drop n = .int .u8 x :: rest := by
  have hz : (zavs firZ)[n]? = some (.int .u8 x) := by simp [zavs, h]
  obtain ⟨h1, h2⟩ := List.getElem?_eq_some_iff.1 hz
  exact ⟨_, by rw [List.drop_eq_getElem_cons h1, h2]⟩
theorem fir_len : (zavs firZ).length = 256 := by decide +kernel
theorem bAt_succ (c : UInt8) (r : Str) (i : Nat) : bAt (c :: r) (i + 1) = bAt r i := by simp [bAt, List.getD]
theorem tr1 (r : Str) (lo hi : Int) (h1 : 128 ≤ lo) (h2 : hi ≤ 191) : (tr r 1 lo hi = true) ↔ (1 ≤ r.length ∧ lo ≤ (bAt r 0).toNat ∧ ((bAt r 0).toNat : Int) ≤ hi) := by
  cases r with
  | nil => simp [tr]
  | cons d r =>
    have e : bAt (d :: r) 0 = d := rfl
    simp only [tr, cont, e, List.length_cons, List.take_succ_cons, List.take_zero, List.all_cons, List.all_nil, Bool.and_true, Bool.and_eq_true, decide_eq_true_eq, ge_iff_le]
    omega
theorem tr2 (r : Str) (lo hi : Int) (h1 : 128 ≤ lo) (h2 : hi ≤ 191) : (tr r 2 lo hi = true) ↔ (2 ≤ r.length ∧ (lo ≤ (bAt r 0).toNat ∧ ((bAt r 0).toNat : Int) ≤ hi) ∧ (128 ≤ (bAt r 1).toNat ∧ (bAt r 1).toNat ≤ 191)) := by
  match r with
  | [] => simp [tr]
  | [d] => simp [tr]
  | d :: e :: r =>
    have e0 : bAt (d :: e :: r) 0 = d := rfl
    have e1 : bAt (d :: e :: r) 1 = e := rfl
    simp only [tr, cont, e0, e1, List.length_cons, List.take_succ_cons, List.take_zero, List.all_cons, List.all_nil, Bool.and_true, Bool.and_eq_true, decide_eq_true_eq, ge_iff_le]
    omega
theorem tr3 (r : Str) (lo hi : Int) (h1 : 128 ≤ lo) (h2 : hi ≤ 191) : (tr r 3 lo hi = true) ↔ (3 ≤ r.length ∧ (lo ≤ (bAt r 0).toNat ∧ ((bAt r 0).toNat : Int) ≤ hi) ∧ (128 ≤ (bAt r 1).toNat ∧ (bAt r 1).toNat ≤ 191) ∧ (128 ≤ (bAt r 2).toNat ∧ (bAt r 2).toNat ≤ 191)) := by
  match r with
  | [] => simp [tr]
  | [d] => simp [tr]
  | [d, e] => simp [tr]
  | d :: e :: f :: r =>
    have e0 : bAt (d :: e :: f :: r) 0 = d := rfl
    have e1 : bAt (d :: e :: f :: r) 1 = e := rfl
    have e2 : bAt (d :: e :: f :: r) 2 = f := rfl
    simp only [tr, cont, e0, e1, e2, List.length_cons, List.take_succ_cons, List.take_zero, List.all_cons, List.all_nil, Bool.and_true, Bool.and_eq_true, decide_eq_true_eq, ge_iff_le]
    omega
/-- The length of what begins with c, if at most the bytes behind it are as they must be. -/
theorem wd_two {t : Str} (h1 : 194 ≤ (bAt t 0).toNat) (h2 : (bAt t 0).toNat ≤ 223) : wd t = if 2 ≤ t.length ∧ 128 ≤ (bAt t 1).toNat ∧ (bAt t 1).toNat ≤ 191 then 2 else 0 := by
  cases t with
  | nil => simp [bAt] at h1
  | cons c r =>
    have e0 : bAt (c :: r) 0 = c := rfl
    rw [e0] at h1 h2
    rw [bAt_succ]
    simp only [wd, tr1 r 128 191 (by omega) (by omega), List.length_cons]
    rw [if_neg (by omega)]
    by_cases h : 1 ≤ r.length ∧ 128 ≤ (bAt r 0).toNat ∧ (bAt r 0).toNat ≤ 191
    · rw [if_pos (by omega), if_pos (by omega)]
    · rw [if_neg (by omega), if_neg (by omega), if_neg (by omega), if_neg (by omega)]
theorem wd_three {t : Str} (lo hi : Nat) (h1 : 224 ≤ (bAt t 0).toNat) (h2 : (bAt t 0).toNat ≤ 239) (hlo : lo = if (bAt t 0).toNat = 224 then 160 else 128) (hhi : hi = if (bAt t 0).toNat = 237 then 159 else 191) :
    wd t = if 3 ≤ t.length ∧ (lo ≤ (bAt t 1).toNat ∧ (bAt t 1).toNat ≤ hi) ∧ 128 ≤ (bAt t 2).toNat ∧ (bAt t 2).toNat ≤ 191 then 3 else 0 := by
  cases t with
  | nil => simp [bAt] at h1
  | cons c r =>
    have e0 : bAt (c :: r) 0 = c := rfl
    rw [e0] at h1 h2 hlo hhi
    rw [bAt_succ, bAt_succ]
    have el : (if (c.toNat : Int) = 224 then (160 : Int) else 128) = (lo : Int) := by rw [hlo]; split <;> split <;> omega
    have eh : (if (c.toNat : Int) = 237 then (159 : Int) else 191) = (hi : Int) := by rw [hhi]; split <;> split <;> omega
    have l1 : 128 ≤ lo := by rw [hlo]; split <;> omega
    have l2 : hi ≤ 191 := by rw [hhi]; split <;> omega
    simp only [wd, el, eh, tr2 r lo hi (by omega) (by omega), List.length_cons]
    rw [if_neg (by omega), if_neg (by omega)]
    by_cases h : 2 ≤ r.length ∧ (lo ≤ (bAt r 0).toNat ∧ (bAt r 0).toNat ≤ hi) ∧ 128 ≤ (bAt r 1).toNat ∧ (bAt r 1).toNat ≤ 191
    · rw [if_pos (by omega), if_pos (by omega)]
    · rw [if_neg (by omega), if_neg (by omega), if_neg (by omega)]
theorem wd_four {t : Str} (lo hi : Nat) (h1 : 240 ≤ (bAt t 0).toNat) (h2 : (bAt t 0).toNat ≤ 244) (hlo : lo = if (bAt t 0).toNat = 240 then 144 else 128) (hhi : hi = if (bAt t 0).toNat = 244 then 143 else 191) :
    wd t = if 4 ≤ t.length ∧ (lo ≤ (bAt t 1).toNat ∧ (bAt t 1).toNat ≤ hi) ∧ (128 ≤ (bAt t 2).toNat ∧ (bAt t 2).toNat ≤ 191) ∧ 128 ≤ (bAt t 3).toNat ∧ (bAt t 3).toNat ≤ 191 then 4 else 0 := by
  cases t with
  | nil => simp [bAt] at h1
  | cons c r =>
    have e0 : bAt (c :: r) 0 = c := rfl
    rw [e0] at h1 h2 hlo hhi
    rw [bAt_succ, bAt_succ, bAt_succ]
    have el : (if (c.toNat : Int) = 240 then (144 : Int) else 128) = (lo : Int) := by rw [hlo]; split <;> split <;> omega
    have eh : (if (c.toNat : Int) = 244 then (143 : Int) else 191) = (hi : Int) := by rw [hhi]; split <;> split <;> omega
    have l1 : 128 ≤ lo := by rw [hlo]; split <;> omega
    have l2 : hi ≤ 191 := by rw [hhi]; split <;> omega
    simp only [wd, el, eh, tr3 r lo hi (by omega) (by omega), List.length_cons]
    rw [if_neg (by omega), if_neg (by omega), if_neg (by omega)]
    by_cases h : 3 ≤ r.length ∧ (lo ≤ (bAt r 0).toNat ∧ (bAt r 0).toNat ≤ hi) ∧ (128 ≤ (bAt r 1).toNat ∧ (bAt r 1).toNat ≤ 191) ∧ 128 ≤ (bAt r 2).toNat ∧ (bAt r 2).toNat ≤ 191
    · rw [if_pos (by omega), if_pos (by omega)]
    · rw [if_neg (by omega), if_neg (by omega)]
theorem wd_none {t : Str} (h1 : 128 ≤ (bAt t 0).toNat) (h2 : (bAt t 0).toNat < 194 ∨ 244 < (bAt t 0).toNat) : wd t = 0 := by
  cases t with
  | nil => rfl
  | cons c r =>
    have e0 : bAt (c :: r) 0 = c := rfl
    rw [e0] at h1 h2
    simp only [wd]
    rw [if_neg (by omega), if_neg (by omega), if_neg (by omega), if_neg (by omega)]
end Hm

/- Which texts are UTF-8, as Go's library has it. Conditions: see each theorem. -/
namespace Hm
open Go (IntKind)
set_option maxHeartbeats 4000000
set_option maxRecDepth 4000
theorem and_zero {w : Int} (h : IntKind.wrap .u64 ((BitVec.ofInt 64 w &&& BitVec.ofInt 64 9259542123273814144).toNat : Int) = 0) : BitVec.ofInt 64 w &&& H64 = 0#64 := by
  rw [wrapU (by omega) (by have := (BitVec.ofInt 64 w &&& BitVec.ofInt 64 9259542123273814144).isLt; omega)] at h
  apply BitVec.eq_of_toNat_eq
  show (BitVec.ofInt 64 w &&& BitVec.ofInt 64 9259542123273814144).toNat = 0
  omega
abbrev hiZ (w : Int) : Prop := IntKind.wrap .u64 ((BitVec.ofInt 64 w &&& BitVec.ofInt 64 9259542123273814144).toNat : Int) = 0
theorem hi1 {t : Str} (h : hiZ (wordW t)) (hl : 8 ≤ t.length) : utf (t.drop 8) = utf t := utf_asc 8 t hl (P8_word t (and_zero h))
theorem hi2' {t : Str} (h : BitVec.ofInt 64 (orW (wordW t) (wordW (t.drop 8))) &&& H64 = 0#64) (hl : 16 ≤ t.length) : utf (t.drop 16) = utf t := by
  rw [ofInt_orW] at h
  obtain ⟨a, b⟩ := or_hi h
  have e1 := utf_asc 8 t (by omega) (P8_word t a)
  have e2 := utf_asc 8 (t.drop 8) (by simp; omega) (P8_word _ b)
  rw [List.drop_drop] at e2
  rw [show (16 : Nat) = 8 + 8 from rfl, e2, e1]
theorem hi2 {t : Str} (h : hiZ (orW (wordW t) (wordW (t.drop 8)))) (hl : 16 ≤ t.length) : utf (t.drop 16) = utf t := hi2' (and_zero h) hl
theorem hi4 {t : Str} (h : hiZ (orW (orW (wordW t) (wordW (t.drop 8))) (orW (wordW (t.drop 16)) (wordW (t.drop 24))))) (hl : 32 ≤ t.length) : utf (t.drop 32) = utf t := by
  have h := and_zero h
  rw [ofInt_orW] at h
  obtain ⟨a, b⟩ := or_hi h
  have e1 := hi2' a (by omega)
  have e2 := hi2' (t := t.drop 16) (by rw [List.drop_drop]; exact b) (by simp; omega)
  rw [List.drop_drop] at e2
  rw [show (32 : Nat) = 16 + 16 from rfl, e2, e1]
/-- What the loop of ValidString owes at a text. -/
def VStep (T : Tab) (s t : Str) : Prop := W T unicode_utf8_ValidString.l1 (St.keep [0] (St.put ⟨lstE [(0, .av (.str s))], lstB [(0, none)]⟩ 0 (.av (.str t))))
  (Qit [0] (fun st' => ∃ b' : Str, (utf b' = utf s ∧ b'.length ≤ 1073741824) ∧ b'.length < t.length ∧ st' = St.keep [0] (St.put ⟨lstE [(0, .av (.str s))], lstB [(0, none)]⟩ 0 (.av (.str b'))))
    (Qblk 0 (Qseq T (.seq (.reg unicode_utf8_ValidString.r28 [2]) .ret) (Qend unicode_utf8_ValidString.fn [.val (.str s)] (one (.bool (utf s)))))))
end Hm

/- Which texts are UTF-8: the class of ASCII. Conditions: see each theorem. -/
namespace Hm
open Go (IntKind)
set_option maxHeartbeats 40000000
set_option maxRecDepth 4000
theorem vs_nil {T : Tab} {s t : Str} (hp1 : utf t = utf s) (hp2 : t.length ≤ 1073741824) (hne : t = []) : VStep T s t := by
  unfold VStep
  subst hne
  have hz : ([] : Str).length = 0 := rfl
  repeat' (first | refine WO.cons ?_ | refine WB.cons ?_ | refine WP.one ?_ | ((first | apply W1.add64 | apply W1.sub64); (iterate 3 exact rfl); omega; omega) | (apply W1.iadr; (iterate 3 exact rfl); omega; first | assumption | ((first | apply V.get_row | apply get_srow | apply get_ty | apply get_ar | apply get_ob | apply get_sprow | apply get_brow); assumption)) | (apply W1.idxS; (iterate 3 exact rfl); omega; omega) | (apply W1.slcS; (iterate 4 exact rfl); omega) | (apply W1.pickT; exact rfl; exact rfl; (first | with_reducible rfl | assumption | (simp only [bn]; first | omega | assumption | decide)); exact rfl) | (apply W1.pickF; exact rfl; exact rfl; (first | with_reducible rfl | assumption | (simp only [bn]; first | omega | assumption | decide)); exact rfl) | (apply W1.op; (iterate 3 exact rfl)) | (apply W1.no; exact rfl) | ((first | apply W1.knowT | apply W1.knowFn | apply WQ.knowT | apply WQ.knowFn | apply W.condT); exact rfl; (first | with_reducible rfl | assumption | (simp only [bn]; first | omega | assumption | decide))) | ((first | apply W1.knowTn | apply W1.knowF | apply WQ.knowTn | apply WQ.knowF | apply W.condF); exact rfl; (first | with_reducible rfl | assumption | (simp only [bn]; first | omega | assumption | decide))) | (apply WQ.go; exact rfl; exact rfl) | (apply WQ.no; exact rfl) | ((first | apply W1.bothT | apply W1.bothF | apply WQ.bothT | apply WQ.bothF | apply W.cond); exact rfl; all_goals intro hc; all_goals first | (cases hc; done) | ((try simp only [hc]); (try simp only [bm] at hc))) | refine WO.nil ?_ | refine WB.nil ?_ | refine WP.bag rfl ?_ | refine WP.nil ?_ | refine W.seq ?_ | refine W.reg ?_ | refine W.dreg ?_ | refine W.block ?_ | refine W.ret ?_ | refine W.skip ?_ | refine W.exit ?_ | (simp only [srow_len, List.length_map, Qit, Int.toNat_natCast, entry, Opd.eat, cellsOf, TV.ofCells, allAv, Qseq, Qblk, List.map_cons, List.map_nil, putD, kp, Nat.reduceEqDiff, ↓reduceIte, beq_self_eq_true, Nat.reduceBEq]))
  all_goals first | exact Qend.boo rfl rfl (by rw [← hp1]; rfl) | (exfalso; omega)
theorem vs_inner {T : Tab} {u : Str} (hw : Fn T F.unicode_utf8_word_string unicode_utf8_word_string.fn) (hu : u.length ≤ 1073741824) {N : St → Prop} {Q : Ex → St → Prop}
    (hN : 32 < u.length → utf (u.drop 32) = utf u → N ⟨lstE [(0, .av (.str (u.drop 32)))], lstB [(0, none)]⟩) (hQ : ∀ st, getE st.env 0 = .av (.str u) → getB st.boxes 0 = none → Q (.exit 2) st) :
    W T unicode_utf8_ValidString.l2 ⟨lstE [(0, .av (.str u))], lstB [(0, none)]⟩ (Qit [0] N Q) := by
  have g1 : (u.drop 8).length = u.length - 8 := List.length_drop
  have g2 : (u.drop 16).length = u.length - 16 := List.length_drop
  have g3 : (u.drop 24).length = u.length - 24 := List.length_drop
  have g4 : (u.drop 32).length = u.length - 32 := List.length_drop
  repeat' (first | refine WO.cons ?_ | refine WB.cons ?_ | refine WP.one ?_ | (((first | apply W1.slcN 8 | apply W1.slcN 16 | apply W1.slcN 24 | apply W1.slcN 32); exact rfl; exact rfl; omega)) | (first | (apply WQ.call (hm := hw.modes); (iterate 4 exact rfl)) | (apply W1.callV (hm := hw.modes); (iterate 5 exact rfl); exact (word_ret hw _ (by omega)); exact rfl)) | ((first | apply W1.add64 | apply W1.sub64); (iterate 3 exact rfl); omega; omega) | (apply W1.iadr; (iterate 3 exact rfl); omega; first | assumption | ((first | apply V.get_row | apply get_srow | apply get_ty | apply get_ar | apply get_ob | apply get_sprow | apply get_brow); assumption)) | (apply W1.idxS; (iterate 3 exact rfl); omega; omega) | (apply W1.slcS; (iterate 4 exact rfl); omega) | (apply W1.pickT; exact rfl; exact rfl; (first | with_reducible rfl | assumption | (simp only [bn]; first | omega | assumption | decide)); exact rfl) | (apply W1.pickF; exact rfl; exact rfl; (first | with_reducible rfl | assumption | (simp only [bn]; first | omega | assumption | decide)); exact rfl) | (apply W1.op; (iterate 3 exact rfl)) | (apply W1.no; exact rfl) | ((first | apply W1.knowT | apply W1.knowFn | apply WQ.knowT | apply WQ.knowFn | apply W.condT); exact rfl; (first | with_reducible rfl | assumption | (simp only [bn]; first | omega | assumption | decide))) | ((first | apply W1.knowTn | apply W1.knowF | apply WQ.knowTn | apply WQ.knowF | apply W.condF); exact rfl; (first | with_reducible rfl | assumption | (simp only [bn]; first | omega | assumption | decide))) | (apply WQ.go; exact rfl; exact rfl) | (apply WQ.no; exact rfl) | ((first | apply W1.bothT | apply W1.bothF | apply WQ.bothT | apply WQ.bothF | apply W.cond); exact rfl; all_goals intro hc; all_goals first | (cases hc; done) | ((try simp only [hc]); (try simp only [bm] at hc))) | refine WO.nil ?_ | refine WB.nil ?_ | refine WP.bag rfl ?_ | refine WP.nil ?_ | refine W.seq ?_ | refine W.reg ?_ | refine W.dreg ?_ | refine W.block ?_ | refine W.ret ?_ | refine W.skip ?_ | refine W.exit ?_ | (simp only [srow_len, List.length_map, Qit, Int.toNat_natCast, entry, Opd.eat, cellsOf, TV.ofCells, allAv, Qseq, Qblk, List.map_cons, List.map_nil, putD, kp, Nat.reduceEqDiff, ↓reduceIte, beq_self_eq_true, Nat.reduceBEq]))
  all_goals first
    | exact hQ _ rfl rfl
    | exact hN (by omega) (hi4 (t := u) (by assumption) (by omega))
    | trace_state
theorem keep0 {st' : St} {u : Str} {X : TV} (h0 : getE st'.env 0 = .av (.str u)) (h1 : getB st'.boxes 0 = none) : st'.keep [0] = St.keep [0] (St.put ⟨lstE [(0, X)], lstB [(0, none)]⟩ 0 (.av (.str u))) := by
  simp only [keep_eq, List.map_cons, List.map_nil, h0, h1]; rfl
theorem vs_asc {T : Tab} {s t : Str} (hp1 : utf t = utf s) (hp2 : t.length ≤ 1073741824) (hw : Fn T F.unicode_utf8_word_string unicode_utf8_word_string.fn) (hne : t ≠ []) (hasc : (bAt t 0).toNat < 128) : VStep T s t := by
  unfold VStep
  have hlen : 0 < t.length := List.length_pos_iff.2 hne
  have hc256 : (bAt t 0).toNat < 256 := (bAt t 0).toNat_lt
  have z0 : Int.toNat 0 = 0 := rfl
  have z1 : Int.toNat 1 = 1 := rfl
  have z2 : Int.toNat 2 = 2 := rfl
  have z3 : Int.toNat 3 = 3 := rfl
  have z4 : Int.toNat 4 = 4 := rfl
  have z8 : Int.toNat 8 = 8 := rfl
  have z16 : Int.toNat 16 = 16 := rfl
  have z24 : Int.toNat 24 = 24 := rfl
  have z32 : Int.toNat 32 = 32 := rfl
  have hasc' : ((bAt t 0).toNat : Int) < 128 := by omega
  have e1 := utf_one hlen hasc
  have d1 : (t.drop 1).length = t.length - 1 := List.length_drop
  have d2 : ((t.drop 1).drop 8).length = t.length - 9 := by simp
  have d3 : (((t.drop 1).drop 8).drop 8).length = t.length - 17 := by simp
  have d4 : (((t.drop 1).drop 8).drop 16).length = t.length - 25 := by simp
  repeat' (first | refine WO.cons ?_ | refine WB.cons ?_ | refine WP.one ?_ | (((first | apply W1.slcN 8 | apply W1.slcN 1 | apply W1.slcN 16 | apply W1.slcN 24 | apply W1.slcN 32); exact rfl; exact rfl; omega)) | (first | (apply WQ.call (hm := hw.modes); (iterate 4 exact rfl)) | (apply W1.callV (hm := hw.modes); (iterate 5 exact rfl); exact (word_ret hw _ (by omega)); exact rfl)) | ((first | apply W1.add64 | apply W1.sub64); (iterate 3 exact rfl); omega; omega) | (apply W1.iadr; (iterate 3 exact rfl); omega; first | assumption | ((first | apply V.get_row | apply get_srow | apply get_ty | apply get_ar | apply get_ob | apply get_sprow | apply get_brow); assumption)) | (apply W1.idxS; (iterate 3 exact rfl); omega; omega) | (apply W1.slcS; (iterate 4 exact rfl); omega) | (apply W1.pickT; exact rfl; exact rfl; (first | with_reducible rfl | assumption | (simp only [bn]; first | omega | assumption | decide)); exact rfl) | (apply W1.pickF; exact rfl; exact rfl; (first | with_reducible rfl | assumption | (simp only [bn]; first | omega | assumption | decide)); exact rfl) | (apply W1.op; (iterate 3 exact rfl)) | (apply W1.no; exact rfl) | ((first | apply W1.knowT | apply W1.knowFn | apply WQ.knowT | apply WQ.knowFn | apply W.condT); exact rfl; (first | with_reducible rfl | assumption | (simp only [bn]; first | omega | assumption | decide))) | ((first | apply W1.knowTn | apply W1.knowF | apply WQ.knowTn | apply WQ.knowF | apply W.condF); exact rfl; (first | with_reducible rfl | assumption | (simp only [bn]; first | omega | assumption | decide))) | (apply WQ.go; exact rfl; exact rfl) | (apply WQ.no; exact rfl) | ((first | apply W1.bothT | apply W1.bothF | apply WQ.bothT | apply WQ.bothF | apply W.cond); exact rfl; all_goals intro hc; all_goals first | (cases hc; done) | ((try simp only [hc]); (try simp only [bm] at hc))) | refine WO.nil ?_ | refine WB.nil ?_ | refine WP.bag rfl ?_ | refine WP.nil ?_ | refine W.seq ?_ | refine W.reg ?_ | refine W.dreg ?_ | refine W.block ?_ | refine W.ret ?_ | refine W.skip ?_ | refine W.exit ?_ | (simp only [srow_len, List.length_map, Qit, Int.toNat_natCast, entry, Opd.eat, cellsOf, TV.ofCells, allAv, Qseq, Qblk, List.map_cons, List.map_nil, putD, kp, Nat.reduceEqDiff, ↓reduceIte, beq_self_eq_true, Nat.reduceBEq]))
  all_goals (try have e2 := (hi1 (t := t.drop 1) (by assumption) (by omega)).trans (e1.trans hp1))
  all_goals first
    | (refine ⟨_, ⟨?_, ?_⟩, ?_, rfl⟩ <;> first | exact e1.trans hp1 | exact e2 | omega)
    | (have e3 := (hi2 (t := (t.drop 1).drop 8) (by assumption) (by omega)).trans e2
       refine W.iterP (β := Str) (fun u s0 => s0.put 0 (.av (.str u))) (fun u => utf u = utf s ∧ u.length ≤ 1073741824 ∧ u.length < t.length) List.length (((t.drop 1).drop 8).drop 16) ⟨e3, by omega, by omega⟩ rfl ?_
       rintro u ⟨q1, q2, q3⟩
       refine vs_inner hw q2 (fun hl hu => ⟨u.drop 32, ⟨hu.trans q1, by rw [List.length_drop]; omega, by rw [List.length_drop]; omega⟩, by rw [List.length_drop]; omega, rfl⟩) ?_
       intro st' h0 h1
       simp only [Qblk, Qseq, ↓reduceIte]
       refine W.exit ?_
       simp only [Qblk, Qseq, Qit, ↓reduceIte, Nat.reduceEqDiff]
       exact ⟨u, ⟨q1, q2⟩, q3, keep0 (X := .av (.str s)) h0 h1⟩)
end Hm

/- Which texts are UTF-8: classes. Conditions: see each theorem. -/
namespace Hm
open Go (IntKind)
set_option maxHeartbeats 40000000
set_option maxRecDepth 4000
theorem vs_c0 {T : Tab} {s t : Str} (hp1 : utf t = utf s) (hp2 : t.length ≤ 1073741824) (hne : t ≠ []) (hasc : ¬ (bAt t 0).toNat < 128) (hf : firZ[(bAt t 0).toNat]? = some 2) (c1 : 194 ≤ (bAt t 0).toNat) (c2 : (bAt t 0).toNat ≤ 223) : VStep T s t := by
  unfold VStep
  have hlen : 0 < t.length := List.length_pos_iff.2 hne
  have hc256 : (bAt t 0).toNat < 256 := (bAt t 0).toNat_lt
  have z0 : Int.toNat 0 = 0 := rfl
  have z1 : Int.toNat 1 = 1 := rfl
  have z2 : Int.toNat 2 = 2 := rfl
  have z3 : Int.toNat 3 = 3 := rfl
  have z4 : Int.toNat 4 = 4 := rfl
  have z8 : Int.toNat 8 = 8 := rfl
  have z16 : Int.toNat 16 = 16 := rfl
  have z24 : Int.toNat 24 = 24 := rfl
  have z32 : Int.toNat 32 = 32 := rfl
  have hasc' : ¬ ((bAt t 0).toNat : Int) < 128 := by omega
  have hwt := utf_cons hne
  have d2 : (t.drop 2).length = t.length - 2 := List.length_drop
  have d3 : (t.drop 3).length = t.length - 3 := List.length_drop
  have d4 : (t.drop 4).length = t.length - 4 := List.length_drop
  obtain ⟨rest, hr⟩ := fir_drop hf
  have hr' : (zavs firZ).drop (Int.toNat ((bAt t 0).toNat : Int) * 1) = .int .u8 2 :: rest := by rw [Int.toNat_natCast, Nat.mul_one]; exact hr
  have hwd := wd_two c1 c2
  repeat' (first | refine WO.cons ?_ | refine WB.cons ?_ | refine WP.one ?_ | ((simp only [z0, z1, z2, z3, z4])) | ((apply W1.tabA; exact rfl; exact rfl; exact rfl; exact hr'; omega; omega; (rw [fir_len]; omega))) | ((apply W1.load1; exact rfl; exact rfl)) | ((apply W1.slcD; exact rfl; exact rfl; exact rfl; omega)) | ((first | apply W1.add64 | apply W1.sub64); (iterate 3 exact rfl); omega; omega) | (apply W1.iadr; (iterate 3 exact rfl); omega; first | assumption | ((first | apply V.get_row | apply get_srow | apply get_ty | apply get_ar | apply get_ob | apply get_sprow | apply get_brow); assumption)) | (apply W1.idxS; (iterate 3 exact rfl); omega; omega) | (apply W1.slcS; (iterate 4 exact rfl); omega) | (apply W1.pickT; exact rfl; exact rfl; (first | with_reducible rfl | assumption | (simp only [bn]; first | omega | assumption | decide)); exact rfl) | (apply W1.pickF; exact rfl; exact rfl; (first | with_reducible rfl | assumption | (simp only [bn]; first | omega | assumption | decide)); exact rfl) | (apply W1.op; (iterate 3 exact rfl)) | (apply W1.no; exact rfl) | ((first | apply W1.knowT | apply W1.knowFn | apply WQ.knowT | apply WQ.knowFn | apply W.condT); exact rfl; (first | with_reducible rfl | assumption | (simp only [bn]; first | omega | assumption | decide))) | ((first | apply W1.knowTn | apply W1.knowF | apply WQ.knowTn | apply WQ.knowF | apply W.condF); exact rfl; (first | with_reducible rfl | assumption | (simp only [bn]; first | omega | assumption | decide))) | (apply WQ.go; exact rfl; exact rfl) | (apply WQ.no; exact rfl) | ((first | apply W1.bothT | apply W1.bothF | apply WQ.bothT | apply WQ.bothF | apply W.cond); exact rfl; all_goals intro hc; all_goals first | (cases hc; done) | ((try simp only [hc]); (try simp only [bm] at hc))) | refine WO.nil ?_ | refine WB.nil ?_ | refine WP.bag rfl ?_ | refine WP.nil ?_ | refine W.seq ?_ | refine W.reg ?_ | refine W.dreg ?_ | refine W.block ?_ | refine W.ret ?_ | refine W.skip ?_ | refine W.exit ?_ | (simp only [srow_len, List.length_map, Qit, Int.toNat_natCast, entry, Opd.eat, cellsOf, TV.ofCells, allAv, Qseq, Qblk, List.map_cons, List.map_nil, putD, kp, Nat.reduceEqDiff, ↓reduceIte, beq_self_eq_true, Nat.reduceBEq]))
  all_goals first
    | (refine Qend.boo rfl rfl ?_; rw [← hp1, hwt, hwd, if_neg (by omega)]; rfl)
    | (have hk : wd t = 2 := by rw [hwd, if_pos (by omega)]
       rw [hk] at hwt
       refine ⟨_, ⟨?_, ?_⟩, ?_, rfl⟩
       · rw [← hp1, hwt]; rfl
       · omega
       · omega)
theorem vs_c1 {T : Tab} {s t : Str} (hp1 : utf t = utf s) (hp2 : t.length ≤ 1073741824) (hne : t ≠ []) (hasc : ¬ (bAt t 0).toNat < 128) (hf : firZ[(bAt t 0).toNat]? = some 19) (c1 : (bAt t 0).toNat = 224) : VStep T s t := by
  unfold VStep
  have hlen : 0 < t.length := List.length_pos_iff.2 hne
  have hc256 : (bAt t 0).toNat < 256 := (bAt t 0).toNat_lt
  have z0 : Int.toNat 0 = 0 := rfl
  have z1 : Int.toNat 1 = 1 := rfl
  have z2 : Int.toNat 2 = 2 := rfl
  have z3 : Int.toNat 3 = 3 := rfl
  have z4 : Int.toNat 4 = 4 := rfl
  have z8 : Int.toNat 8 = 8 := rfl
  have z16 : Int.toNat 16 = 16 := rfl
  have z24 : Int.toNat 24 = 24 := rfl
  have z32 : Int.toNat 32 = 32 := rfl
  have hasc' : ¬ ((bAt t 0).toNat : Int) < 128 := by omega
  have hwt := utf_cons hne
  have d2 : (t.drop 2).length = t.length - 2 := List.length_drop
  have d3 : (t.drop 3).length = t.length - 3 := List.length_drop
  have d4 : (t.drop 4).length = t.length - 4 := List.length_drop
  obtain ⟨rest, hr⟩ := fir_drop hf
  have hr' : (zavs firZ).drop (Int.toNat ((bAt t 0).toNat : Int) * 1) = .int .u8 19 :: rest := by rw [Int.toNat_natCast, Nat.mul_one]; exact hr
  have hwd := wd_three (t := t) 160 191 (by omega) (by omega) (by rw [if_pos (by omega)]) (by rw [if_neg (by omega)])
  repeat' (first | refine WO.cons ?_ | refine WB.cons ?_ | refine WP.one ?_ | ((simp only [z0, z1, z2, z3, z4])) | ((apply W1.tabA; exact rfl; exact rfl; exact rfl; exact hr'; omega; omega; (rw [fir_len]; omega))) | ((apply W1.load1; exact rfl; exact rfl)) | ((apply W1.slcD; exact rfl; exact rfl; exact rfl; omega)) | ((first | apply W1.add64 | apply W1.sub64); (iterate 3 exact rfl); omega; omega) | (apply W1.iadr; (iterate 3 exact rfl); omega; first | assumption | ((first | apply V.get_row | apply get_srow | apply get_ty | apply get_ar | apply get_ob | apply get_sprow | apply get_brow); assumption)) | (apply W1.idxS; (iterate 3 exact rfl); omega; omega) | (apply W1.slcS; (iterate 4 exact rfl); omega) | (apply W1.pickT; exact rfl; exact rfl; (first | with_reducible rfl | assumption | (simp only [bn]; first | omega | assumption | decide)); exact rfl) | (apply W1.pickF; exact rfl; exact rfl; (first | with_reducible rfl | assumption | (simp only [bn]; first | omega | assumption | decide)); exact rfl) | (apply W1.op; (iterate 3 exact rfl)) | (apply W1.no; exact rfl) | ((first | apply W1.knowT | apply W1.knowFn | apply WQ.knowT | apply WQ.knowFn | apply W.condT); exact rfl; (first | with_reducible rfl | assumption | (simp only [bn]; first | omega | assumption | decide))) | ((first | apply W1.knowTn | apply W1.knowF | apply WQ.knowTn | apply WQ.knowF | apply W.condF); exact rfl; (first | with_reducible rfl | assumption | (simp only [bn]; first | omega | assumption | decide))) | (apply WQ.go; exact rfl; exact rfl) | (apply WQ.no; exact rfl) | ((first | apply W1.bothT | apply W1.bothF | apply WQ.bothT | apply WQ.bothF | apply W.cond); exact rfl; all_goals intro hc; all_goals first | (cases hc; done) | ((try simp only [hc]); (try simp only [bm] at hc))) | refine WO.nil ?_ | refine WB.nil ?_ | refine WP.bag rfl ?_ | refine WP.nil ?_ | refine W.seq ?_ | refine W.reg ?_ | refine W.dreg ?_ | refine W.block ?_ | refine W.ret ?_ | refine W.skip ?_ | refine W.exit ?_ | (simp only [srow_len, List.length_map, Qit, Int.toNat_natCast, entry, Opd.eat, cellsOf, TV.ofCells, allAv, Qseq, Qblk, List.map_cons, List.map_nil, putD, kp, Nat.reduceEqDiff, ↓reduceIte, beq_self_eq_true, Nat.reduceBEq]))
  all_goals first
    | (refine Qend.boo rfl rfl ?_; rw [← hp1, hwt, hwd, if_neg (by omega)]; rfl)
    | (have hk : wd t = 3 := by rw [hwd, if_pos (by omega)]
       rw [hk] at hwt
       refine ⟨_, ⟨?_, ?_⟩, ?_, rfl⟩
       · rw [← hp1, hwt]; rfl
       · omega
       · omega)
theorem vs_c2 {T : Tab} {s t : Str} (hp1 : utf t = utf s) (hp2 : t.length ≤ 1073741824) (hne : t ≠ []) (hasc : ¬ (bAt t 0).toNat < 128) (hf : firZ[(bAt t 0).toNat]? = some 3) (c1 : 225 ≤ (bAt t 0).toNat) (c2 : (bAt t 0).toNat ≤ 239) (c3 : (bAt t 0).toNat ≠ 237) : VStep T s t := by
  unfold VStep
  have hlen : 0 < t.length := List.length_pos_iff.2 hne
  have hc256 : (bAt t 0).toNat < 256 := (bAt t 0).toNat_lt
  have z0 : Int.toNat 0 = 0 := rfl
  have z1 : Int.toNat 1 = 1 := rfl
  have z2 : Int.toNat 2 = 2 := rfl
  have z3 : Int.toNat 3 = 3 := rfl
  have z4 : Int.toNat 4 = 4 := rfl
  have z8 : Int.toNat 8 = 8 := rfl
  have z16 : Int.toNat 16 = 16 := rfl
  have z24 : Int.toNat 24 = 24 := rfl
  have z32 : Int.toNat 32 = 32 := rfl
  have hasc' : ¬ ((bAt t 0).toNat : Int) < 128 := by omega
  have hwt := utf_cons hne
  have d2 : (t.drop 2).length = t.length - 2 := List.length_drop
  have d3 : (t.drop 3).length = t.length - 3 := List.length_drop
  have d4 : (t.drop 4).length = t.length - 4 := List.length_drop
  obtain ⟨rest, hr⟩ := fir_drop hf
  have hr' : (zavs firZ).drop (Int.toNat ((bAt t 0).toNat : Int) * 1) = .int .u8 3 :: rest := by rw [Int.toNat_natCast, Nat.mul_one]; exact hr
  have hwd := wd_three (t := t) 128 191 (by omega) (by omega) (by rw [if_neg (by omega)]) (by rw [if_neg (by omega)])
  repeat' (first | refine WO.cons ?_ | refine WB.cons ?_ | refine WP.one ?_ | ((simp only [z0, z1, z2, z3, z4])) | ((apply W1.tabA; exact rfl; exact rfl; exact rfl; exact hr'; omega; omega; (rw [fir_len]; omega))) | ((apply W1.load1; exact rfl; exact rfl)) | ((apply W1.slcD; exact rfl; exact rfl; exact rfl; omega)) | ((first | apply W1.add64 | apply W1.sub64); (iterate 3 exact rfl); omega; omega) | (apply W1.iadr; (iterate 3 exact rfl); omega; first | assumption | ((first | apply V.get_row | apply get_srow | apply get_ty | apply get_ar | apply get_ob | apply get_sprow | apply get_brow); assumption)) | (apply W1.idxS; (iterate 3 exact rfl); omega; omega) | (apply W1.slcS; (iterate 4 exact rfl); omega) | (apply W1.pickT; exact rfl; exact rfl; (first | with_reducible rfl | assumption | (simp only [bn]; first | omega | assumption | decide)); exact rfl) | (apply W1.pickF; exact rfl; exact rfl; (first | with_reducible rfl | assumption | (simp only [bn]; first | omega | assumption | decide)); exact rfl) | (apply W1.op; (iterate 3 exact rfl)) | (apply W1.no; exact rfl) | ((first | apply W1.knowT | apply W1.knowFn | apply WQ.knowT | apply WQ.knowFn | apply W.condT); exact rfl; (first | with_reducible rfl | assumption | (simp only [bn]; first | omega | assumption | decide))) | ((first | apply W1.knowTn | apply W1.knowF | apply WQ.knowTn | apply WQ.knowF | apply W.condF); exact rfl; (first | with_reducible rfl | assumption | (simp only [bn]; first | omega | assumption | decide))) | (apply WQ.go; exact rfl; exact rfl) | (apply WQ.no; exact rfl) | ((first | apply W1.bothT | apply W1.bothF | apply WQ.bothT | apply WQ.bothF | apply W.cond); exact rfl; all_goals intro hc; all_goals first | (cases hc; done) | ((try simp only [hc]); (try simp only [bm] at hc))) | refine WO.nil ?_ | refine WB.nil ?_ | refine WP.bag rfl ?_ | refine WP.nil ?_ | refine W.seq ?_ | refine W.reg ?_ | refine W.dreg ?_ | refine W.block ?_ | refine W.ret ?_ | refine W.skip ?_ | refine W.exit ?_ | (simp only [srow_len, List.length_map, Qit, Int.toNat_natCast, entry, Opd.eat, cellsOf, TV.ofCells, allAv, Qseq, Qblk, List.map_cons, List.map_nil, putD, kp, Nat.reduceEqDiff, ↓reduceIte, beq_self_eq_true, Nat.reduceBEq]))
  all_goals first
    | (refine Qend.boo rfl rfl ?_; rw [← hp1, hwt, hwd, if_neg (by omega)]; rfl)
    | (have hk : wd t = 3 := by rw [hwd, if_pos (by omega)]
       rw [hk] at hwt
       refine ⟨_, ⟨?_, ?_⟩, ?_, rfl⟩
       · rw [← hp1, hwt]; rfl
       · omega
       · omega)
end Hm

/- Which texts are UTF-8: classes. Conditions: see each theorem. -/
namespace Hm
open Go (IntKind)
set_option maxHeartbeats 40000000
set_option maxRecDepth 4000
theorem vs_c3 {T : Tab} {s t : Str} (hp1 : utf t = utf s) (hp2 : t.length ≤ 1073741824) (hne : t ≠ []) (hasc : ¬ (bAt t 0).toNat < 128) (hf : firZ[(bAt t 0).toNat]? = some 35) (c1 : (bAt t 0).toNat = 237) : VStep T s t := by
  unfold VStep
  have hlen : 0 < t.length := List.length_pos_iff.2 hne
  have hc256 : (bAt t 0).toNat < 256 := (bAt t 0).toNat_lt
  have z0 : Int.toNat 0 = 0 := rfl
  have z1 : Int.toNat 1 = 1 := rfl
  have z2 : Int.toNat 2 = 2 := rfl
  have z3 : Int.toNat 3 = 3 := rfl
  have z4 : Int.toNat 4 = 4 := rfl
  have z8 : Int.toNat 8 = 8 := rfl
  have z16 : Int.toNat 16 = 16 := rfl
  have z24 : Int.toNat 24 = 24 := rfl
  have z32 : Int.toNat 32 = 32 := rfl
  have hasc' : ¬ ((bAt t 0).toNat : Int) < 128 := by omega
  have hwt := utf_cons hne
  have d2 : (t.drop 2).length = t.length - 2 := List.length_drop
  have d3 : (t.drop 3).length = t.length - 3 := List.length_drop
  have d4 : (t.drop 4).length = t.length - 4 := List.length_drop
  obtain ⟨rest, hr⟩ := fir_drop hf
  have hr' : (zavs firZ).drop (Int.toNat ((bAt t 0).toNat : Int) * 1) = .int .u8 35 :: rest := by rw [Int.toNat_natCast, Nat.mul_one]; exact hr
  have hwd := wd_three (t := t) 128 159 (by omega) (by omega) (by rw [if_neg (by omega)]) (by rw [if_pos (by omega)])
  repeat' (first | refine WO.cons ?_ | refine WB.cons ?_ | refine WP.one ?_ | ((simp only [z0, z1, z2, z3, z4])) | ((apply W1.tabA; exact rfl; exact rfl; exact rfl; exact hr'; omega; omega; (rw [fir_len]; omega))) | ((apply W1.load1; exact rfl; exact rfl)) | ((apply W1.slcD; exact rfl; exact rfl; exact rfl; omega)) | ((first | apply W1.add64 | apply W1.sub64); (iterate 3 exact rfl); omega; omega) | (apply W1.iadr; (iterate 3 exact rfl); omega; first | assumption | ((first | apply V.get_row | apply get_srow | apply get_ty | apply get_ar | apply get_ob | apply get_sprow | apply get_brow); assumption)) | (apply W1.idxS; (iterate 3 exact rfl); omega; omega) | (apply W1.slcS; (iterate 4 exact rfl); omega) | (apply W1.pickT; exact rfl; exact rfl; (first | with_reducible rfl | assumption | (simp only [bn]; first | omega | assumption | decide)); exact rfl) | (apply W1.pickF; exact rfl; exact rfl; (first | with_reducible rfl | assumption | (simp only [bn]; first | omega | assumption | decide)); exact rfl) | (apply W1.op; (iterate 3 exact rfl)) | (apply W1.no; exact rfl) | ((first | apply W1.knowT | apply W1.knowFn | apply WQ.knowT | apply WQ.knowFn | apply W.condT); exact rfl; (first | with_reducible rfl | assumption | (simp only [bn]; first | omega | assumption | decide))) | ((first | apply W1.knowTn | apply W1.knowF | apply WQ.knowTn | apply WQ.knowF | apply W.condF); exact rfl; (first | with_reducible rfl | assumption | (simp only [bn]; first | omega | assumption | decide))) | (apply WQ.go; exact rfl; exact rfl) | (apply WQ.no; exact rfl) | ((first | apply W1.bothT | apply W1.bothF | apply WQ.bothT | apply WQ.bothF | apply W.cond); exact rfl; all_goals intro hc; all_goals first | (cases hc; done) | ((try simp only [hc]); (try simp only [bm] at hc))) | refine WO.nil ?_ | refine WB.nil ?_ | refine WP.bag rfl ?_ | refine WP.nil ?_ | refine W.seq ?_ | refine W.reg ?_ | refine W.dreg ?_ | refine W.block ?_ | refine W.ret ?_ | refine W.skip ?_ | refine W.exit ?_ | (simp only [srow_len, List.length_map, Qit, Int.toNat_natCast, entry, Opd.eat, cellsOf, TV.ofCells, allAv, Qseq, Qblk, List.map_cons, List.map_nil, putD, kp, Nat.reduceEqDiff, ↓reduceIte, beq_self_eq_true, Nat.reduceBEq]))
  all_goals first
    | (refine Qend.boo rfl rfl ?_; rw [← hp1, hwt, hwd, if_neg (by omega)]; rfl)
    | (have hk : wd t = 3 := by rw [hwd, if_pos (by omega)]
       rw [hk] at hwt
       refine ⟨_, ⟨?_, ?_⟩, ?_, rfl⟩
       · rw [← hp1, hwt]; rfl
       · omega
       · omega)
theorem vs_c4 {T : Tab} {s t : Str} (hp1 : utf t = utf s) (hp2 : t.length ≤ 1073741824) (hne : t ≠ []) (hasc : ¬ (bAt t 0).toNat < 128) (hf : firZ[(bAt t 0).toNat]? = some 52) (c1 : (bAt t 0).toNat = 240) : VStep T s t := by
  unfold VStep
  have hlen : 0 < t.length := List.length_pos_iff.2 hne
  have hc256 : (bAt t 0).toNat < 256 := (bAt t 0).toNat_lt
  have z0 : Int.toNat 0 = 0 := rfl
  have z1 : Int.toNat 1 = 1 := rfl
  have z2 : Int.toNat 2 = 2 := rfl
  have z3 : Int.toNat 3 = 3 := rfl
  have z4 : Int.toNat 4 = 4 := rfl
  have z8 : Int.toNat 8 = 8 := rfl
  have z16 : Int.toNat 16 = 16 := rfl
  have z24 : Int.toNat 24 = 24 := rfl
  have z32 : Int.toNat 32 = 32 := rfl
  have hasc' : ¬ ((bAt t 0).toNat : Int) < 128 := by omega
  have hwt := utf_cons hne
  have d2 : (t.drop 2).length = t.length - 2 := List.length_drop
  have d3 : (t.drop 3).length = t.length - 3 := List.length_drop
  have d4 : (t.drop 4).length = t.length - 4 := List.length_drop
  obtain ⟨rest, hr⟩ := fir_drop hf
  have hr' : (zavs firZ).drop (Int.toNat ((bAt t 0).toNat : Int) * 1) = .int .u8 52 :: rest := by rw [Int.toNat_natCast, Nat.mul_one]; exact hr
  have hwd := wd_four (t := t) 144 191 (by omega) (by omega) (by rw [if_pos (by omega)]) (by rw [if_neg (by omega)])
  repeat' (first | refine WO.cons ?_ | refine WB.cons ?_ | refine WP.one ?_ | ((simp only [z0, z1, z2, z3, z4])) | ((apply W1.tabA; exact rfl; exact rfl; exact rfl; exact hr'; omega; omega; (rw [fir_len]; omega))) | ((apply W1.load1; exact rfl; exact rfl)) | ((apply W1.slcD; exact rfl; exact rfl; exact rfl; omega)) | ((first | apply W1.add64 | apply W1.sub64); (iterate 3 exact rfl); omega; omega) | (apply W1.iadr; (iterate 3 exact rfl); omega; first | assumption | ((first | apply V.get_row | apply get_srow | apply get_ty | apply get_ar | apply get_ob | apply get_sprow | apply get_brow); assumption)) | (apply W1.idxS; (iterate 3 exact rfl); omega; omega) | (apply W1.slcS; (iterate 4 exact rfl); omega) | (apply W1.pickT; exact rfl; exact rfl; (first | with_reducible rfl | assumption | (simp only [bn]; first | omega | assumption | decide)); exact rfl) | (apply W1.pickF; exact rfl; exact rfl; (first | with_reducible rfl | assumption | (simp only [bn]; first | omega | assumption | decide)); exact rfl) | (apply W1.op; (iterate 3 exact rfl)) | (apply W1.no; exact rfl) | ((first | apply W1.knowT | apply W1.knowFn | apply WQ.knowT | apply WQ.knowFn | apply W.condT); exact rfl; (first | with_reducible rfl | assumption | (simp only [bn]; first | omega | assumption | decide))) | ((first | apply W1.knowTn | apply W1.knowF | apply WQ.knowTn | apply WQ.knowF | apply W.condF); exact rfl; (first | with_reducible rfl | assumption | (simp only [bn]; first | omega | assumption | decide))) | (apply WQ.go; exact rfl; exact rfl) | (apply WQ.no; exact rfl) | ((first | apply W1.bothT | apply W1.bothF | apply WQ.bothT | apply WQ.bothF | apply W.cond); exact rfl; all_goals intro hc; all_goals first | (cases hc; done) | ((try simp only [hc]); (try simp only [bm] at hc))) | refine WO.nil ?_ | refine WB.nil ?_ | refine WP.bag rfl ?_ | refine WP.nil ?_ | refine W.seq ?_ | refine W.reg ?_ | refine W.dreg ?_ | refine W.block ?_ | refine W.ret ?_ | refine W.skip ?_ | refine W.exit ?_ | (simp only [srow_len, List.length_map, Qit, Int.toNat_natCast, entry, Opd.eat, cellsOf, TV.ofCells, allAv, Qseq, Qblk, List.map_cons, List.map_nil, putD, kp, Nat.reduceEqDiff, ↓reduceIte, beq_self_eq_true, Nat.reduceBEq]))
  all_goals first
    | (refine Qend.boo rfl rfl ?_; rw [← hp1, hwt, hwd, if_neg (by omega)]; rfl)
    | (have hk : wd t = 4 := by rw [hwd, if_pos (by omega)]
       rw [hk] at hwt
       refine ⟨_, ⟨?_, ?_⟩, ?_, rfl⟩
       · rw [← hp1, hwt]; rfl
       · omega
       · omega)
end Hm

/- Which texts are UTF-8: classes. Conditions: see each theorem. -/
namespace Hm
open Go (IntKind)
set_option maxHeartbeats 40000000
set_option maxRecDepth 4000
theorem vs_c5 {T : Tab} {s t : Str} (hp1 : utf t = utf s) (hp2 : t.length ≤ 1073741824) (hne : t ≠ []) (hasc : ¬ (bAt t 0).toNat < 128) (hf : firZ[(bAt t 0).toNat]? = some 4) (c1 : 241 ≤ (bAt t 0).toNat) (c2 : (bAt t 0).toNat ≤ 243) : VStep T s t := by
  unfold VStep
  have hlen : 0 < t.length := List.length_pos_iff.2 hne
  have hc256 : (bAt t 0).toNat < 256 := (bAt t 0).toNat_lt
  have z0 : Int.toNat 0 = 0 := rfl
  have z1 : Int.toNat 1 = 1 := rfl
  have z2 : Int.toNat 2 = 2 := rfl
  have z3 : Int.toNat 3 = 3 := rfl
  have z4 : Int.toNat 4 = 4 := rfl
  have z8 : Int.toNat 8 = 8 := rfl
  have z16 : Int.toNat 16 = 16 := rfl
  have z24 : Int.toNat 24 = 24 := rfl
  have z32 : Int.toNat 32 = 32 := rfl
  have hasc' : ¬ ((bAt t 0).toNat : Int) < 128 := by omega
  have hwt := utf_cons hne
  have d2 : (t.drop 2).length = t.length - 2 := List.length_drop
  have d3 : (t.drop 3).length = t.length - 3 := List.length_drop
  have d4 : (t.drop 4).length = t.length - 4 := List.length_drop
  obtain ⟨rest, hr⟩ := fir_drop hf
  have hr' : (zavs firZ).drop (Int.toNat ((bAt t 0).toNat : Int) * 1) = .int .u8 4 :: rest := by rw [Int.toNat_natCast, Nat.mul_one]; exact hr
  have hwd := wd_four (t := t) 128 191 (by omega) (by omega) (by rw [if_neg (by omega)]) (by rw [if_neg (by omega)])
  repeat' (first | refine WO.cons ?_ | refine WB.cons ?_ | refine WP.one ?_ | ((simp only [z0, z1, z2, z3, z4])) | ((apply W1.tabA; exact rfl; exact rfl; exact rfl; exact hr'; omega; omega; (rw [fir_len]; omega))) | ((apply W1.load1; exact rfl; exact rfl)) | ((apply W1.slcD; exact rfl; exact rfl; exact rfl; omega)) | ((first | apply W1.add64 | apply W1.sub64); (iterate 3 exact rfl); omega; omega) | (apply W1.iadr; (iterate 3 exact rfl); omega; first | assumption | ((first | apply V.get_row | apply get_srow | apply get_ty | apply get_ar | apply get_ob | apply get_sprow | apply get_brow); assumption)) | (apply W1.idxS; (iterate 3 exact rfl); omega; omega) | (apply W1.slcS; (iterate 4 exact rfl); omega) | (apply W1.pickT; exact rfl; exact rfl; (first | with_reducible rfl | assumption | (simp only [bn]; first | omega | assumption | decide)); exact rfl) | (apply W1.pickF; exact rfl; exact rfl; (first | with_reducible rfl | assumption | (simp only [bn]; first | omega | assumption | decide)); exact rfl) | (apply W1.op; (iterate 3 exact rfl)) | (apply W1.no; exact rfl) | ((first | apply W1.knowT | apply W1.knowFn | apply WQ.knowT | apply WQ.knowFn | apply W.condT); exact rfl; (first | with_reducible rfl | assumption | (simp only [bn]; first | omega | assumption | decide))) | ((first | apply W1.knowTn | apply W1.knowF | apply WQ.knowTn | apply WQ.knowF | apply W.condF); exact rfl; (first | with_reducible rfl | assumption | (simp only [bn]; first | omega | assumption | decide))) | (apply WQ.go; exact rfl; exact rfl) | (apply WQ.no; exact rfl) | ((first | apply W1.bothT | apply W1.bothF | apply WQ.bothT | apply WQ.bothF | apply W.cond); exact rfl; all_goals intro hc; all_goals first | (cases hc; done) | ((try simp only [hc]); (try simp only [bm] at hc))) | refine WO.nil ?_ | refine WB.nil ?_ | refine WP.bag rfl ?_ | refine WP.nil ?_ | refine W.seq ?_ | refine W.reg ?_ | refine W.dreg ?_ | refine W.block ?_ | refine W.ret ?_ | refine W.skip ?_ | refine W.exit ?_ | (simp only [srow_len, List.length_map, Qit, Int.toNat_natCast, entry, Opd.eat, cellsOf, TV.ofCells, allAv, Qseq, Qblk, List.map_cons, List.map_nil, putD, kp, Nat.reduceEqDiff, ↓reduceIte, beq_self_eq_true, Nat.reduceBEq]))
  all_goals first
    | (refine Qend.boo rfl rfl ?_; rw [← hp1, hwt, hwd, if_neg (by omega)]; rfl)
    | (have hk : wd t = 4 := by rw [hwd, if_pos (by omega)]
       rw [hk] at hwt
       refine ⟨_, ⟨?_, ?_⟩, ?_, rfl⟩
       · rw [← hp1, hwt]; rfl
       · omega
       · omega)
theorem vs_c6 {T : Tab} {s t : Str} (hp1 : utf t = utf s) (hp2 : t.length ≤ 1073741824) (hne : t ≠ []) (hasc : ¬ (bAt t 0).toNat < 128) (hf : firZ[(bAt t 0).toNat]? = some 68) (c1 : (bAt t 0).toNat = 244) : VStep T s t := by
  unfold VStep
  have hlen : 0 < t.length := List.length_pos_iff.2 hne
  have hc256 : (bAt t 0).toNat < 256 := (bAt t 0).toNat_lt
  have z0 : Int.toNat 0 = 0 := rfl
  have z1 : Int.toNat 1 = 1 := rfl
  have z2 : Int.toNat 2 = 2 := rfl
  have z3 : Int.toNat 3 = 3 := rfl
  have z4 : Int.toNat 4 = 4 := rfl
  have z8 : Int.toNat 8 = 8 := rfl
  have z16 : Int.toNat 16 = 16 := rfl
  have z24 : Int.toNat 24 = 24 := rfl
  have z32 : Int.toNat 32 = 32 := rfl
  have hasc' : ¬ ((bAt t 0).toNat : Int) < 128 := by omega
  have hwt := utf_cons hne
  have d2 : (t.drop 2).length = t.length - 2 := List.length_drop
  have d3 : (t.drop 3).length = t.length - 3 := List.length_drop
  have d4 : (t.drop 4).length = t.length - 4 := List.length_drop
  obtain ⟨rest, hr⟩ := fir_drop hf
  have hr' : (zavs firZ).drop (Int.toNat ((bAt t 0).toNat : Int) * 1) = .int .u8 68 :: rest := by rw [Int.toNat_natCast, Nat.mul_one]; exact hr
  have hwd := wd_four (t := t) 128 143 (by omega) (by omega) (by rw [if_neg (by omega)]) (by rw [if_pos (by omega)])
  repeat' (first | refine WO.cons ?_ | refine WB.cons ?_ | refine WP.one ?_ | ((simp only [z0, z1, z2, z3, z4])) | ((apply W1.tabA; exact rfl; exact rfl; exact rfl; exact hr'; omega; omega; (rw [fir_len]; omega))) | ((apply W1.load1; exact rfl; exact rfl)) | ((apply W1.slcD; exact rfl; exact rfl; exact rfl; omega)) | ((first | apply W1.add64 | apply W1.sub64); (iterate 3 exact rfl); omega; omega) | (apply W1.iadr; (iterate 3 exact rfl); omega; first | assumption | ((first | apply V.get_row | apply get_srow | apply get_ty | apply get_ar | apply get_ob | apply get_sprow | apply get_brow); assumption)) | (apply W1.idxS; (iterate 3 exact rfl); omega; omega) | (apply W1.slcS; (iterate 4 exact rfl); omega) | (apply W1.pickT; exact rfl; exact rfl; (first | with_reducible rfl | assumption | (simp only [bn]; first | omega | assumption | decide)); exact rfl) | (apply W1.pickF; exact rfl; exact rfl; (first | with_reducible rfl | assumption | (simp only [bn]; first | omega | assumption | decide)); exact rfl) | (apply W1.op; (iterate 3 exact rfl)) | (apply W1.no; exact rfl) | ((first | apply W1.knowT | apply W1.knowFn | apply WQ.knowT | apply WQ.knowFn | apply W.condT); exact rfl; (first | with_reducible rfl | assumption | (simp only [bn]; first | omega | assumption | decide))) | ((first | apply W1.knowTn | apply W1.knowF | apply WQ.knowTn | apply WQ.knowF | apply W.condF); exact rfl; (first | with_reducible rfl | assumption | (simp only [bn]; first | omega | assumption | decide))) | (apply WQ.go; exact rfl; exact rfl) | (apply WQ.no; exact rfl) | ((first | apply W1.bothT | apply W1.bothF | apply WQ.bothT | apply WQ.bothF | apply W.cond); exact rfl; all_goals intro hc; all_goals first | (cases hc; done) | ((try simp only [hc]); (try simp only [bm] at hc))) | refine WO.nil ?_ | refine WB.nil ?_ | refine WP.bag rfl ?_ | refine WP.nil ?_ | refine W.seq ?_ | refine W.reg ?_ | refine W.dreg ?_ | refine W.block ?_ | refine W.ret ?_ | refine W.skip ?_ | refine W.exit ?_ | (simp only [srow_len, List.length_map, Qit, Int.toNat_natCast, entry, Opd.eat, cellsOf, TV.ofCells, allAv, Qseq, Qblk, List.map_cons, List.map_nil, putD, kp, Nat.reduceEqDiff, ↓reduceIte, beq_self_eq_true, Nat.reduceBEq]))
  all_goals first
    | (refine Qend.boo rfl rfl ?_; rw [← hp1, hwt, hwd, if_neg (by omega)]; rfl)
    | (have hk : wd t = 4 := by rw [hwd, if_pos (by omega)]
       rw [hk] at hwt
       refine ⟨_, ⟨?_, ?_⟩, ?_, rfl⟩
       · rw [← hp1, hwt]; rfl
       · omega
       · omega)
theorem vs_c7 {T : Tab} {s t : Str} (hp1 : utf t = utf s) (hp2 : t.length ≤ 1073741824) (hne : t ≠ []) (hasc : ¬ (bAt t 0).toNat < 128) (hf : firZ[(bAt t 0).toNat]? = some 241) (c1 : (bAt t 0).toNat < 194 ∨ 244 < (bAt t 0).toNat) : VStep T s t := by
  unfold VStep
  have hlen : 0 < t.length := List.length_pos_iff.2 hne
  have hc256 : (bAt t 0).toNat < 256 := (bAt t 0).toNat_lt
  have z0 : Int.toNat 0 = 0 := rfl
  have z1 : Int.toNat 1 = 1 := rfl
  have z2 : Int.toNat 2 = 2 := rfl
  have z3 : Int.toNat 3 = 3 := rfl
  have z4 : Int.toNat 4 = 4 := rfl
  have z8 : Int.toNat 8 = 8 := rfl
  have z16 : Int.toNat 16 = 16 := rfl
  have z24 : Int.toNat 24 = 24 := rfl
  have z32 : Int.toNat 32 = 32 := rfl
  have hasc' : ¬ ((bAt t 0).toNat : Int) < 128 := by omega
  have hwt := utf_cons hne
  have d2 : (t.drop 2).length = t.length - 2 := List.length_drop
  have d3 : (t.drop 3).length = t.length - 3 := List.length_drop
  have d4 : (t.drop 4).length = t.length - 4 := List.length_drop
  obtain ⟨rest, hr⟩ := fir_drop hf
  have hr' : (zavs firZ).drop (Int.toNat ((bAt t 0).toNat : Int) * 1) = .int .u8 241 :: rest := by rw [Int.toNat_natCast, Nat.mul_one]; exact hr
  have hwd := wd_none (t := t) (by omega) c1
  repeat' (first | refine WO.cons ?_ | refine WB.cons ?_ | refine WP.one ?_ | ((simp only [z0, z1, z2, z3, z4])) | ((apply W1.tabA; exact rfl; exact rfl; exact rfl; exact hr'; omega; omega; (rw [fir_len]; omega))) | ((apply W1.load1; exact rfl; exact rfl)) | ((apply W1.slcD; exact rfl; exact rfl; exact rfl; omega)) | ((first | apply W1.add64 | apply W1.sub64); (iterate 3 exact rfl); omega; omega) | (apply W1.iadr; (iterate 3 exact rfl); omega; first | assumption | ((first | apply V.get_row | apply get_srow | apply get_ty | apply get_ar | apply get_ob | apply get_sprow | apply get_brow); assumption)) | (apply W1.idxS; (iterate 3 exact rfl); omega; omega) | (apply W1.slcS; (iterate 4 exact rfl); omega) | (apply W1.pickT; exact rfl; exact rfl; (first | with_reducible rfl | assumption | (simp only [bn]; first | omega | assumption | decide)); exact rfl) | (apply W1.pickF; exact rfl; exact rfl; (first | with_reducible rfl | assumption | (simp only [bn]; first | omega | assumption | decide)); exact rfl) | (apply W1.op; (iterate 3 exact rfl)) | (apply W1.no; exact rfl) | ((first | apply W1.knowT | apply W1.knowFn | apply WQ.knowT | apply WQ.knowFn | apply W.condT); exact rfl; (first | with_reducible rfl | assumption | (simp only [bn]; first | omega | assumption | decide))) | ((first | apply W1.knowTn | apply W1.knowF | apply WQ.knowTn | apply WQ.knowF | apply W.condF); exact rfl; (first | with_reducible rfl | assumption | (simp only [bn]; first | omega | assumption | decide))) | (apply WQ.go; exact rfl; exact rfl) | (apply WQ.no; exact rfl) | ((first | apply W1.bothT | apply W1.bothF | apply WQ.bothT | apply WQ.bothF | apply W.cond); exact rfl; all_goals intro hc; all_goals first | (cases hc; done) | ((try simp only [hc]); (try simp only [bm] at hc))) | refine WO.nil ?_ | refine WB.nil ?_ | refine WP.bag rfl ?_ | refine WP.nil ?_ | refine W.seq ?_ | refine W.reg ?_ | refine W.dreg ?_ | refine W.block ?_ | refine W.ret ?_ | refine W.skip ?_ | refine W.exit ?_ | (simp only [srow_len, List.length_map, Qit, Int.toNat_natCast, entry, Opd.eat, cellsOf, TV.ofCells, allAv, Qseq, Qblk, List.map_cons, List.map_nil, putD, kp, Nat.reduceEqDiff, ↓reduceIte, beq_self_eq_true, Nat.reduceBEq]))
  all_goals (refine Qend.boo rfl rfl ?_; rw [← hp1, hwt, hwd]; rfl)
end Hm

/- Which texts are UTF-8, as Go's library has it. Conditions: see each theorem. -/
namespace Hm
open Go (IntKind)
set_option maxHeartbeats 4000000
set_option maxRecDepth 4000
theorem validString_ret {T : Tab} (h : Fn T F.unicode_utf8_ValidString unicode_utf8_ValidString.fn) (hw : Fn T F.unicode_utf8_word_string unicode_utf8_word_string.fn) (s : Str) (hb : s.length ≤ 1073741824) :
    Ret T F.unicode_utf8_ValidString [.val (.str s)] (one (.bool (utf s))) := by
  refine Ret.mk h rfl ?_
  repeat' (first | refine WO.cons ?_ | refine WB.cons ?_ | refine WP.one ?_ | ((first | apply W1.add64 | apply W1.sub64); (iterate 3 exact rfl); omega; omega) | (apply W1.iadr; (iterate 3 exact rfl); omega; first | assumption | ((first | apply V.get_row | apply get_srow | apply get_ty | apply get_ar | apply get_ob | apply get_sprow | apply get_brow); assumption)) | (apply W1.idxS; (iterate 3 exact rfl); omega; omega) | (apply W1.slcS; (iterate 4 exact rfl); omega) | (apply W1.pickT; exact rfl; exact rfl; (first | with_reducible rfl | assumption | (simp only [bn]; first | omega | assumption | decide)); exact rfl) | (apply W1.pickF; exact rfl; exact rfl; (first | with_reducible rfl | assumption | (simp only [bn]; first | omega | assumption | decide)); exact rfl) | (apply W1.op; (iterate 3 exact rfl)) | (apply W1.no; exact rfl) | ((first | apply W1.knowT | apply W1.knowFn | apply WQ.knowT | apply WQ.knowFn | apply W.condT); exact rfl; (first | with_reducible rfl | assumption | (simp only [bn]; first | omega | assumption | decide))) | ((first | apply W1.knowTn | apply W1.knowF | apply WQ.knowTn | apply WQ.knowF | apply W.condF); exact rfl; (first | with_reducible rfl | assumption | (simp only [bn]; first | omega | assumption | decide))) | (apply WQ.go; exact rfl; exact rfl) | (apply WQ.no; exact rfl) | ((first | apply W1.bothT | apply W1.bothF | apply WQ.bothT | apply WQ.bothF | apply W.cond); exact rfl; all_goals intro hc; all_goals first | (cases hc; done) | ((try simp only [hc]); (try simp only [bm] at hc))) | refine WO.nil ?_ | refine WB.nil ?_ | refine WP.bag rfl ?_ | refine WP.nil ?_ | refine W.seq ?_ | refine W.reg ?_ | refine W.dreg ?_ | refine W.block ?_ | refine W.ret ?_ | refine W.skip ?_ | refine W.exit ?_ | (simp only [srow_len, List.length_map, Qit, Int.toNat_natCast, entry, Opd.eat, cellsOf, TV.ofCells, allAv, Qseq, Qblk, List.map_cons, List.map_nil, putD, kp, Nat.reduceEqDiff, ↓reduceIte, beq_self_eq_true, Nat.reduceBEq]))
  refine W.iterP (β := Str) (fun t s0 => s0.put 0 (.av (.str t))) (fun t => utf t = utf s ∧ t.length ≤ 1073741824) List.length s ⟨rfl, hb⟩ rfl ?_
  rintro t ⟨hp1, hp2⟩
  show VStep T s t
  by_cases hne : t = []
  · exact vs_nil hp1 hp2 hne
  · by_cases hasc : (bAt t 0).toNat < 128
    · exact vs_asc hp1 hp2 hw hne hasc
    · rcases fir_cases _ (bAt t 0).toNat_lt (by omega) with ⟨hf, c1, c2⟩ | ⟨hf, c1⟩ | ⟨hf, c1, c2, c3⟩ | ⟨hf, c1⟩ | ⟨hf, c1⟩ | ⟨hf, c1, c2⟩ | ⟨hf, c1⟩ | ⟨hf, c1⟩
      · exact vs_c0 hp1 hp2 hne hasc hf c1 c2
      · exact vs_c1 hp1 hp2 hne hasc hf c1
      · exact vs_c2 hp1 hp2 hne hasc hf c1 c2 c3
      · exact vs_c3 hp1 hp2 hne hasc hf c1
      · exact vs_c4 hp1 hp2 hne hasc hf c1
      · exact vs_c5 hp1 hp2 hne hasc hf c1 c2
      · exact vs_c6 hp1 hp2 hne hasc hf c1
      · exact vs_c7 hp1 hp2 hne hasc hf c1
end Hm

/- The contract of the program's test for UTF-8, by name. Conditions: none (a definition). -/
namespace Hm
def ValidOk (T : Tab) : Prop := ∀ s : Str, s.length ≤ 1073741824 → Ret T F.utf_Valid [.val (.str s)] (one (.bool (utf s)))
end Hm

/- Which texts the program says are UTF-8. Conditions: see each theorem. -/
namespace Hm
open Go (IntKind)
set_option maxHeartbeats 4000000
set_option maxRecDepth 4000
theorem validOk {T : Tab} (hu : Fn T F.utf_Valid utf_Valid.fn) (h : Fn T F.unicode_utf8_ValidString unicode_utf8_ValidString.fn) (hw : Fn T F.unicode_utf8_word_string unicode_utf8_word_string.fn) : ValidOk T := by
  intro s hb
  have r := validString_ret h hw s hb
  refine Ret.mk hu rfl ?_
  repeat' (first | refine WO.cons ?_ | refine WB.cons ?_ | refine WP.one ?_ | (first | (apply WQ.call (hm := h.modes); (iterate 4 exact rfl)) | (apply W1.callV (hm := h.modes); (iterate 5 exact rfl); exact (r); exact rfl)) | ((first | apply W1.add64 | apply W1.sub64); (iterate 3 exact rfl); omega; omega) | (apply W1.iadr; (iterate 3 exact rfl); omega; first | assumption | ((first | apply V.get_row | apply get_srow | apply get_ty | apply get_ar | apply get_ob | apply get_sprow | apply get_brow); assumption)) | (apply W1.idxS; (iterate 3 exact rfl); omega; omega) | (apply W1.slcS; (iterate 4 exact rfl); omega) | (apply W1.pickT; exact rfl; exact rfl; (first | with_reducible rfl | assumption | (simp only [bn]; first | omega | assumption | decide)); exact rfl) | (apply W1.pickF; exact rfl; exact rfl; (first | with_reducible rfl | assumption | (simp only [bn]; first | omega | assumption | decide)); exact rfl) | (apply W1.op; (iterate 3 exact rfl)) | (apply W1.no; exact rfl) | ((first | apply W1.knowT | apply W1.knowFn | apply WQ.knowT | apply WQ.knowFn | apply W.condT); exact rfl; (first | with_reducible rfl | assumption | (simp only [bn]; first | omega | assumption | decide))) | ((first | apply W1.knowTn | apply W1.knowF | apply WQ.knowTn | apply WQ.knowF | apply W.condF); exact rfl; (first | with_reducible rfl | assumption | (simp only [bn]; first | omega | assumption | decide))) | (apply WQ.go; exact rfl; exact rfl) | (apply WQ.no; exact rfl) | ((first | apply W1.bothT | apply W1.bothF | apply WQ.bothT | apply WQ.bothF | apply W.cond); exact rfl; all_goals intro hc; all_goals first | (cases hc; done) | ((try simp only [hc]); (try simp only [bm] at hc))) | refine WO.nil ?_ | refine WB.nil ?_ | refine WP.bag rfl ?_ | refine WP.nil ?_ | refine W.seq ?_ | refine W.reg ?_ | refine W.dreg ?_ | refine W.block ?_ | refine W.ret ?_ | refine W.skip ?_ | refine W.exit ?_ | (simp only [srow_len, List.length_map, Qit, Int.toNat_natCast, entry, Opd.eat, cellsOf, TV.ofCells, allAv, Qseq, Qblk, List.map_cons, List.map_nil, putD, kp, Nat.reduceEqDiff, ↓reduceIte, beq_self_eq_true, Nat.reduceBEq]))
  exact Qend.boo rfl rfl rfl
end Hm

/- Well shaped types, as the program has them: words, texts. Conditions: see each theorem. -/
namespace Hm
open Go (IntKind)
set_option maxHeartbeats 4000000
set_option maxRecDepth 4000
section
variable {T : Tab}
theorem sbare_ret (h : Fn T F.shape_piece_bare shape_piece_bare.fn) (t : Ty) : Ret T F.shape_piece_bare [.val t.av] (one (.bool (bare t))) := by
  have z : ∀ n : Nat, ((n : Int) == 0) = decide (n = 0) := fun n => by rw [Bool.eq_iff_iff]; simp
  have e1 := srow_len t.texts
  have e2 := sprow_len t.nums
  have s1 : srow t.texts = [] ↔ t.texts = [] := by rw [← List.length_eq_zero_iff, ← List.length_eq_zero_iff, e1]
  have s2 : sprow t.nums = [] ↔ t.nums = [] := by rw [← List.length_eq_zero_iff, ← List.length_eq_zero_iff, e2]
  refine Ret.mk h rfl ?_
  rw [Ty.av_eq]
  repeat' (first | refine WO.cons ?_ | refine WB.cons ?_ | refine WP.one ?_ | ((first | apply W1.add64 | apply W1.sub64); (iterate 3 exact rfl); omega; omega) | (apply W1.iadr; (iterate 3 exact rfl); omega; first | assumption | ((first | apply V.get_row | apply get_srow | apply get_ty | apply get_ar | apply get_ob | apply get_sprow | apply get_brow); assumption)) | (apply W1.idxS; (iterate 3 exact rfl); omega; omega) | (apply W1.slcS; (iterate 4 exact rfl); omega) | (apply W1.pickT; exact rfl; exact rfl; (first | with_reducible rfl | assumption | (simp only [bn]; first | omega | assumption | decide)); exact rfl) | (apply W1.pickF; exact rfl; exact rfl; (first | with_reducible rfl | assumption | (simp only [bn]; first | omega | assumption | decide)); exact rfl) | (apply W1.op; (iterate 3 exact rfl)) | (apply W1.no; exact rfl) | ((first | apply W1.knowT | apply W1.knowFn | apply WQ.knowT | apply WQ.knowFn | apply W.condT); exact rfl; (first | with_reducible rfl | assumption | (simp only [bn]; first | omega | assumption | decide))) | ((first | apply W1.knowTn | apply W1.knowF | apply WQ.knowTn | apply WQ.knowF | apply W.condF); exact rfl; (first | with_reducible rfl | assumption | (simp only [bn]; first | omega | assumption | decide))) | (apply WQ.go; exact rfl; exact rfl) | (apply WQ.no; exact rfl) | ((first | apply W1.bothT | apply W1.bothF | apply WQ.bothT | apply WQ.bothF | apply W.cond); exact rfl; all_goals intro hc; all_goals first | (cases hc; done) | ((try simp only [hc]); (try simp only [bm] at hc))) | refine WO.nil ?_ | refine WB.nil ?_ | refine WP.bag rfl ?_ | refine WP.nil ?_ | refine W.seq ?_ | refine W.reg ?_ | refine W.dreg ?_ | refine W.block ?_ | refine W.ret ?_ | refine W.skip ?_ | refine W.exit ?_ | (simp only [sprow_len, brow_len, srow_len, List.length_map, Qit, Int.toNat_natCast, entry, Opd.eat, cellsOf, TV.ofCells, allAv, Qseq, Qblk, List.map_cons, List.map_nil, putD, kp, Nat.reduceEqDiff, ↓reduceIte, beq_self_eq_true, Nat.reduceBEq]))
  all_goals refine Qend.boo rfl rfl ?_
  all_goals simp only [bare]
  all_goals clear h e1 e2
  all_goals first | (simp_all; done) | (rw [Bool.eq_iff_iff]; simp_all; done) | (simp_all [z]; done)
theorem snever_ret (h : Fn T F.shape_never shape_never.fn) (h1 : Fn T F.shape_piece_bare shape_piece_bare.fn) (t : Ty) : Ret T F.shape_never [.val t.av] (one (.bool (never t))) := by
  have r := sbare_ret h1 t
  refine Ret.mk h rfl ?_
  rw [Ty.av_eq] at *
  repeat' (first | refine WO.cons ?_ | refine WB.cons ?_ | refine WP.one ?_ | (first | (apply WQ.call (hm := h1.modes); (iterate 4 exact rfl)) | (apply W1.callV (hm := h1.modes); (iterate 5 exact rfl); exact (r); exact rfl)) | ((first | apply W1.add64 | apply W1.sub64); (iterate 3 exact rfl); omega; omega) | (apply W1.iadr; (iterate 3 exact rfl); omega; first | assumption | ((first | apply V.get_row | apply get_srow | apply get_ty | apply get_ar | apply get_ob | apply get_sprow | apply get_brow); assumption)) | (apply W1.idxS; (iterate 3 exact rfl); omega; omega) | (apply W1.slcS; (iterate 4 exact rfl); omega) | (apply W1.pickT; exact rfl; exact rfl; (first | with_reducible rfl | assumption | (simp only [bn]; first | omega | assumption | decide)); exact rfl) | (apply W1.pickF; exact rfl; exact rfl; (first | with_reducible rfl | assumption | (simp only [bn]; first | omega | assumption | decide)); exact rfl) | (apply W1.op; (iterate 3 exact rfl)) | (apply W1.no; exact rfl) | ((first | apply W1.knowT | apply W1.knowFn | apply WQ.knowT | apply WQ.knowFn | apply W.condT); exact rfl; (first | with_reducible rfl | assumption | (simp only [bn]; first | omega | assumption | decide))) | ((first | apply W1.knowTn | apply W1.knowF | apply WQ.knowTn | apply WQ.knowF | apply W.condF); exact rfl; (first | with_reducible rfl | assumption | (simp only [bn]; first | omega | assumption | decide))) | (apply WQ.go; exact rfl; exact rfl) | (apply WQ.no; exact rfl) | ((first | apply W1.bothT | apply W1.bothF | apply WQ.bothT | apply WQ.bothF | apply W.cond); exact rfl; all_goals intro hc; all_goals first | (cases hc; done) | ((try simp only [hc]); (try simp only [bm] at hc))) | refine WO.nil ?_ | refine WB.nil ?_ | refine WP.bag rfl ?_ | refine WP.nil ?_ | refine W.seq ?_ | refine W.reg ?_ | refine W.dreg ?_ | refine W.block ?_ | refine W.ret ?_ | refine W.skip ?_ | refine W.exit ?_ | (simp only [sprow_len, brow_len, srow_len, List.length_map, Qit, Int.toNat_natCast, entry, Opd.eat, cellsOf, TV.ofCells, allAv, Qseq, Qblk, List.map_cons, List.map_nil, putD, kp, Nat.reduceEqDiff, ↓reduceIte, beq_self_eq_true, Nat.reduceBEq]))
  all_goals refine Qend.boo rfl rfl ?_
  all_goals simp only [never]
  all_goals clear r
  all_goals first | (simp_all; done) | (rw [Bool.eq_iff_iff]; simp_all; done)
theorem severy_ret (h : Fn T F.shape_piece_every shape_piece_every.fn) (h1 : Fn T F.shape_piece_bare shape_piece_bare.fn) (t : Ty) : Ret T F.shape_piece_every [.val t.av] (one (.bool (!t.all || bare t))) := by
  have r := sbare_ret h1 t
  refine Ret.mk h rfl ?_
  rw [Ty.av_eq] at *
  repeat' (first | refine WO.cons ?_ | refine WB.cons ?_ | refine WP.one ?_ | (first | (apply WQ.call (hm := h1.modes); (iterate 4 exact rfl)) | (apply W1.callV (hm := h1.modes); (iterate 5 exact rfl); exact (r); exact rfl)) | ((first | apply W1.add64 | apply W1.sub64); (iterate 3 exact rfl); omega; omega) | (apply W1.iadr; (iterate 3 exact rfl); omega; first | assumption | ((first | apply V.get_row | apply get_srow | apply get_ty | apply get_ar | apply get_ob | apply get_sprow | apply get_brow); assumption)) | (apply W1.idxS; (iterate 3 exact rfl); omega; omega) | (apply W1.slcS; (iterate 4 exact rfl); omega) | (apply W1.pickT; exact rfl; exact rfl; (first | with_reducible rfl | assumption | (simp only [bn]; first | omega | assumption | decide)); exact rfl) | (apply W1.pickF; exact rfl; exact rfl; (first | with_reducible rfl | assumption | (simp only [bn]; first | omega | assumption | decide)); exact rfl) | (apply W1.op; (iterate 3 exact rfl)) | (apply W1.no; exact rfl) | ((first | apply W1.knowT | apply W1.knowFn | apply WQ.knowT | apply WQ.knowFn | apply W.condT); exact rfl; (first | with_reducible rfl | assumption | (simp only [bn]; first | omega | assumption | decide))) | ((first | apply W1.knowTn | apply W1.knowF | apply WQ.knowTn | apply WQ.knowF | apply W.condF); exact rfl; (first | with_reducible rfl | assumption | (simp only [bn]; first | omega | assumption | decide))) | (apply WQ.go; exact rfl; exact rfl) | (apply WQ.no; exact rfl) | ((first | apply W1.bothT | apply W1.bothF | apply WQ.bothT | apply WQ.bothF | apply W.cond); exact rfl; all_goals intro hc; all_goals first | (cases hc; done) | ((try simp only [hc]); (try simp only [bm] at hc))) | refine WO.nil ?_ | refine WB.nil ?_ | refine WP.bag rfl ?_ | refine WP.nil ?_ | refine W.seq ?_ | refine W.reg ?_ | refine W.dreg ?_ | refine W.block ?_ | refine W.ret ?_ | refine W.skip ?_ | refine W.exit ?_ | (simp only [sprow_len, brow_len, srow_len, List.length_map, Qit, Int.toNat_natCast, entry, Opd.eat, cellsOf, TV.ofCells, allAv, Qseq, Qblk, List.map_cons, List.map_nil, putD, kp, Nat.reduceEqDiff, ↓reduceIte, beq_self_eq_true, Nat.reduceBEq]))
  all_goals refine Qend.boo rfl rfl ?_
  all_goals clear r
  all_goals first | (simp_all; done) | (rw [Bool.eq_iff_iff]; simp_all; done)
theorem srise_ret (h : Fn T F.shape_rise shape_rise.fn) (hu : Fn T F.utf_Valid utf_Valid.fn) (hv : ValidOk T) (l : List Str) (hb : sbk l ≤ 1073741824) : Ret T F.shape_rise [.val (.lst 1 (srow l))] (one (.bool (rise l))) := by
  refine Ret.mk h rfl ?_
  have hl := len_sbk l
  have e1 := srow_len l
  repeat' (first | refine WO.cons ?_ | refine WB.cons ?_ | refine WP.one ?_ | ((first | apply W1.add64 | apply W1.sub64); (iterate 3 exact rfl); omega; omega) | (apply W1.iadr; (iterate 3 exact rfl); omega; first | assumption | ((first | apply V.get_row | apply get_srow | apply get_ty | apply get_ar | apply get_ob | apply get_sprow | apply get_brow); assumption)) | (apply W1.idxS; (iterate 3 exact rfl); omega; omega) | (apply W1.slcS; (iterate 4 exact rfl); omega) | (apply W1.pickT; exact rfl; exact rfl; (first | with_reducible rfl | assumption | (simp only [bn]; first | omega | assumption | decide)); exact rfl) | (apply W1.pickF; exact rfl; exact rfl; (first | with_reducible rfl | assumption | (simp only [bn]; first | omega | assumption | decide)); exact rfl) | (apply W1.op; (iterate 3 exact rfl)) | (apply W1.no; exact rfl) | ((first | apply W1.knowT | apply W1.knowFn | apply WQ.knowT | apply WQ.knowFn | apply W.condT); exact rfl; (first | with_reducible rfl | assumption | (simp only [bn]; first | omega | assumption | decide))) | ((first | apply W1.knowTn | apply W1.knowF | apply WQ.knowTn | apply WQ.knowF | apply W.condF); exact rfl; (first | with_reducible rfl | assumption | (simp only [bn]; first | omega | assumption | decide))) | (apply WQ.go; exact rfl; exact rfl) | (apply WQ.no; exact rfl) | ((first | apply W1.bothT | apply W1.bothF | apply WQ.bothT | apply WQ.bothF | apply W.cond); exact rfl; all_goals intro hc; all_goals first | (cases hc; done) | ((try simp only [hc]); (try simp only [bm] at hc))) | refine WO.nil ?_ | refine WB.nil ?_ | refine WP.bag rfl ?_ | refine WP.nil ?_ | refine W.seq ?_ | refine W.reg ?_ | refine W.dreg ?_ | refine W.block ?_ | refine W.ret ?_ | refine W.skip ?_ | refine W.exit ?_ | (simp only [sprow_len, brow_len, srow_len, List.length_map, Qit, Int.toNat_natCast, entry, Opd.eat, cellsOf, TV.ofCells, allAv, Qseq, Qblk, List.map_cons, List.map_nil, putD, kp, Nat.reduceEqDiff, ↓reduceIte, beq_self_eq_true, Nat.reduceBEq]))
  refine W.listP l (fun i (_ : Unit) s => s.put 7 (.av (.int .i64 (i : Int)))) (fun i _ => ∀ j < i, riseAt l j = true) () (by simp) rfl ?_ ?_
  · intro i x u hx hi hp
    have hsx := sbk_mem (List.mem_of_getElem? hx)
    have hret := hv x (by omega)
    have hgx : l.getD i [] = x := by simp [List.getD, hx]
    by_cases h0 : i = 0
    · subst h0
      repeat' (first | refine WO.cons ?_ | refine WB.cons ?_ | refine WP.one ?_ | (first | (apply WQ.call (hm := hu.modes); (iterate 4 exact rfl)) | (apply W1.callV (hm := hu.modes); (iterate 5 exact rfl); exact (hret); exact rfl)) | ((first | apply W1.add64 | apply W1.sub64); (iterate 3 exact rfl); omega; omega) | (apply W1.iadr; (iterate 3 exact rfl); omega; first | assumption | ((first | apply V.get_row | apply get_srow | apply get_ty | apply get_ar | apply get_ob | apply get_sprow | apply get_brow); assumption)) | (apply W1.idxS; (iterate 3 exact rfl); omega; omega) | (apply W1.slcS; (iterate 4 exact rfl); omega) | (apply W1.pickT; exact rfl; exact rfl; (first | with_reducible rfl | assumption | (simp only [bn]; first | omega | assumption | decide)); exact rfl) | (apply W1.pickF; exact rfl; exact rfl; (first | with_reducible rfl | assumption | (simp only [bn]; first | omega | assumption | decide)); exact rfl) | (apply W1.op; (iterate 3 exact rfl)) | (apply W1.no; exact rfl) | ((first | apply W1.knowT | apply W1.knowFn | apply WQ.knowT | apply WQ.knowFn | apply W.condT); exact rfl; (first | with_reducible rfl | assumption | (simp only [bn]; first | omega | assumption | decide))) | ((first | apply W1.knowTn | apply W1.knowF | apply WQ.knowTn | apply WQ.knowF | apply W.condF); exact rfl; (first | with_reducible rfl | assumption | (simp only [bn]; first | omega | assumption | decide))) | (apply WQ.go; exact rfl; exact rfl) | (apply WQ.no; exact rfl) | ((first | apply W1.bothT | apply W1.bothF | apply WQ.bothT | apply WQ.bothF | apply W.cond); exact rfl; all_goals intro hc; all_goals first | (cases hc; done) | ((try simp only [hc]); (try simp only [bm] at hc))) | refine WO.nil ?_ | refine WB.nil ?_ | refine WP.bag rfl ?_ | refine WP.nil ?_ | refine W.seq ?_ | refine W.reg ?_ | refine W.dreg ?_ | refine W.block ?_ | refine W.ret ?_ | refine W.skip ?_ | refine W.exit ?_ | (simp only [sprow_len, brow_len, srow_len, List.length_map, Qit, Int.toNat_natCast, entry, Opd.eat, cellsOf, TV.ofCells, allAv, Qseq, Qblk, List.map_cons, List.map_nil, putD, kp, Nat.reduceEqDiff, ↓reduceIte, beq_self_eq_true, Nat.reduceBEq]))
      all_goals clear hret hv
      all_goals first
        | (refine Qend.boo rfl rfl ?_; rw [rise_false hi (by simp_all [riseAt])]; done)
        | (refine ⟨(), fun j hj => ?_, rfl⟩; obtain rfl : j = 0 := by omega
           simp_all [riseAt]; done)
        | (exfalso; omega)
    · obtain ⟨y, hy⟩ : ∃ y, l[i - 1]? = some y := ⟨l[i - 1]'(by omega), List.getElem?_eq_getElem (by omega)⟩
      have hgy : l.getD (i - 1) [] = y := by simp [List.getD, hy]
      have hry : (srow l)[((i : Int) - 1).toNat]? = some [.str y] := by
        have : ((i : Int) - 1).toNat = i - 1 := by omega
        rw [this]; exact get_srow hy
      repeat' (first | refine WO.cons ?_ | refine WB.cons ?_ | refine WP.one ?_ | (first | (apply WQ.call (hm := hu.modes); (iterate 4 exact rfl)) | (apply W1.callV (hm := hu.modes); (iterate 5 exact rfl); exact (hret); exact rfl)) | ((first | apply W1.add64 | apply W1.sub64); (iterate 3 exact rfl); omega; omega) | (apply W1.iadr; (iterate 3 exact rfl); omega; first | assumption | ((first | apply V.get_row | apply get_srow | apply get_ty | apply get_ar | apply get_ob | apply get_sprow | apply get_brow); assumption)) | (apply W1.idxS; (iterate 3 exact rfl); omega; omega) | (apply W1.slcS; (iterate 4 exact rfl); omega) | (apply W1.pickT; exact rfl; exact rfl; (first | with_reducible rfl | assumption | (simp only [bn]; first | omega | assumption | decide)); exact rfl) | (apply W1.pickF; exact rfl; exact rfl; (first | with_reducible rfl | assumption | (simp only [bn]; first | omega | assumption | decide)); exact rfl) | (apply W1.op; (iterate 3 exact rfl)) | (apply W1.no; exact rfl) | ((first | apply W1.knowT | apply W1.knowFn | apply WQ.knowT | apply WQ.knowFn | apply W.condT); exact rfl; (first | with_reducible rfl | assumption | (simp only [bn]; first | omega | assumption | decide))) | ((first | apply W1.knowTn | apply W1.knowF | apply WQ.knowTn | apply WQ.knowF | apply W.condF); exact rfl; (first | with_reducible rfl | assumption | (simp only [bn]; first | omega | assumption | decide))) | (apply WQ.go; exact rfl; exact rfl) | (apply WQ.no; exact rfl) | ((first | apply W1.bothT | apply W1.bothF | apply WQ.bothT | apply WQ.bothF | apply W.cond); exact rfl; all_goals intro hc; all_goals first | (cases hc; done) | ((try simp only [hc]); (try simp only [bm] at hc))) | refine WO.nil ?_ | refine WB.nil ?_ | refine WP.bag rfl ?_ | refine WP.nil ?_ | refine W.seq ?_ | refine W.reg ?_ | refine W.dreg ?_ | refine W.block ?_ | refine W.ret ?_ | refine W.skip ?_ | refine W.exit ?_ | (simp only [sprow_len, brow_len, srow_len, List.length_map, Qit, Int.toNat_natCast, entry, Opd.eat, cellsOf, TV.ofCells, allAv, Qseq, Qblk, List.map_cons, List.map_nil, putD, kp, Nat.reduceEqDiff, ↓reduceIte, beq_self_eq_true, Nat.reduceBEq]))
      all_goals clear hret hv
      all_goals first
        | (refine Qend.boo rfl rfl ?_; rw [rise_false hi (by simp_all [riseAt])]; done)
        | (refine ⟨(), fun j hj => ?_, rfl⟩
           by_cases hji : j < i
           · exact hp j hji
           · obtain rfl : j = i := by omega
             simp_all [riseAt])
        | (exfalso; omega)
  · intro u hp
    repeat' (first | refine WO.cons ?_ | refine WB.cons ?_ | refine WP.one ?_ | ((first | apply W1.add64 | apply W1.sub64); (iterate 3 exact rfl); omega; omega) | (apply W1.iadr; (iterate 3 exact rfl); omega; first | assumption | ((first | apply V.get_row | apply get_srow | apply get_ty | apply get_ar | apply get_ob | apply get_sprow | apply get_brow); assumption)) | (apply W1.idxS; (iterate 3 exact rfl); omega; omega) | (apply W1.slcS; (iterate 4 exact rfl); omega) | (apply W1.pickT; exact rfl; exact rfl; (first | with_reducible rfl | assumption | (simp only [bn]; first | omega | assumption | decide)); exact rfl) | (apply W1.pickF; exact rfl; exact rfl; (first | with_reducible rfl | assumption | (simp only [bn]; first | omega | assumption | decide)); exact rfl) | (apply W1.op; (iterate 3 exact rfl)) | (apply W1.no; exact rfl) | ((first | apply W1.knowT | apply W1.knowFn | apply WQ.knowT | apply WQ.knowFn | apply W.condT); exact rfl; (first | with_reducible rfl | assumption | (simp only [bn]; first | omega | assumption | decide))) | ((first | apply W1.knowTn | apply W1.knowF | apply WQ.knowTn | apply WQ.knowF | apply W.condF); exact rfl; (first | with_reducible rfl | assumption | (simp only [bn]; first | omega | assumption | decide))) | (apply WQ.go; exact rfl; exact rfl) | (apply WQ.no; exact rfl) | ((first | apply W1.bothT | apply W1.bothF | apply WQ.bothT | apply WQ.bothF | apply W.cond); exact rfl; all_goals intro hc; all_goals first | (cases hc; done) | ((try simp only [hc]); (try simp only [bm] at hc))) | refine WO.nil ?_ | refine WB.nil ?_ | refine WP.bag rfl ?_ | refine WP.nil ?_ | refine W.seq ?_ | refine W.reg ?_ | refine W.dreg ?_ | refine W.block ?_ | refine W.ret ?_ | refine W.skip ?_ | refine W.exit ?_ | (simp only [sprow_len, brow_len, srow_len, List.length_map, Qit, Int.toNat_natCast, entry, Opd.eat, cellsOf, TV.ofCells, allAv, Qseq, Qblk, List.map_cons, List.map_nil, putD, kp, Nat.reduceEqDiff, ↓reduceIte, beq_self_eq_true, Nat.reduceBEq]))
    refine Qend.boo rfl rfl ?_
    rw [rise_true hp]
theorem stexts_ret (h : Fn T F.shape_piece_texts shape_piece_texts.fn) (h1 : Fn T F.shape_rise shape_rise.fn) (hu : Fn T F.utf_Valid utf_Valid.fn) (hv : ValidOk T) (t : Ty) (hb : t.bk ≤ 1073741824) :
    Ret T F.shape_piece_texts [.val t.av] (one (.bool (rise t.texts && (!t.anyText || decide (t.texts.length = 0))))) := by
  have hk := Ty.bk_eq t
  have r := srise_ret h1 hu hv t.texts (by omega)
  refine Ret.mk h rfl ?_
  rw [Ty.av_eq]
  repeat' (first | refine WO.cons ?_ | refine WB.cons ?_ | refine WP.one ?_ | (first | (apply WQ.call (hm := h1.modes); (iterate 4 exact rfl)) | (apply W1.callV (hm := h1.modes); (iterate 5 exact rfl); exact (r); exact rfl)) | ((first | apply W1.add64 | apply W1.sub64); (iterate 3 exact rfl); omega; omega) | (apply W1.iadr; (iterate 3 exact rfl); omega; first | assumption | ((first | apply V.get_row | apply get_srow | apply get_ty | apply get_ar | apply get_ob | apply get_sprow | apply get_brow); assumption)) | (apply W1.idxS; (iterate 3 exact rfl); omega; omega) | (apply W1.slcS; (iterate 4 exact rfl); omega) | (apply W1.pickT; exact rfl; exact rfl; (first | with_reducible rfl | assumption | (simp only [bn]; first | omega | assumption | decide)); exact rfl) | (apply W1.pickF; exact rfl; exact rfl; (first | with_reducible rfl | assumption | (simp only [bn]; first | omega | assumption | decide)); exact rfl) | (apply W1.op; (iterate 3 exact rfl)) | (apply W1.no; exact rfl) | ((first | apply W1.knowT | apply W1.knowFn | apply WQ.knowT | apply WQ.knowFn | apply W.condT); exact rfl; (first | with_reducible rfl | assumption | (simp only [bn]; first | omega | assumption | decide))) | ((first | apply W1.knowTn | apply W1.knowF | apply WQ.knowTn | apply WQ.knowF | apply W.condF); exact rfl; (first | with_reducible rfl | assumption | (simp only [bn]; first | omega | assumption | decide))) | (apply WQ.go; exact rfl; exact rfl) | (apply WQ.no; exact rfl) | ((first | apply W1.bothT | apply W1.bothF | apply WQ.bothT | apply WQ.bothF | apply W.cond); exact rfl; all_goals intro hc; all_goals first | (cases hc; done) | ((try simp only [hc]); (try simp only [bm] at hc))) | refine WO.nil ?_ | refine WB.nil ?_ | refine WP.bag rfl ?_ | refine WP.nil ?_ | refine W.seq ?_ | refine W.reg ?_ | refine W.dreg ?_ | refine W.block ?_ | refine W.ret ?_ | refine W.skip ?_ | refine W.exit ?_ | (simp only [sprow_len, brow_len, srow_len, List.length_map, Qit, Int.toNat_natCast, entry, Opd.eat, cellsOf, TV.ofCells, allAv, Qseq, Qblk, List.map_cons, List.map_nil, putD, kp, Nat.reduceEqDiff, ↓reduceIte, beq_self_eq_true, Nat.reduceBEq]))
  all_goals refine Qend.boo rfl rfl ?_
  all_goals clear r hv
  all_goals first | (simp_all; done) | (rw [Bool.eq_iff_iff]; simp_all; done) | (simp_all; omega) | (rw [Bool.eq_iff_iff]; simp_all; omega)
end
end Hm

/- Well shaped types, as the program has them: spans. Conditions: see each theorem. -/
namespace Hm
open Go (IntKind)
set_option maxHeartbeats 4000000
set_option maxRecDepth 4000
section
variable {T : Tab}
theorem swth_ret (h : Fn T F.shape_worth shape_worth.fn) (c2 : Fn T F.tens_Cmp tens_Cmp.fn) (c3 : Fn T F.tens_size tens_size.fn) (c4 : Fn T F.tens_split tens_split.fn) (c5 : Fn T F.tens_Formed tens_Formed.fn) (a b : Str) (ha : number a = true) (hb : number b = true) (hl : a.length ≤ 1073741824) (hl' : b.length ≤ 1073741824) :
    Ret T F.shape_worth [.val (.str a), .val (.str b)] (one (.int .i64 (zcmp a b))) := by
  have r := tensCmp_ret c2 c3 c4 c5 a b ha hb hl hl'
  refine Ret.mk h rfl ?_
  repeat' (first | refine WO.cons ?_ | refine WB.cons ?_ | refine WP.one ?_ | (first | (apply WQ.call (hm := c2.modes); (iterate 4 exact rfl)) | (apply W1.callV (hm := c2.modes); (iterate 5 exact rfl); exact (r); exact rfl)) | ((first | apply W1.add64 | apply W1.sub64); (iterate 3 exact rfl); omega; omega) | (apply W1.iadr; (iterate 3 exact rfl); omega; first | assumption | ((first | apply V.get_row | apply get_srow | apply get_ty | apply get_ar | apply get_ob | apply get_sprow | apply get_brow); assumption)) | (apply W1.idxS; (iterate 3 exact rfl); omega; omega) | (apply W1.slcS; (iterate 4 exact rfl); omega) | (apply W1.pickT; exact rfl; exact rfl; (first | with_reducible rfl | assumption | (simp only [bn]; first | omega | assumption | decide)); exact rfl) | (apply W1.pickF; exact rfl; exact rfl; (first | with_reducible rfl | assumption | (simp only [bn]; first | omega | assumption | decide)); exact rfl) | (apply W1.op; (iterate 3 exact rfl)) | (apply W1.no; exact rfl) | ((first | apply W1.knowT | apply W1.knowFn | apply WQ.knowT | apply WQ.knowFn | apply W.condT); exact rfl; (first | with_reducible rfl | assumption | (simp only [bn]; first | omega | assumption | decide))) | ((first | apply W1.knowTn | apply W1.knowF | apply WQ.knowTn | apply WQ.knowF | apply W.condF); exact rfl; (first | with_reducible rfl | assumption | (simp only [bn]; first | omega | assumption | decide))) | (apply WQ.go; exact rfl; exact rfl) | (apply WQ.no; exact rfl) | ((first | apply W1.bothT | apply W1.bothF | apply WQ.bothT | apply WQ.bothF | apply W.cond); exact rfl; all_goals intro hc; all_goals first | (cases hc; done) | ((try simp only [hc]); (try simp only [bm] at hc))) | refine WO.nil ?_ | refine WB.nil ?_ | refine WP.bag rfl ?_ | refine WP.nil ?_ | refine W.seq ?_ | refine W.reg ?_ | refine W.dreg ?_ | refine W.block ?_ | refine W.ret ?_ | refine W.skip ?_ | refine W.exit ?_ | (simp only [sprow_len, brow_len, srow_len, List.length_map, Qit, Int.toNat_natCast, entry, Opd.eat, cellsOf, TV.ofCells, allAv, Qseq, Qblk, List.map_cons, List.map_nil, putD, kp, Nat.reduceEqDiff, ↓reduceIte, beq_self_eq_true, Nat.reduceBEq]))
  exact Qend.num rfl rfl rfl
theorem snums_ret (h : Fn T F.shape_piece_nums shape_piece_nums.fn) (h0 : Fn T F.shape_worth shape_worth.fn) (c2 : Fn T F.tens_Cmp tens_Cmp.fn) (c3 : Fn T F.tens_size tens_size.fn) (c4 : Fn T F.tens_split tens_split.fn) (c5 : Fn T F.tens_Formed tens_Formed.fn) (t : Ty) (hb : t.bk ≤ 1073741824) :
    Ret T F.shape_piece_nums [.val t.av] (one (.bool (t.nums.all spanOk && decide (t.nums.length ≤ 1)))) := by
  have hk := Ty.bk_eq t
  have hl := len_spbk t.nums
  have e1 := sprow_len t.nums
  refine Ret.mk h rfl ?_
  rw [Ty.av_eq]
  repeat' (first | refine WO.cons ?_ | refine WB.cons ?_ | refine WP.one ?_ | ((first | apply W1.add64 | apply W1.sub64); (iterate 3 exact rfl); omega; omega) | (apply W1.iadr; (iterate 3 exact rfl); omega; first | assumption | ((first | apply V.get_row | apply get_srow | apply get_ty | apply get_ar | apply get_ob | apply get_sprow | apply get_brow); assumption)) | (apply W1.idxS; (iterate 3 exact rfl); omega; omega) | (apply W1.slcS; (iterate 4 exact rfl); omega) | (apply W1.pickT; exact rfl; exact rfl; (first | with_reducible rfl | assumption | (simp only [bn]; first | omega | assumption | decide)); exact rfl) | (apply W1.pickF; exact rfl; exact rfl; (first | with_reducible rfl | assumption | (simp only [bn]; first | omega | assumption | decide)); exact rfl) | (apply W1.op; (iterate 3 exact rfl)) | (apply W1.no; exact rfl) | ((first | apply W1.knowT | apply W1.knowFn | apply WQ.knowT | apply WQ.knowFn | apply W.condT); exact rfl; (first | with_reducible rfl | assumption | (simp only [bn]; first | omega | assumption | decide))) | ((first | apply W1.knowTn | apply W1.knowF | apply WQ.knowTn | apply WQ.knowF | apply W.condF); exact rfl; (first | with_reducible rfl | assumption | (simp only [bn]; first | omega | assumption | decide))) | (apply WQ.go; exact rfl; exact rfl) | (apply WQ.no; exact rfl) | ((first | apply W1.bothT | apply W1.bothF | apply WQ.bothT | apply WQ.bothF | apply W.cond); exact rfl; all_goals intro hc; all_goals first | (cases hc; done) | ((try simp only [hc]); (try simp only [bm] at hc))) | refine WO.nil ?_ | refine WB.nil ?_ | refine WP.bag rfl ?_ | refine WP.nil ?_ | refine W.seq ?_ | refine W.reg ?_ | refine W.dreg ?_ | refine W.block ?_ | refine W.ret ?_ | refine W.skip ?_ | refine W.exit ?_ | (simp only [sprow_len, brow_len, srow_len, List.length_map, Qit, Int.toNat_natCast, entry, Opd.eat, cellsOf, TV.ofCells, allAv, Qseq, Qblk, List.map_cons, List.map_nil, putD, kp, Nat.reduceEqDiff, ↓reduceIte, beq_self_eq_true, Nat.reduceBEq]))
  refine W.listP t.nums (fun i (_ : Unit) s => s.put 10 (.av (.int .i64 (i : Int)))) (fun i _ => (t.nums.take i).all spanOk = true) () (by simp) rfl ?_ ?_
  · intro i x u hx hi hp
    have hsx := spbk_mem (List.mem_of_getElem? hx)
    have r1 := tensFormed_ret c5 x.1 (by omega)
    have r2 := tensFormed_ret c5 x.2 (by omega)
    have r3 := fun p q => swth_ret h0 c2 c3 c4 c5 x.1 x.2 p q (by omega) (by omega)
    have hso : spanOk x = (boundOk x.1 && boundOk x.2 && !(!(x.1 == []) && !(x.2 == []) && decide (zcmp x.1 x.2 > 0))) := rfl
    simp only [boundOk] at hso
    by_cases n1 : number x.1 = true <;> by_cases n2 : number x.2 = true
    · have r3' := r3 n1 n2
      rw [n1] at r1
      rw [n2] at r2
      clear r3
      generalize zcmp x.1 x.2 = z at *
      repeat' (first | refine WO.cons ?_ | refine WB.cons ?_ | refine WP.one ?_ | (first | (apply WQ.call (hm := c5.modes); (iterate 4 exact rfl)) | (apply W1.callV (hm := c5.modes); (iterate 5 exact rfl); exact (r1); exact rfl)) | (first | (apply WQ.call (hm := c5.modes); (iterate 4 exact rfl)) | (apply W1.callV (hm := c5.modes); (iterate 5 exact rfl); exact (r2); exact rfl)) | (first | (apply WQ.call (hm := h0.modes); (iterate 4 exact rfl)) | (apply W1.callV (hm := h0.modes); (iterate 5 exact rfl); exact (r3'); exact rfl)) | ((first | apply W1.add64 | apply W1.sub64); (iterate 3 exact rfl); omega; omega) | (apply W1.iadr; (iterate 3 exact rfl); omega; first | assumption | ((first | apply V.get_row | apply get_srow | apply get_ty | apply get_ar | apply get_ob | apply get_sprow | apply get_brow); assumption)) | (apply W1.idxS; (iterate 3 exact rfl); omega; omega) | (apply W1.slcS; (iterate 4 exact rfl); omega) | (apply W1.pickT; exact rfl; exact rfl; (first | with_reducible rfl | assumption | (simp only [bn]; first | omega | assumption | decide)); exact rfl) | (apply W1.pickF; exact rfl; exact rfl; (first | with_reducible rfl | assumption | (simp only [bn]; first | omega | assumption | decide)); exact rfl) | (apply W1.op; (iterate 3 exact rfl)) | (apply W1.no; exact rfl) | ((first | apply W1.knowT | apply W1.knowFn | apply WQ.knowT | apply WQ.knowFn | apply W.condT); exact rfl; (first | with_reducible rfl | assumption | (simp only [bn]; first | omega | assumption | decide))) | ((first | apply W1.knowTn | apply W1.knowF | apply WQ.knowTn | apply WQ.knowF | apply W.condF); exact rfl; (first | with_reducible rfl | assumption | (simp only [bn]; first | omega | assumption | decide))) | (apply WQ.go; exact rfl; exact rfl) | (apply WQ.no; exact rfl) | ((first | apply W1.bothT | apply W1.bothF | apply WQ.bothT | apply WQ.bothF | apply W.cond); exact rfl; all_goals intro hc; all_goals first | (cases hc; done) | ((try simp only [hc]); (try simp only [bm] at hc))) | refine WO.nil ?_ | refine WB.nil ?_ | refine WP.bag rfl ?_ | refine WP.nil ?_ | refine W.seq ?_ | refine W.reg ?_ | refine W.dreg ?_ | refine W.block ?_ | refine W.ret ?_ | refine W.skip ?_ | refine W.exit ?_ | (simp only [sprow_len, brow_len, srow_len, List.length_map, Qit, Int.toNat_natCast, entry, Opd.eat, cellsOf, TV.ofCells, allAv, Qseq, Qblk, List.map_cons, List.map_nil, putD, kp, Nat.reduceEqDiff, ↓reduceIte, beq_self_eq_true, Nat.reduceBEq]))
      all_goals clear r1 r2 r3'
      all_goals first
        | (refine ⟨(), ?_, rfl⟩; rw [all_take_succ hx, hp, hso]; simp_all; done)
        | (refine ⟨(), ?_, rfl⟩; rw [all_take_succ hx, hp, hso]; simp_all; omega)
        | (refine Qend.boo rfl rfl ?_; rw [all_false hx (by rw [hso]; simp_all; done)]; rfl)
        | (refine Qend.boo rfl rfl ?_; rw [all_false hx (by rw [hso]; simp_all; omega)]; rfl)
        | (exfalso; simp_all; done)
        | (exfalso; simp_all; omega)
    all_goals (try rw [Bool.not_eq_true] at n1)
    all_goals (try rw [Bool.not_eq_true] at n2)
    all_goals rw [n1] at r1
    all_goals rw [n2] at r2
    all_goals clear r3
    all_goals (repeat' (first | refine WO.cons ?_ | refine WB.cons ?_ | refine WP.one ?_ | (first | (apply WQ.call (hm := c5.modes); (iterate 4 exact rfl)) | (apply W1.callV (hm := c5.modes); (iterate 5 exact rfl); exact (r1); exact rfl)) | (first | (apply WQ.call (hm := c5.modes); (iterate 4 exact rfl)) | (apply W1.callV (hm := c5.modes); (iterate 5 exact rfl); exact (r2); exact rfl)) | ((first | apply W1.add64 | apply W1.sub64); (iterate 3 exact rfl); omega; omega) | (apply W1.iadr; (iterate 3 exact rfl); omega; first | assumption | ((first | apply V.get_row | apply get_srow | apply get_ty | apply get_ar | apply get_ob | apply get_sprow | apply get_brow); assumption)) | (apply W1.idxS; (iterate 3 exact rfl); omega; omega) | (apply W1.slcS; (iterate 4 exact rfl); omega) | (apply W1.pickT; exact rfl; exact rfl; (first | with_reducible rfl | assumption | (simp only [bn]; first | omega | assumption | decide)); exact rfl) | (apply W1.pickF; exact rfl; exact rfl; (first | with_reducible rfl | assumption | (simp only [bn]; first | omega | assumption | decide)); exact rfl) | (apply W1.op; (iterate 3 exact rfl)) | (apply W1.no; exact rfl) | ((first | apply W1.knowT | apply W1.knowFn | apply WQ.knowT | apply WQ.knowFn | apply W.condT); exact rfl; (first | with_reducible rfl | assumption | (simp only [bn]; first | omega | assumption | decide))) | ((first | apply W1.knowTn | apply W1.knowF | apply WQ.knowTn | apply WQ.knowF | apply W.condF); exact rfl; (first | with_reducible rfl | assumption | (simp only [bn]; first | omega | assumption | decide))) | (apply WQ.go; exact rfl; exact rfl) | (apply WQ.no; exact rfl) | ((first | apply W1.bothT | apply W1.bothF | apply WQ.bothT | apply WQ.bothF | apply W.cond); exact rfl; all_goals intro hc; all_goals first | (cases hc; done) | ((try simp only [hc]); (try simp only [bm] at hc))) | refine WO.nil ?_ | refine WB.nil ?_ | refine WP.bag rfl ?_ | refine WP.nil ?_ | refine W.seq ?_ | refine W.reg ?_ | refine W.dreg ?_ | refine W.block ?_ | refine W.ret ?_ | refine W.skip ?_ | refine W.exit ?_ | (simp only [sprow_len, brow_len, srow_len, List.length_map, Qit, Int.toNat_natCast, entry, Opd.eat, cellsOf, TV.ofCells, allAv, Qseq, Qblk, List.map_cons, List.map_nil, putD, kp, Nat.reduceEqDiff, ↓reduceIte, beq_self_eq_true, Nat.reduceBEq])))
    all_goals clear r1 r2
    all_goals first
        | (refine ⟨(), ?_, rfl⟩; rw [all_take_succ hx, hp, hso]; simp_all; done)
        | (refine Qend.boo rfl rfl ?_; rw [all_false hx (by rw [hso]; simp_all; done)]; rfl)
        | (exfalso; simp_all; done)
  · intro u hp
    rw [List.take_length] at hp
    repeat' (first | refine WO.cons ?_ | refine WB.cons ?_ | refine WP.one ?_ | ((first | apply W1.add64 | apply W1.sub64); (iterate 3 exact rfl); omega; omega) | (apply W1.iadr; (iterate 3 exact rfl); omega; first | assumption | ((first | apply V.get_row | apply get_srow | apply get_ty | apply get_ar | apply get_ob | apply get_sprow | apply get_brow); assumption)) | (apply W1.idxS; (iterate 3 exact rfl); omega; omega) | (apply W1.slcS; (iterate 4 exact rfl); omega) | (apply W1.pickT; exact rfl; exact rfl; (first | with_reducible rfl | assumption | (simp only [bn]; first | omega | assumption | decide)); exact rfl) | (apply W1.pickF; exact rfl; exact rfl; (first | with_reducible rfl | assumption | (simp only [bn]; first | omega | assumption | decide)); exact rfl) | (apply W1.op; (iterate 3 exact rfl)) | (apply W1.no; exact rfl) | ((first | apply W1.knowT | apply W1.knowFn | apply WQ.knowT | apply WQ.knowFn | apply W.condT); exact rfl; (first | with_reducible rfl | assumption | (simp only [bn]; first | omega | assumption | decide))) | ((first | apply W1.knowTn | apply W1.knowF | apply WQ.knowTn | apply WQ.knowF | apply W.condF); exact rfl; (first | with_reducible rfl | assumption | (simp only [bn]; first | omega | assumption | decide))) | (apply WQ.go; exact rfl; exact rfl) | (apply WQ.no; exact rfl) | ((first | apply W1.bothT | apply W1.bothF | apply WQ.bothT | apply WQ.bothF | apply W.cond); exact rfl; all_goals intro hc; all_goals first | (cases hc; done) | ((try simp only [hc]); (try simp only [bm] at hc))) | refine WO.nil ?_ | refine WB.nil ?_ | refine WP.bag rfl ?_ | refine WP.nil ?_ | refine W.seq ?_ | refine W.reg ?_ | refine W.dreg ?_ | refine W.block ?_ | refine W.ret ?_ | refine W.skip ?_ | refine W.exit ?_ | (simp only [sprow_len, brow_len, srow_len, List.length_map, Qit, Int.toNat_natCast, entry, Opd.eat, cellsOf, TV.ofCells, allAv, Qseq, Qblk, List.map_cons, List.map_nil, putD, kp, Nat.reduceEqDiff, ↓reduceIte, beq_self_eq_true, Nat.reduceBEq]))
    refine Qend.boo rfl rfl ?_
    rw [hp]
    first | rfl | (rw [Bool.eq_iff_iff]; simp; omega) | simp
end
end Hm

/- Well shaped types, as the program has them: rows and objects. Conditions: see each theorem. -/
namespace Hm
open Go (IntKind)
set_option maxHeartbeats 4000000
set_option maxRecDepth 4000
def FormedS (T : Tab) (v : Ty) : Prop := Ret T F.shape_Formed [.val v.av] (one (.bool (tformed v)))
theorem sarrays_of {T : Tab} (h : Fn T F.shape_piece_arrays shape_piece_arrays.fn) (hf : Fn T F.shape_Formed shape_Formed.fn) (h1 : Fn T F.shape_never shape_never.fn) (h2 : Fn T F.shape_piece_bare shape_piece_bare.fn)
    (t : Ty) (hb : t.bk ≤ 1073741824) (ih : ∀ x ∈ t.arrays, FormedS T x.item) : Ret T F.shape_piece_arrays [.val t.av] (one (.bool (decide (t.arrays.length ≤ 1) && t.arrays.all arOk))) := by
  refine Ret.mk h rfl ?_
  have hbk := Ty.bk_eq t
  have hl := len_arBks t.arrays
  have e1 : (t.arrays.map Ar.row).length = t.arrays.length := List.length_map ..
  have z : ∀ n : Int, (n == 0) = decide (n = 0) := fun n => by rw [Bool.eq_iff_iff]; simp
  rw [Ty.av_eq]
  repeat' (first | refine WO.cons ?_ | refine WB.cons ?_ | refine WP.one ?_ | ((first | apply W1.add64 | apply W1.sub64); (iterate 3 exact rfl); omega; omega) | (apply W1.iadr; (iterate 3 exact rfl); omega; first | assumption | ((first | apply V.get_row | apply get_srow | apply get_ty | apply get_ar | apply get_ob | apply get_sprow | apply get_brow); assumption)) | (apply W1.idxS; (iterate 3 exact rfl); omega; omega) | (apply W1.slcS; (iterate 4 exact rfl); omega) | (apply W1.pickT; exact rfl; exact rfl; (first | with_reducible rfl | assumption | (simp only [bn]; first | omega | assumption | decide)); exact rfl) | (apply W1.pickF; exact rfl; exact rfl; (first | with_reducible rfl | assumption | (simp only [bn]; first | omega | assumption | decide)); exact rfl) | (apply W1.op; (iterate 3 exact rfl)) | (apply W1.no; exact rfl) | ((first | apply W1.knowT | apply W1.knowFn | apply WQ.knowT | apply WQ.knowFn | apply W.condT); exact rfl; (first | with_reducible rfl | assumption | (simp only [bn]; first | omega | assumption | decide))) | ((first | apply W1.knowTn | apply W1.knowF | apply WQ.knowTn | apply WQ.knowF | apply W.condF); exact rfl; (first | with_reducible rfl | assumption | (simp only [bn]; first | omega | assumption | decide))) | (apply WQ.go; exact rfl; exact rfl) | (apply WQ.no; exact rfl) | ((first | apply W1.bothT | apply W1.bothF | apply WQ.bothT | apply WQ.bothF | apply W.cond); exact rfl; all_goals intro hc; all_goals first | (cases hc; done) | ((try simp only [hc]); (try simp only [bm] at hc))) | refine WO.nil ?_ | refine WB.nil ?_ | refine WP.bag rfl ?_ | refine WP.nil ?_ | refine W.seq ?_ | refine W.reg ?_ | refine W.dreg ?_ | refine W.block ?_ | refine W.ret ?_ | refine W.skip ?_ | refine W.exit ?_ | (simp only [sprow_len, brow_len, srow_len, List.length_map, Qit, Int.toNat_natCast, entry, Opd.eat, cellsOf, TV.ofCells, allAv, Qseq, Qblk, List.map_cons, List.map_nil, putD, kp, Nat.reduceEqDiff, ↓reduceIte, beq_self_eq_true, Nat.reduceBEq]))
  refine W.listP t.arrays (fun i (_ : Unit) s => s.put 8 (.av (.int .i64 (i : Int)))) (fun i _ => (t.arrays.take i).all arOk = true) () (by simp) rfl ?_ ?_
  · intro i x u hx hi hp
    have r1 := ih x (List.mem_of_getElem? hx)
    have r2 := snever_ret h1 h2 x.item
    rw [FormedS, Ty.av_eq] at r1
    rw [Ty.av_eq] at r2
    repeat' (first | refine WO.cons ?_ | refine WB.cons ?_ | refine WP.one ?_ | (first | (apply WQ.call (hm := hf.modes); (iterate 4 exact rfl)) | (apply W1.callV (hm := hf.modes); (iterate 5 exact rfl); exact (r1); exact rfl)) | (first | (apply WQ.call (hm := h1.modes); (iterate 4 exact rfl)) | (apply W1.callV (hm := h1.modes); (iterate 5 exact rfl); exact (r2); exact rfl)) | ((first | apply W1.add64 | apply W1.sub64); (iterate 3 exact rfl); omega; omega) | (apply W1.iadr; (iterate 3 exact rfl); omega; first | assumption | ((first | apply V.get_row | apply get_srow | apply get_ty | apply get_ar | apply get_ob | apply get_sprow | apply get_brow); assumption)) | (apply W1.idxS; (iterate 3 exact rfl); omega; omega) | (apply W1.slcS; (iterate 4 exact rfl); omega) | (apply W1.pickT; exact rfl; exact rfl; (first | with_reducible rfl | assumption | (simp only [bn]; first | omega | assumption | decide)); exact rfl) | (apply W1.pickF; exact rfl; exact rfl; (first | with_reducible rfl | assumption | (simp only [bn]; first | omega | assumption | decide)); exact rfl) | (apply W1.op; (iterate 3 exact rfl)) | (apply W1.no; exact rfl) | ((first | apply W1.knowT | apply W1.knowFn | apply WQ.knowT | apply WQ.knowFn | apply W.condT); exact rfl; (first | with_reducible rfl | assumption | (simp only [bn]; first | omega | assumption | decide))) | ((first | apply W1.knowTn | apply W1.knowF | apply WQ.knowTn | apply WQ.knowF | apply W.condF); exact rfl; (first | with_reducible rfl | assumption | (simp only [bn]; first | omega | assumption | decide))) | (apply WQ.go; exact rfl; exact rfl) | (apply WQ.no; exact rfl) | ((first | apply W1.bothT | apply W1.bothF | apply WQ.bothT | apply WQ.bothF | apply W.cond); exact rfl; all_goals intro hc; all_goals first | (cases hc; done) | ((try simp only [hc]); (try simp only [bm] at hc))) | refine WO.nil ?_ | refine WB.nil ?_ | refine WP.bag rfl ?_ | refine WP.nil ?_ | refine W.seq ?_ | refine W.reg ?_ | refine W.dreg ?_ | refine W.block ?_ | refine W.ret ?_ | refine W.skip ?_ | refine W.exit ?_ | (simp only [sprow_len, brow_len, srow_len, List.length_map, Qit, Int.toNat_natCast, entry, Opd.eat, cellsOf, TV.ofCells, allAv, Qseq, Qblk, List.map_cons, List.map_nil, putD, kp, Nat.reduceEqDiff, ↓reduceIte, beq_self_eq_true, Nat.reduceBEq]))
    all_goals clear r1 r2 ih
    all_goals first
      | (exfalso; simp_all; done)
      | (refine ⟨(), ?_, rfl⟩; rw [all_take_succ hx, hp, arOk_eq]; simp_all; done)
      | (refine ⟨(), ?_, rfl⟩; rw [all_take_succ hx, hp, arOk_eq]; simp_all; omega)
      | (refine Qend.boo rfl rfl ?_; rw [all_false hx (by rw [arOk_eq]; simp_all; done), Bool.and_false]; done)
      | (refine Qend.boo rfl rfl ?_; rw [all_false hx (by rw [arOk_eq]; simp_all; omega), Bool.and_false]; done)
      | skip
  · intro u hp
    rw [List.take_length] at hp
    repeat' (first | refine WO.cons ?_ | refine WB.cons ?_ | refine WP.one ?_ | ((first | apply W1.add64 | apply W1.sub64); (iterate 3 exact rfl); omega; omega) | (apply W1.iadr; (iterate 3 exact rfl); omega; first | assumption | ((first | apply V.get_row | apply get_srow | apply get_ty | apply get_ar | apply get_ob | apply get_sprow | apply get_brow); assumption)) | (apply W1.idxS; (iterate 3 exact rfl); omega; omega) | (apply W1.slcS; (iterate 4 exact rfl); omega) | (apply W1.pickT; exact rfl; exact rfl; (first | with_reducible rfl | assumption | (simp only [bn]; first | omega | assumption | decide)); exact rfl) | (apply W1.pickF; exact rfl; exact rfl; (first | with_reducible rfl | assumption | (simp only [bn]; first | omega | assumption | decide)); exact rfl) | (apply W1.op; (iterate 3 exact rfl)) | (apply W1.no; exact rfl) | ((first | apply W1.knowT | apply W1.knowFn | apply WQ.knowT | apply WQ.knowFn | apply W.condT); exact rfl; (first | with_reducible rfl | assumption | (simp only [bn]; first | omega | assumption | decide))) | ((first | apply W1.knowTn | apply W1.knowF | apply WQ.knowTn | apply WQ.knowF | apply W.condF); exact rfl; (first | with_reducible rfl | assumption | (simp only [bn]; first | omega | assumption | decide))) | (apply WQ.go; exact rfl; exact rfl) | (apply WQ.no; exact rfl) | ((first | apply W1.bothT | apply W1.bothF | apply WQ.bothT | apply WQ.bothF | apply W.cond); exact rfl; all_goals intro hc; all_goals first | (cases hc; done) | ((try simp only [hc]); (try simp only [bm] at hc))) | refine WO.nil ?_ | refine WB.nil ?_ | refine WP.bag rfl ?_ | refine WP.nil ?_ | refine W.seq ?_ | refine W.reg ?_ | refine W.dreg ?_ | refine W.block ?_ | refine W.ret ?_ | refine W.skip ?_ | refine W.exit ?_ | (simp only [sprow_len, brow_len, srow_len, List.length_map, Qit, Int.toNat_natCast, entry, Opd.eat, cellsOf, TV.ofCells, allAv, Qseq, Qblk, List.map_cons, List.map_nil, putD, kp, Nat.reduceEqDiff, ↓reduceIte, beq_self_eq_true, Nat.reduceBEq]))
    all_goals refine Qend.boo rfl rfl ?_
    all_goals rw [hp, Bool.and_true]
    all_goals first | (rw [Bool.eq_iff_iff]; simp; done) | (rw [Bool.eq_iff_iff]; simp; omega) | (simp_all; omega) | skip
end Hm
