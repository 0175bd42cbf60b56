/- What the law answers on the abstract machine. Conditions: see each theorem. -/
import Derived.Test.YtkjppfdcnfiaeaaDoorVKinds2
set_option linter.unusedVariables false
set_option linter.unusedSimpArgs false
/- Which types are well shaped, as the program's reference has it. Conditions: see each theorem. -/
namespace Hm
open Go (IntKind)
set_option maxHeartbeats 4000000
set_option maxRecDepth 4000
mutual
def tformed : Ty → Bool
  | .mk a n f t ns at' ts as os => !(a && !bare (.mk a n f t ns at' ts as os)) && !(!rise ts || (at' && decide (0 < ts.length))) && (spansOk ns && (decide (as.length ≤ 1) && arsOk as && obsOk os))
def arOk : Ar → Bool
  | .mk i mn mx => !(decide (mn < 0) || decide (mx < -1) || (decide (mx ≥ 0) && decide (mx < mn))) && (tformed i && never i == decide (mx = 0))
def obOk : Ob → Bool
  | .mk ns fs ms r => decide (ns.length = fs.length) && decide (ns.length = ms.length) && rise ns && tformed r && fieldsOk fs ms
def arsOk : List Ar → Bool
  | [] => true
  | x :: r => arOk x && arsOk r
def obsOk : List Ob → Bool
  | [] => true
  | x :: r => obOk x && obsOk r
def fieldsOk : List Ty → List Bool → Bool
  | [], _ => true
  | f :: fs, ms => tformed f && !(ms.headD false && never f) && fieldsOk fs ms.tail
end
theorem arsOk_eq (l : List Ar) : arsOk l = l.all arOk := by
  induction l with
  | nil => rfl
  | cons x l ih => simp only [arsOk, List.all_cons, ih]
theorem obsOk_eq (l : List Ob) : obsOk l = l.all obOk := by
  induction l with
  | nil => rfl
  | cons x l ih => simp only [obsOk, List.all_cons, ih]
theorem tformed_eq (v : Ty) : tformed v = (!(v.all && !bare v) && !(!rise v.texts || (v.anyText && decide (0 < v.texts.length))) && (spansOk v.nums && (decide (v.arrays.length ≤ 1) && v.arrays.all arOk && v.objects.all obOk))) := by
  cases v; simp only [tformed, arsOk_eq, obsOk_eq, Ty.all, Ty.texts, Ty.anyText, Ty.nums, Ty.arrays, Ty.objects]; rfl
theorem arOk_eq (x : Ar) : arOk x = (!(decide (x.min < 0) || decide (x.max < -1) || (decide (x.max ≥ 0) && decide (x.max < x.min))) && (tformed x.item && never x.item == decide (x.max = 0))) := by
  cases x; simp only [arOk, Ar.min, Ar.max, Ar.item]; rfl
theorem obOk_eq (x : Ob) : obOk x = (decide (x.names.length = x.fields.length) && decide (x.names.length = x.must.length) && rise x.names && tformed x.rest && fieldsOk x.fields x.must) := by
  cases x; simp only [obOk, Ob.names, Ob.fields, Ob.must, Ob.rest]; rfl
theorem fieldsOk_take_succ : ∀ {l : List Ty} {ms : List Bool} {i : Nat} {x : Ty} {b : Bool}, l[i]? = some x → ms[i]? = some b → fieldsOk (l.take (i + 1)) ms = (fieldsOk (l.take i) ms && (tformed x && !(b && never x)))
  | [], ms, i, x, b, h, _ => by simp at h
  | y :: l, [], i, x, b, _, h => by simp at h
  | y :: l, m :: ms, 0, x, b, h, h' => by
    simp only [List.getElem?_cons_zero, Option.some.injEq] at h h'
    subst h h'
    simp [fieldsOk]
  | y :: l, m :: ms, i + 1, x, b, h, h' => by
    simp only [List.getElem?_cons_succ] at h h'
    have := fieldsOk_take_succ h h'
    simp only [List.take_succ_cons, fieldsOk, List.tail_cons, this, Bool.and_assoc]
theorem fieldsOk_split : ∀ (l : List Ty) (ms : List Bool) (i : Nat), fieldsOk l ms = (fieldsOk (l.take i) ms && fieldsOk (l.drop i) (ms.drop i))
  | [], ms, i => by simp [fieldsOk]
  | y :: l, ms, 0 => by simp [fieldsOk]
  | y :: l, [], i + 1 => by
    have := fieldsOk_split l [] i
    simp only [List.drop_nil] at this
    simp only [List.take_succ_cons, List.drop_succ_cons, fieldsOk, List.tail_nil, List.drop_nil]
    rw [this, Bool.and_assoc]; simp [Bool.and_assoc]
  | y :: l, m :: ms, i + 1 => by
    have := fieldsOk_split l ms i
    simp only [List.take_succ_cons, List.drop_succ_cons, fieldsOk, List.tail_cons, this, Bool.and_assoc]
theorem fieldsOk_false {l : List Ty} {ms : List Bool} {i : Nat} {x : Ty} {b : Bool} (h : l[i]? = some x) (hm : ms[i]? = some b) (hx : (tformed x && !(b && never x)) = false) : fieldsOk l ms = false := by
  rw [fieldsOk_split l ms (i + 1), fieldsOk_take_succ h hm, hx]; simp
def Formed9 (T : Tab) (v : Ty) : Prop := Ret T F.hallmarkref09_Formed [.val v.av] (one (.bool (tformed v)))
theorem refArrays_of {T : Tab} (h : Fn T F.hallmarkref09_arrays hallmarkref09_arrays.fn) (hf : Fn T F.hallmarkref09_Formed hallmarkref09_Formed.fn) (h1 : Fn T F.hallmarkref09_Never hallmarkref09_Never.fn) (h2 : Fn T F.hallmarkref09_Bare hallmarkref09_Bare.fn)
    (l : List Ar) (hb : arBks l ≤ 1073741824) (ih : ∀ x ∈ l, Formed9 T x.item) : Ret T F.hallmarkref09_arrays [.val (.lst 11 (l.map Ar.row))] (one (.bool (decide (l.length ≤ 1) && l.all arOk))) := by
  refine Ret.mk h rfl ?_
  have hl := len_arBks l
  have e1 : (l.map Ar.row).length = l.length := List.length_map ..
  have z : ∀ n : Int, (n == 0) = decide (n = 0) := fun n => by rw [Bool.eq_iff_iff]; simp
  by_cases hle : l.length ≤ 1
  · have hd : decide (l.length ≤ 1) = true := decide_eq_true hle
    rw [hd, Bool.true_and]
    repeat' (first | refine WO.cons ?_ | refine WB.cons ?_ | refine WP.one ?_ | ((first | apply W1.add64 | apply W1.sub64); (iterate 3 exact rfl); omega; omega) | (apply W1.iadr; (iterate 3 exact rfl); omega; first | assumption | ((first | apply V.get_row | apply get_srow | apply get_ty | apply get_ar | apply get_ob | apply get_sprow | apply get_brow); assumption)) | (apply W1.idxS; (iterate 3 exact rfl); omega; omega) | (apply W1.slcS; (iterate 4 exact rfl); omega) | (apply W1.pickT; exact rfl; exact rfl; (first | with_reducible rfl | assumption | (simp only [bn]; first | omega | assumption | decide)); exact rfl) | (apply W1.pickF; exact rfl; exact rfl; (first | with_reducible rfl | assumption | (simp only [bn]; first | omega | assumption | decide)); exact rfl) | (apply W1.op; (iterate 3 exact rfl)) | (apply W1.no; exact rfl) | ((first | apply W1.knowT | apply W1.knowFn | apply WQ.knowT | apply WQ.knowFn | apply W.condT); exact rfl; (first | with_reducible rfl | assumption | (simp only [bn]; first | omega | assumption | decide))) | ((first | apply W1.knowTn | apply W1.knowF | apply WQ.knowTn | apply WQ.knowF | apply W.condF); exact rfl; (first | with_reducible rfl | assumption | (simp only [bn]; first | omega | assumption | decide))) | (apply WQ.go; exact rfl; exact rfl) | (apply WQ.no; exact rfl) | ((first | apply W1.bothT | apply W1.bothF | apply WQ.bothT | apply WQ.bothF | apply W.cond); exact rfl; all_goals intro hc; all_goals first | (cases hc; done) | ((try simp only [hc]); (try simp only [bm] at hc))) | refine WO.nil ?_ | refine WB.nil ?_ | refine WP.bag rfl ?_ | refine WP.nil ?_ | refine W.seq ?_ | refine W.reg ?_ | refine W.dreg ?_ | refine W.block ?_ | refine W.ret ?_ | refine W.skip ?_ | refine W.exit ?_ | (simp only [sprow_len, brow_len, srow_len, List.length_map, Qit, Int.toNat_natCast, entry, Opd.eat, cellsOf, TV.ofCells, allAv, Qseq, Qblk, List.map_cons, List.map_nil, putD, kp, Nat.reduceEqDiff, ↓reduceIte, beq_self_eq_true, Nat.reduceBEq]))
    refine W.listP l (fun i (_ : Unit) s => s.put 3 (.av (.int .i64 (i : Int)))) (fun i _ => (l.take i).all arOk = true) () (by simp) rfl ?_ ?_
    · intro i x u hx hi hp
      have r1 := ih x (List.mem_of_getElem? hx)
      have r2 := refNever_ret h1 h2 x.item
      rw [Formed9, Ty.av_eq] at r1
      rw [Ty.av_eq] at r2
      repeat' (first | refine WO.cons ?_ | refine WB.cons ?_ | refine WP.one ?_ | (first | (apply WQ.call (hm := hf.modes); (iterate 4 exact rfl)) | (apply W1.callV (hm := hf.modes); (iterate 5 exact rfl); exact (r1); exact rfl)) | (first | (apply WQ.call (hm := h1.modes); (iterate 4 exact rfl)) | (apply W1.callV (hm := h1.modes); (iterate 5 exact rfl); exact (r2); exact rfl)) | ((first | apply W1.add64 | apply W1.sub64); (iterate 3 exact rfl); omega; omega) | (apply W1.iadr; (iterate 3 exact rfl); omega; first | assumption | ((first | apply V.get_row | apply get_srow | apply get_ty | apply get_ar | apply get_ob | apply get_sprow | apply get_brow); assumption)) | (apply W1.idxS; (iterate 3 exact rfl); omega; omega) | (apply W1.slcS; (iterate 4 exact rfl); omega) | (apply W1.pickT; exact rfl; exact rfl; (first | with_reducible rfl | assumption | (simp only [bn]; first | omega | assumption | decide)); exact rfl) | (apply W1.pickF; exact rfl; exact rfl; (first | with_reducible rfl | assumption | (simp only [bn]; first | omega | assumption | decide)); exact rfl) | (apply W1.op; (iterate 3 exact rfl)) | (apply W1.no; exact rfl) | ((first | apply W1.knowT | apply W1.knowFn | apply WQ.knowT | apply WQ.knowFn | apply W.condT); exact rfl; (first | with_reducible rfl | assumption | (simp only [bn]; first | omega | assumption | decide))) | ((first | apply W1.knowTn | apply W1.knowF | apply WQ.knowTn | apply WQ.knowF | apply W.condF); exact rfl; (first | with_reducible rfl | assumption | (simp only [bn]; first | omega | assumption | decide))) | (apply WQ.go; exact rfl; exact rfl) | (apply WQ.no; exact rfl) | ((first | apply W1.bothT | apply W1.bothF | apply WQ.bothT | apply WQ.bothF | apply W.cond); exact rfl; all_goals intro hc; all_goals first | (cases hc; done) | ((try simp only [hc]); (try simp only [bm] at hc))) | refine WO.nil ?_ | refine WB.nil ?_ | refine WP.bag rfl ?_ | refine WP.nil ?_ | refine W.seq ?_ | refine W.reg ?_ | refine W.dreg ?_ | refine W.block ?_ | refine W.ret ?_ | refine W.skip ?_ | refine W.exit ?_ | (simp only [sprow_len, brow_len, srow_len, List.length_map, Qit, Int.toNat_natCast, entry, Opd.eat, cellsOf, TV.ofCells, allAv, Qseq, Qblk, List.map_cons, List.map_nil, putD, kp, Nat.reduceEqDiff, ↓reduceIte, beq_self_eq_true, Nat.reduceBEq]))
      all_goals clear r1 r2 ih
      all_goals first
        | (exfalso; simp_all; done)
        | (refine ⟨(), ?_, rfl⟩; rw [all_take_succ hx, hp, arOk_eq]; simp_all; done)
        | (refine ⟨(), ?_, rfl⟩; rw [all_take_succ hx, hp, arOk_eq]; simp_all; omega)
        | (refine Qend.boo rfl rfl ?_; rw [all_false hx (by rw [arOk_eq]; simp_all; done)]; done)
        | (refine Qend.boo rfl rfl ?_; rw [all_false hx (by rw [arOk_eq]; simp_all; omega)]; done)
        | skip
    · intro u hp
      rw [List.take_length] at hp
      repeat' (first | refine WO.cons ?_ | refine WB.cons ?_ | refine WP.one ?_ | ((first | apply W1.add64 | apply W1.sub64); (iterate 3 exact rfl); omega; omega) | (apply W1.iadr; (iterate 3 exact rfl); omega; first | assumption | ((first | apply V.get_row | apply get_srow | apply get_ty | apply get_ar | apply get_ob | apply get_sprow | apply get_brow); assumption)) | (apply W1.idxS; (iterate 3 exact rfl); omega; omega) | (apply W1.slcS; (iterate 4 exact rfl); omega) | (apply W1.pickT; exact rfl; exact rfl; (first | with_reducible rfl | assumption | (simp only [bn]; first | omega | assumption | decide)); exact rfl) | (apply W1.pickF; exact rfl; exact rfl; (first | with_reducible rfl | assumption | (simp only [bn]; first | omega | assumption | decide)); exact rfl) | (apply W1.op; (iterate 3 exact rfl)) | (apply W1.no; exact rfl) | ((first | apply W1.knowT | apply W1.knowFn | apply WQ.knowT | apply WQ.knowFn | apply W.condT); exact rfl; (first | with_reducible rfl | assumption | (simp only [bn]; first | omega | assumption | decide))) | ((first | apply W1.knowTn | apply W1.knowF | apply WQ.knowTn | apply WQ.knowF | apply W.condF); exact rfl; (first | with_reducible rfl | assumption | (simp only [bn]; first | omega | assumption | decide))) | (apply WQ.go; exact rfl; exact rfl) | (apply WQ.no; exact rfl) | ((first | apply W1.bothT | apply W1.bothF | apply WQ.bothT | apply WQ.bothF | apply W.cond); exact rfl; all_goals intro hc; all_goals first | (cases hc; done) | ((try simp only [hc]); (try simp only [bm] at hc))) | refine WO.nil ?_ | refine WB.nil ?_ | refine WP.bag rfl ?_ | refine WP.nil ?_ | refine W.seq ?_ | refine W.reg ?_ | refine W.dreg ?_ | refine W.block ?_ | refine W.ret ?_ | refine W.skip ?_ | refine W.exit ?_ | (simp only [sprow_len, brow_len, srow_len, List.length_map, Qit, Int.toNat_natCast, entry, Opd.eat, cellsOf, TV.ofCells, allAv, Qseq, Qblk, List.map_cons, List.map_nil, putD, kp, Nat.reduceEqDiff, ↓reduceIte, beq_self_eq_true, Nat.reduceBEq]))
      refine Qend.boo rfl rfl ?_
      rw [hp]
  · have hd : decide (l.length ≤ 1) = false := decide_eq_false hle
    repeat' (first | refine WO.cons ?_ | refine WB.cons ?_ | refine WP.one ?_ | ((first | apply W1.add64 | apply W1.sub64); (iterate 3 exact rfl); omega; omega) | (apply W1.iadr; (iterate 3 exact rfl); omega; first | assumption | ((first | apply V.get_row | apply get_srow | apply get_ty | apply get_ar | apply get_ob | apply get_sprow | apply get_brow); assumption)) | (apply W1.idxS; (iterate 3 exact rfl); omega; omega) | (apply W1.slcS; (iterate 4 exact rfl); omega) | (apply W1.pickT; exact rfl; exact rfl; (first | with_reducible rfl | assumption | (simp only [bn]; first | omega | assumption | decide)); exact rfl) | (apply W1.pickF; exact rfl; exact rfl; (first | with_reducible rfl | assumption | (simp only [bn]; first | omega | assumption | decide)); exact rfl) | (apply W1.op; (iterate 3 exact rfl)) | (apply W1.no; exact rfl) | ((first | apply W1.knowT | apply W1.knowFn | apply WQ.knowT | apply WQ.knowFn | apply W.condT); exact rfl; (first | with_reducible rfl | assumption | (simp only [bn]; first | omega | assumption | decide))) | ((first | apply W1.knowTn | apply W1.knowF | apply WQ.knowTn | apply WQ.knowF | apply W.condF); exact rfl; (first | with_reducible rfl | assumption | (simp only [bn]; first | omega | assumption | decide))) | (apply WQ.go; exact rfl; exact rfl) | (apply WQ.no; exact rfl) | ((first | apply W1.bothT | apply W1.bothF | apply WQ.bothT | apply WQ.bothF | apply W.cond); exact rfl; all_goals intro hc; all_goals first | (cases hc; done) | ((try simp only [hc]); (try simp only [bm] at hc))) | refine WO.nil ?_ | refine WB.nil ?_ | refine WP.bag rfl ?_ | refine WP.nil ?_ | refine W.seq ?_ | refine W.reg ?_ | refine W.dreg ?_ | refine W.block ?_ | refine W.ret ?_ | refine W.skip ?_ | refine W.exit ?_ | (simp only [sprow_len, brow_len, srow_len, List.length_map, Qit, Int.toNat_natCast, entry, Opd.eat, cellsOf, TV.ofCells, allAv, Qseq, Qblk, List.map_cons, List.map_nil, putD, kp, Nat.reduceEqDiff, ↓reduceIte, beq_self_eq_true, Nat.reduceBEq]))
    refine Qend.boo rfl rfl ?_
    rw [hd]; rfl
theorem refObject_of {T : Tab} (h : Fn T F.hallmarkref09_object hallmarkref09_object.fn) (hf : Fn T F.hallmarkref09_Formed hallmarkref09_Formed.fn) (h1 : Fn T F.hallmarkref09_Never hallmarkref09_Never.fn) (h2 : Fn T F.hallmarkref09_Bare hallmarkref09_Bare.fn)
    (h3 : Fn T F.hallmarkref03_Rise hallmarkref03_Rise.fn) (h4 : Fn T F.hallmarkref03_UTF hallmarkref03_UTF.fn) (h5 : Fn T F.hallmarkref03_width hallmarkref03_width.fn) (h6 : Fn T F.hallmarkref03_trail hallmarkref03_trail.fn)
    (o : Ob) (hb : o.bk ≤ 1073741824) (ih : ∀ x ∈ o.fields, Formed9 T x) (ihr : Formed9 T o.rest) : Ret T F.hallmarkref09_object [.val (.agg o.row)] (one (.bool (obOk o))) := by
  refine Ret.mk h rfl ?_
  have hbk := Ob.bk_eq o
  have l1 := len_sbk o.names
  have l2 := len_tyBks o.fields
  have e1 := srow_len o.names
  have e2 := brow_len o.must
  have e3 : (o.fields.map Ty.row).length = o.fields.length := List.length_map ..
  have r0 := refRise_ret h3 h4 h5 h6 o.names (by omega)
  have r1 := ihr
  rw [Formed9, Ty.av_eq] at r1
  rw [Ob.row_eq]
  have hoe := obOk_eq o
  by_cases hn : o.names.length = o.fields.length ∧ o.names.length = o.must.length ∧ rise o.names = true ∧ tformed o.rest = true
  · obtain ⟨n1, n2, n3, n4⟩ := hn
    have hoe' : obOk o = fieldsOk o.fields o.must := by rw [hoe]; simp [← n1, ← n2, n3, n4]
    rw [hoe']
    repeat' (first | refine WO.cons ?_ | refine WB.cons ?_ | refine WP.one ?_ | (first | (apply WQ.call (hm := h3.modes); (iterate 4 exact rfl)) | (apply W1.callV (hm := h3.modes); (iterate 5 exact rfl); exact (r0); exact rfl)) | (first | (apply WQ.call (hm := hf.modes); (iterate 4 exact rfl)) | (apply W1.callV (hm := hf.modes); (iterate 5 exact rfl); exact (r1); exact rfl)) | ((first | apply W1.add64 | apply W1.sub64); (iterate 3 exact rfl); omega; omega) | (apply W1.iadr; (iterate 3 exact rfl); omega; first | assumption | ((first | apply V.get_row | apply get_srow | apply get_ty | apply get_ar | apply get_ob | apply get_sprow | apply get_brow); assumption)) | (apply W1.idxS; (iterate 3 exact rfl); omega; omega) | (apply W1.slcS; (iterate 4 exact rfl); omega) | (apply W1.pickT; exact rfl; exact rfl; (first | with_reducible rfl | assumption | (simp only [bn]; first | omega | assumption | decide)); exact rfl) | (apply W1.pickF; exact rfl; exact rfl; (first | with_reducible rfl | assumption | (simp only [bn]; first | omega | assumption | decide)); exact rfl) | (apply W1.op; (iterate 3 exact rfl)) | (apply W1.no; exact rfl) | ((first | apply W1.knowT | apply W1.knowFn | apply WQ.knowT | apply WQ.knowFn | apply W.condT); exact rfl; (first | with_reducible rfl | assumption | (simp only [bn]; first | omega | assumption | decide))) | ((first | apply W1.knowTn | apply W1.knowF | apply WQ.knowTn | apply WQ.knowF | apply W.condF); exact rfl; (first | with_reducible rfl | assumption | (simp only [bn]; first | omega | assumption | decide))) | (apply WQ.go; exact rfl; exact rfl) | (apply WQ.no; exact rfl) | ((first | apply W1.bothT | apply W1.bothF | apply WQ.bothT | apply WQ.bothF | apply W.cond); exact rfl; all_goals intro hc; all_goals first | (cases hc; done) | ((try simp only [hc]); (try simp only [bm] at hc))) | refine WO.nil ?_ | refine WB.nil ?_ | refine WP.bag rfl ?_ | refine WP.nil ?_ | refine W.seq ?_ | refine W.reg ?_ | refine W.dreg ?_ | refine W.block ?_ | refine W.ret ?_ | refine W.skip ?_ | refine W.exit ?_ | (simp only [sprow_len, brow_len, srow_len, List.length_map, Qit, Int.toNat_natCast, entry, Opd.eat, cellsOf, TV.ofCells, allAv, Qseq, Qblk, List.map_cons, List.map_nil, putD, kp, Nat.reduceEqDiff, ↓reduceIte, beq_self_eq_true, Nat.reduceBEq]))
    all_goals first | (exfalso; clear r0 r1; simp_all; done) | (exfalso; omega) | skip
    refine W.listP o.fields (fun i (_ : Unit) s => s.put 3 (.av (.int .i64 (i : Int)))) (fun i _ => fieldsOk (o.fields.take i) o.must = true) () (by simp [fieldsOk]) rfl ?_ ?_
    · intro i x u hx hi hp
      obtain ⟨b, hbm⟩ : ∃ b, o.must[i]? = some b := ⟨o.must[i]'(by omega), List.getElem?_eq_getElem (by omega)⟩
      have r2 := ih x (List.mem_of_getElem? hx)
      have r3 := refNever_ret h1 h2 x
      rw [Formed9, Ty.av_eq] at r2
      rw [Ty.av_eq] at r3
      repeat' (first | refine WO.cons ?_ | refine WB.cons ?_ | refine WP.one ?_ | (first | (apply WQ.call (hm := hf.modes); (iterate 4 exact rfl)) | (apply W1.callV (hm := hf.modes); (iterate 5 exact rfl); exact (r2); exact rfl)) | (first | (apply WQ.call (hm := h1.modes); (iterate 4 exact rfl)) | (apply W1.callV (hm := h1.modes); (iterate 5 exact rfl); exact (r3); exact rfl)) | ((first | apply W1.add64 | apply W1.sub64); (iterate 3 exact rfl); omega; omega) | (apply W1.iadr; (iterate 3 exact rfl); omega; first | assumption | ((first | apply V.get_row | apply get_srow | apply get_ty | apply get_ar | apply get_ob | apply get_sprow | apply get_brow); assumption)) | (apply W1.idxS; (iterate 3 exact rfl); omega; omega) | (apply W1.slcS; (iterate 4 exact rfl); omega) | (apply W1.pickT; exact rfl; exact rfl; (first | with_reducible rfl | assumption | (simp only [bn]; first | omega | assumption | decide)); exact rfl) | (apply W1.pickF; exact rfl; exact rfl; (first | with_reducible rfl | assumption | (simp only [bn]; first | omega | assumption | decide)); exact rfl) | (apply W1.op; (iterate 3 exact rfl)) | (apply W1.no; exact rfl) | ((first | apply W1.knowT | apply W1.knowFn | apply WQ.knowT | apply WQ.knowFn | apply W.condT); exact rfl; (first | with_reducible rfl | assumption | (simp only [bn]; first | omega | assumption | decide))) | ((first | apply W1.knowTn | apply W1.knowF | apply WQ.knowTn | apply WQ.knowF | apply W.condF); exact rfl; (first | with_reducible rfl | assumption | (simp only [bn]; first | omega | assumption | decide))) | (apply WQ.go; exact rfl; exact rfl) | (apply WQ.no; exact rfl) | ((first | apply W1.bothT | apply W1.bothF | apply WQ.bothT | apply WQ.bothF | apply W.cond); exact rfl; all_goals intro hc; all_goals first | (cases hc; done) | ((try simp only [hc]); (try simp only [bm] at hc))) | refine WO.nil ?_ | refine WB.nil ?_ | refine WP.bag rfl ?_ | refine WP.nil ?_ | refine W.seq ?_ | refine W.reg ?_ | refine W.dreg ?_ | refine W.block ?_ | refine W.ret ?_ | refine W.skip ?_ | refine W.exit ?_ | (simp only [sprow_len, brow_len, srow_len, List.length_map, Qit, Int.toNat_natCast, entry, Opd.eat, cellsOf, TV.ofCells, allAv, Qseq, Qblk, List.map_cons, List.map_nil, putD, kp, Nat.reduceEqDiff, ↓reduceIte, beq_self_eq_true, Nat.reduceBEq]))
      all_goals clear r0 r1 r2 r3 ih ihr
      all_goals first
        | (refine Qend.boo rfl rfl ?_; rw [fieldsOk_false hx hbm (by simp_all)]; done)
        | (refine ⟨(), ?_, rfl⟩; rw [fieldsOk_take_succ hx hbm, hp]; simp_all; done)
        | (exfalso; simp_all; done)
        | skip
    · intro u hp
      rw [List.take_length] at hp
      repeat' (first | refine WO.cons ?_ | refine WB.cons ?_ | refine WP.one ?_ | ((first | apply W1.add64 | apply W1.sub64); (iterate 3 exact rfl); omega; omega) | (apply W1.iadr; (iterate 3 exact rfl); omega; first | assumption | ((first | apply V.get_row | apply get_srow | apply get_ty | apply get_ar | apply get_ob | apply get_sprow | apply get_brow); assumption)) | (apply W1.idxS; (iterate 3 exact rfl); omega; omega) | (apply W1.slcS; (iterate 4 exact rfl); omega) | (apply W1.pickT; exact rfl; exact rfl; (first | with_reducible rfl | assumption | (simp only [bn]; first | omega | assumption | decide)); exact rfl) | (apply W1.pickF; exact rfl; exact rfl; (first | with_reducible rfl | assumption | (simp only [bn]; first | omega | assumption | decide)); exact rfl) | (apply W1.op; (iterate 3 exact rfl)) | (apply W1.no; exact rfl) | ((first | apply W1.knowT | apply W1.knowFn | apply WQ.knowT | apply WQ.knowFn | apply W.condT); exact rfl; (first | with_reducible rfl | assumption | (simp only [bn]; first | omega | assumption | decide))) | ((first | apply W1.knowTn | apply W1.knowF | apply WQ.knowTn | apply WQ.knowF | apply W.condF); exact rfl; (first | with_reducible rfl | assumption | (simp only [bn]; first | omega | assumption | decide))) | (apply WQ.go; exact rfl; exact rfl) | (apply WQ.no; exact rfl) | ((first | apply W1.bothT | apply W1.bothF | apply WQ.bothT | apply WQ.bothF | apply W.cond); exact rfl; all_goals intro hc; all_goals first | (cases hc; done) | ((try simp only [hc]); (try simp only [bm] at hc))) | refine WO.nil ?_ | refine WB.nil ?_ | refine WP.bag rfl ?_ | refine WP.nil ?_ | refine W.seq ?_ | refine W.reg ?_ | refine W.dreg ?_ | refine W.block ?_ | refine W.ret ?_ | refine W.skip ?_ | refine W.exit ?_ | (simp only [sprow_len, brow_len, srow_len, List.length_map, Qit, Int.toNat_natCast, entry, Opd.eat, cellsOf, TV.ofCells, allAv, Qseq, Qblk, List.map_cons, List.map_nil, putD, kp, Nat.reduceEqDiff, ↓reduceIte, beq_self_eq_true, Nat.reduceBEq]))
      refine Qend.boo rfl rfl ?_
      rw [hp]
  · have hoe' : obOk o = false := by
      rw [hoe, Bool.eq_false_iff]
      intro hc
      simp only [Bool.and_eq_true, decide_eq_true_eq] at hc
      exact hn ⟨hc.1.1.1.1, hc.1.1.1.2, hc.1.1.2, hc.1.2⟩
    rw [hoe']
    by_cases n1 : o.names.length = o.fields.length
    · by_cases n2 : o.names.length = o.must.length
      · by_cases n3 : rise o.names = true
        · have n4 : tformed o.rest = false := by
            rw [Bool.eq_false_iff]; exact fun hc => hn ⟨n1, n2, n3, hc⟩
          repeat' (first | refine WO.cons ?_ | refine WB.cons ?_ | refine WP.one ?_ | (first | (apply WQ.call (hm := h3.modes); (iterate 4 exact rfl)) | (apply W1.callV (hm := h3.modes); (iterate 5 exact rfl); exact (r0); exact rfl)) | (first | (apply WQ.call (hm := hf.modes); (iterate 4 exact rfl)) | (apply W1.callV (hm := hf.modes); (iterate 5 exact rfl); exact (r1); exact rfl)) | ((first | apply W1.add64 | apply W1.sub64); (iterate 3 exact rfl); omega; omega) | (apply W1.iadr; (iterate 3 exact rfl); omega; first | assumption | ((first | apply V.get_row | apply get_srow | apply get_ty | apply get_ar | apply get_ob | apply get_sprow | apply get_brow); assumption)) | (apply W1.idxS; (iterate 3 exact rfl); omega; omega) | (apply W1.slcS; (iterate 4 exact rfl); omega) | (apply W1.pickT; exact rfl; exact rfl; (first | with_reducible rfl | assumption | (simp only [bn]; first | omega | assumption | decide)); exact rfl) | (apply W1.pickF; exact rfl; exact rfl; (first | with_reducible rfl | assumption | (simp only [bn]; first | omega | assumption | decide)); exact rfl) | (apply W1.op; (iterate 3 exact rfl)) | (apply W1.no; exact rfl) | ((first | apply W1.knowT | apply W1.knowFn | apply WQ.knowT | apply WQ.knowFn | apply W.condT); exact rfl; (first | with_reducible rfl | assumption | (simp only [bn]; first | omega | assumption | decide))) | ((first | apply W1.knowTn | apply W1.knowF | apply WQ.knowTn | apply WQ.knowF | apply W.condF); exact rfl; (first | with_reducible rfl | assumption | (simp only [bn]; first | omega | assumption | decide))) | (apply WQ.go; exact rfl; exact rfl) | (apply WQ.no; exact rfl) | ((first | apply W1.bothT | apply W1.bothF | apply WQ.bothT | apply WQ.bothF | apply W.cond); exact rfl; all_goals intro hc; all_goals first | (cases hc; done) | ((try simp only [hc]); (try simp only [bm] at hc))) | refine WO.nil ?_ | refine WB.nil ?_ | refine WP.bag rfl ?_ | refine WP.nil ?_ | refine W.seq ?_ | refine W.reg ?_ | refine W.dreg ?_ | refine W.block ?_ | refine W.ret ?_ | refine W.skip ?_ | refine W.exit ?_ | (simp only [sprow_len, brow_len, srow_len, List.length_map, Qit, Int.toNat_natCast, entry, Opd.eat, cellsOf, TV.ofCells, allAv, Qseq, Qblk, List.map_cons, List.map_nil, putD, kp, Nat.reduceEqDiff, ↓reduceIte, beq_self_eq_true, Nat.reduceBEq]))
          all_goals first | exact Qend.boo rfl rfl rfl | (exfalso; omega) | (exfalso; clear r0 r1; simp_all; done) | skip
        · rw [Bool.not_eq_true] at n3
          repeat' (first | refine WO.cons ?_ | refine WB.cons ?_ | refine WP.one ?_ | (first | (apply WQ.call (hm := h3.modes); (iterate 4 exact rfl)) | (apply W1.callV (hm := h3.modes); (iterate 5 exact rfl); exact (r0); exact rfl)) | (first | (apply WQ.call (hm := hf.modes); (iterate 4 exact rfl)) | (apply W1.callV (hm := hf.modes); (iterate 5 exact rfl); exact (r1); exact rfl)) | ((first | apply W1.add64 | apply W1.sub64); (iterate 3 exact rfl); omega; omega) | (apply W1.iadr; (iterate 3 exact rfl); omega; first | assumption | ((first | apply V.get_row | apply get_srow | apply get_ty | apply get_ar | apply get_ob | apply get_sprow | apply get_brow); assumption)) | (apply W1.idxS; (iterate 3 exact rfl); omega; omega) | (apply W1.slcS; (iterate 4 exact rfl); omega) | (apply W1.pickT; exact rfl; exact rfl; (first | with_reducible rfl | assumption | (simp only [bn]; first | omega | assumption | decide)); exact rfl) | (apply W1.pickF; exact rfl; exact rfl; (first | with_reducible rfl | assumption | (simp only [bn]; first | omega | assumption | decide)); exact rfl) | (apply W1.op; (iterate 3 exact rfl)) | (apply W1.no; exact rfl) | ((first | apply W1.knowT | apply W1.knowFn | apply WQ.knowT | apply WQ.knowFn | apply W.condT); exact rfl; (first | with_reducible rfl | assumption | (simp only [bn]; first | omega | assumption | decide))) | ((first | apply W1.knowTn | apply W1.knowF | apply WQ.knowTn | apply WQ.knowF | apply W.condF); exact rfl; (first | with_reducible rfl | assumption | (simp only [bn]; first | omega | assumption | decide))) | (apply WQ.go; exact rfl; exact rfl) | (apply WQ.no; exact rfl) | ((first | apply W1.bothT | apply W1.bothF | apply WQ.bothT | apply WQ.bothF | apply W.cond); exact rfl; all_goals intro hc; all_goals first | (cases hc; done) | ((try simp only [hc]); (try simp only [bm] at hc))) | refine WO.nil ?_ | refine WB.nil ?_ | refine WP.bag rfl ?_ | refine WP.nil ?_ | refine W.seq ?_ | refine W.reg ?_ | refine W.dreg ?_ | refine W.block ?_ | refine W.ret ?_ | refine W.skip ?_ | refine W.exit ?_ | (simp only [sprow_len, brow_len, srow_len, List.length_map, Qit, Int.toNat_natCast, entry, Opd.eat, cellsOf, TV.ofCells, allAv, Qseq, Qblk, List.map_cons, List.map_nil, putD, kp, Nat.reduceEqDiff, ↓reduceIte, beq_self_eq_true, Nat.reduceBEq]))
          all_goals first | exact Qend.boo rfl rfl rfl | (exfalso; omega) | (exfalso; clear r0 r1; simp_all; done) | skip
      · skip
        repeat' (first | refine WO.cons ?_ | refine WB.cons ?_ | refine WP.one ?_ | (first | (apply WQ.call (hm := h3.modes); (iterate 4 exact rfl)) | (apply W1.callV (hm := h3.modes); (iterate 5 exact rfl); exact (r0); exact rfl)) | (first | (apply WQ.call (hm := hf.modes); (iterate 4 exact rfl)) | (apply W1.callV (hm := hf.modes); (iterate 5 exact rfl); exact (r1); exact rfl)) | ((first | apply W1.add64 | apply W1.sub64); (iterate 3 exact rfl); omega; omega) | (apply W1.iadr; (iterate 3 exact rfl); omega; first | assumption | ((first | apply V.get_row | apply get_srow | apply get_ty | apply get_ar | apply get_ob | apply get_sprow | apply get_brow); assumption)) | (apply W1.idxS; (iterate 3 exact rfl); omega; omega) | (apply W1.slcS; (iterate 4 exact rfl); omega) | (apply W1.pickT; exact rfl; exact rfl; (first | with_reducible rfl | assumption | (simp only [bn]; first | omega | assumption | decide)); exact rfl) | (apply W1.pickF; exact rfl; exact rfl; (first | with_reducible rfl | assumption | (simp only [bn]; first | omega | assumption | decide)); exact rfl) | (apply W1.op; (iterate 3 exact rfl)) | (apply W1.no; exact rfl) | ((first | apply W1.knowT | apply W1.knowFn | apply WQ.knowT | apply WQ.knowFn | apply W.condT); exact rfl; (first | with_reducible rfl | assumption | (simp only [bn]; first | omega | assumption | decide))) | ((first | apply W1.knowTn | apply W1.knowF | apply WQ.knowTn | apply WQ.knowF | apply W.condF); exact rfl; (first | with_reducible rfl | assumption | (simp only [bn]; first | omega | assumption | decide))) | (apply WQ.go; exact rfl; exact rfl) | (apply WQ.no; exact rfl) | ((first | apply W1.bothT | apply W1.bothF | apply WQ.bothT | apply WQ.bothF | apply W.cond); exact rfl; all_goals intro hc; all_goals first | (cases hc; done) | ((try simp only [hc]); (try simp only [bm] at hc))) | refine WO.nil ?_ | refine WB.nil ?_ | refine WP.bag rfl ?_ | refine WP.nil ?_ | refine W.seq ?_ | refine W.reg ?_ | refine W.dreg ?_ | refine W.block ?_ | refine W.ret ?_ | refine W.skip ?_ | refine W.exit ?_ | (simp only [sprow_len, brow_len, srow_len, List.length_map, Qit, Int.toNat_natCast, entry, Opd.eat, cellsOf, TV.ofCells, allAv, Qseq, Qblk, List.map_cons, List.map_nil, putD, kp, Nat.reduceEqDiff, ↓reduceIte, beq_self_eq_true, Nat.reduceBEq]))
        all_goals first | exact Qend.boo rfl rfl rfl | (exfalso; omega) | (exfalso; clear r0 r1; simp_all; done) | skip
    · skip
      repeat' (first | refine WO.cons ?_ | refine WB.cons ?_ | refine WP.one ?_ | (first | (apply WQ.call (hm := h3.modes); (iterate 4 exact rfl)) | (apply W1.callV (hm := h3.modes); (iterate 5 exact rfl); exact (r0); exact rfl)) | (first | (apply WQ.call (hm := hf.modes); (iterate 4 exact rfl)) | (apply W1.callV (hm := hf.modes); (iterate 5 exact rfl); exact (r1); exact rfl)) | ((first | apply W1.add64 | apply W1.sub64); (iterate 3 exact rfl); omega; omega) | (apply W1.iadr; (iterate 3 exact rfl); omega; first | assumption | ((first | apply V.get_row | apply get_srow | apply get_ty | apply get_ar | apply get_ob | apply get_sprow | apply get_brow); assumption)) | (apply W1.idxS; (iterate 3 exact rfl); omega; omega) | (apply W1.slcS; (iterate 4 exact rfl); omega) | (apply W1.pickT; exact rfl; exact rfl; (first | with_reducible rfl | assumption | (simp only [bn]; first | omega | assumption | decide)); exact rfl) | (apply W1.pickF; exact rfl; exact rfl; (first | with_reducible rfl | assumption | (simp only [bn]; first | omega | assumption | decide)); exact rfl) | (apply W1.op; (iterate 3 exact rfl)) | (apply W1.no; exact rfl) | ((first | apply W1.knowT | apply W1.knowFn | apply WQ.knowT | apply WQ.knowFn | apply W.condT); exact rfl; (first | with_reducible rfl | assumption | (simp only [bn]; first | omega | assumption | decide))) | ((first | apply W1.knowTn | apply W1.knowF | apply WQ.knowTn | apply WQ.knowF | apply W.condF); exact rfl; (first | with_reducible rfl | assumption | (simp only [bn]; first | omega | assumption | decide))) | (apply WQ.go; exact rfl; exact rfl) | (apply WQ.no; exact rfl) | ((first | apply W1.bothT | apply W1.bothF | apply WQ.bothT | apply WQ.bothF | apply W.cond); exact rfl; all_goals intro hc; all_goals first | (cases hc; done) | ((try simp only [hc]); (try simp only [bm] at hc))) | refine WO.nil ?_ | refine WB.nil ?_ | refine WP.bag rfl ?_ | refine WP.nil ?_ | refine W.seq ?_ | refine W.reg ?_ | refine W.dreg ?_ | refine W.block ?_ | refine W.ret ?_ | refine W.skip ?_ | refine W.exit ?_ | (simp only [sprow_len, brow_len, srow_len, List.length_map, Qit, Int.toNat_natCast, entry, Opd.eat, cellsOf, TV.ofCells, allAv, Qseq, Qblk, List.map_cons, List.map_nil, putD, kp, Nat.reduceEqDiff, ↓reduceIte, beq_self_eq_true, Nat.reduceBEq]))
      all_goals first | exact Qend.boo rfl rfl rfl | (exfalso; omega) | (exfalso; clear r0 r1; simp_all; done) | skip
theorem refObjects_of {T : Tab} (h : Fn T F.hallmarkref09_objects hallmarkref09_objects.fn) (h0 : Fn T F.hallmarkref09_object hallmarkref09_object.fn) (l : List Ob) (hb : obBks l ≤ 1073741824)
    (ih : ∀ x ∈ l, Ret T F.hallmarkref09_object [.val (.agg x.row)] (one (.bool (obOk x)))) : Ret T F.hallmarkref09_objects [.val (.lst 12 (l.map Ob.row))] (one (.bool (l.all obOk))) := by
  refine Ret.mk h rfl ?_
  have hl := len_obBks l
  have e1 : (l.map Ob.row).length = l.length := List.length_map ..
  repeat' (first | refine WO.cons ?_ | refine WB.cons ?_ | refine WP.one ?_ | ((first | apply W1.add64 | apply W1.sub64); (iterate 3 exact rfl); omega; omega) | (apply W1.iadr; (iterate 3 exact rfl); omega; first | assumption | ((first | apply V.get_row | apply get_srow | apply get_ty | apply get_ar | apply get_ob | apply get_sprow | apply get_brow); assumption)) | (apply W1.idxS; (iterate 3 exact rfl); omega; omega) | (apply W1.slcS; (iterate 4 exact rfl); omega) | (apply W1.pickT; exact rfl; exact rfl; (first | with_reducible rfl | assumption | (simp only [bn]; first | omega | assumption | decide)); exact rfl) | (apply W1.pickF; exact rfl; exact rfl; (first | with_reducible rfl | assumption | (simp only [bn]; first | omega | assumption | decide)); exact rfl) | (apply W1.op; (iterate 3 exact rfl)) | (apply W1.no; exact rfl) | ((first | apply W1.knowT | apply W1.knowFn | apply WQ.knowT | apply WQ.knowFn | apply W.condT); exact rfl; (first | with_reducible rfl | assumption | (simp only [bn]; first | omega | assumption | decide))) | ((first | apply W1.knowTn | apply W1.knowF | apply WQ.knowTn | apply WQ.knowF | apply W.condF); exact rfl; (first | with_reducible rfl | assumption | (simp only [bn]; first | omega | assumption | decide))) | (apply WQ.go; exact rfl; exact rfl) | (apply WQ.no; exact rfl) | ((first | apply W1.bothT | apply W1.bothF | apply WQ.bothT | apply WQ.bothF | apply W.cond); exact rfl; all_goals intro hc; all_goals first | (cases hc; done) | ((try simp only [hc]); (try simp only [bm] at hc))) | refine WO.nil ?_ | refine WB.nil ?_ | refine WP.bag rfl ?_ | refine WP.nil ?_ | refine W.seq ?_ | refine W.reg ?_ | refine W.dreg ?_ | refine W.block ?_ | refine W.ret ?_ | refine W.skip ?_ | refine W.exit ?_ | (simp only [sprow_len, brow_len, srow_len, List.length_map, Qit, Int.toNat_natCast, entry, Opd.eat, cellsOf, TV.ofCells, allAv, Qseq, Qblk, List.map_cons, List.map_nil, putD, kp, Nat.reduceEqDiff, ↓reduceIte, beq_self_eq_true, Nat.reduceBEq]))
  refine W.listP l (fun i (_ : Unit) s => s.put 3 (.av (.int .i64 (i : Int)))) (fun i _ => (l.take i).all obOk = true) () (by simp) rfl ?_ ?_
  · intro i x u hx hi hp
    have r1 := ih x (List.mem_of_getElem? hx)
    rw [Ob.row_eq] at r1
    repeat' (first | refine WO.cons ?_ | refine WB.cons ?_ | refine WP.one ?_ | (first | (apply WQ.call (hm := h0.modes); (iterate 4 exact rfl)) | (apply W1.callV (hm := h0.modes); (iterate 5 exact rfl); exact (r1); exact rfl)) | ((first | apply W1.add64 | apply W1.sub64); (iterate 3 exact rfl); omega; omega) | (apply W1.iadr; (iterate 3 exact rfl); omega; first | assumption | ((first | apply V.get_row | apply get_srow | apply get_ty | apply get_ar | apply get_ob | apply get_sprow | apply get_brow); assumption)) | (apply W1.idxS; (iterate 3 exact rfl); omega; omega) | (apply W1.slcS; (iterate 4 exact rfl); omega) | (apply W1.pickT; exact rfl; exact rfl; (first | with_reducible rfl | assumption | (simp only [bn]; first | omega | assumption | decide)); exact rfl) | (apply W1.pickF; exact rfl; exact rfl; (first | with_reducible rfl | assumption | (simp only [bn]; first | omega | assumption | decide)); exact rfl) | (apply W1.op; (iterate 3 exact rfl)) | (apply W1.no; exact rfl) | ((first | apply W1.knowT | apply W1.knowFn | apply WQ.knowT | apply WQ.knowFn | apply W.condT); exact rfl; (first | with_reducible rfl | assumption | (simp only [bn]; first | omega | assumption | decide))) | ((first | apply W1.knowTn | apply W1.knowF | apply WQ.knowTn | apply WQ.knowF | apply W.condF); exact rfl; (first | with_reducible rfl | assumption | (simp only [bn]; first | omega | assumption | decide))) | (apply WQ.go; exact rfl; exact rfl) | (apply WQ.no; exact rfl) | ((first | apply W1.bothT | apply W1.bothF | apply WQ.bothT | apply WQ.bothF | apply W.cond); exact rfl; all_goals intro hc; all_goals first | (cases hc; done) | ((try simp only [hc]); (try simp only [bm] at hc))) | refine WO.nil ?_ | refine WB.nil ?_ | refine WP.bag rfl ?_ | refine WP.nil ?_ | refine W.seq ?_ | refine W.reg ?_ | refine W.dreg ?_ | refine W.block ?_ | refine W.ret ?_ | refine W.skip ?_ | refine W.exit ?_ | (simp only [sprow_len, brow_len, srow_len, List.length_map, Qit, Int.toNat_natCast, entry, Opd.eat, cellsOf, TV.ofCells, allAv, Qseq, Qblk, List.map_cons, List.map_nil, putD, kp, Nat.reduceEqDiff, ↓reduceIte, beq_self_eq_true, Nat.reduceBEq]))
    · refine Qend.boo rfl rfl ?_
      rw [all_false hx (by simp_all)]
    · refine ⟨(), ?_, rfl⟩
      rw [all_take_succ hx, hp]; simp_all
  · intro u hp
    rw [List.take_length] at hp
    repeat' (first | refine WO.cons ?_ | refine WB.cons ?_ | refine WP.one ?_ | ((first | apply W1.add64 | apply W1.sub64); (iterate 3 exact rfl); omega; omega) | (apply W1.iadr; (iterate 3 exact rfl); omega; first | assumption | ((first | apply V.get_row | apply get_srow | apply get_ty | apply get_ar | apply get_ob | apply get_sprow | apply get_brow); assumption)) | (apply W1.idxS; (iterate 3 exact rfl); omega; omega) | (apply W1.slcS; (iterate 4 exact rfl); omega) | (apply W1.pickT; exact rfl; exact rfl; (first | with_reducible rfl | assumption | (simp only [bn]; first | omega | assumption | decide)); exact rfl) | (apply W1.pickF; exact rfl; exact rfl; (first | with_reducible rfl | assumption | (simp only [bn]; first | omega | assumption | decide)); exact rfl) | (apply W1.op; (iterate 3 exact rfl)) | (apply W1.no; exact rfl) | ((first | apply W1.knowT | apply W1.knowFn | apply WQ.knowT | apply WQ.knowFn | apply W.condT); exact rfl; (first | with_reducible rfl | assumption | (simp only [bn]; first | omega | assumption | decide))) | ((first | apply W1.knowTn | apply W1.knowF | apply WQ.knowTn | apply WQ.knowF | apply W.condF); exact rfl; (first | with_reducible rfl | assumption | (simp only [bn]; first | omega | assumption | decide))) | (apply WQ.go; exact rfl; exact rfl) | (apply WQ.no; exact rfl) | ((first | apply W1.bothT | apply W1.bothF | apply WQ.bothT | apply WQ.bothF | apply W.cond); exact rfl; all_goals intro hc; all_goals first | (cases hc; done) | ((try simp only [hc]); (try simp only [bm] at hc))) | refine WO.nil ?_ | refine WB.nil ?_ | refine WP.bag rfl ?_ | refine WP.nil ?_ | refine W.seq ?_ | refine W.reg ?_ | refine W.dreg ?_ | refine W.block ?_ | refine W.ret ?_ | refine W.skip ?_ | refine W.exit ?_ | (simp only [sprow_len, brow_len, srow_len, List.length_map, Qit, Int.toNat_natCast, entry, Opd.eat, cellsOf, TV.ofCells, allAv, Qseq, Qblk, List.map_cons, List.map_nil, putD, kp, Nat.reduceEqDiff, ↓reduceIte, beq_self_eq_true, Nat.reduceBEq]))
    refine Qend.boo rfl rfl ?_
    rw [hp]
theorem refFormed9_ret {T : Tab} (hf : Fn T F.hallmarkref09_Formed hallmarkref09_Formed.fn) (a1 : Fn T F.hallmarkref09_objects hallmarkref09_objects.fn) (a2 : Fn T F.hallmarkref09_object hallmarkref09_object.fn) (a3 : Fn T F.hallmarkref09_Never hallmarkref09_Never.fn) (a4 : Fn T F.hallmarkref09_Bare hallmarkref09_Bare.fn)
    (a5 : Fn T F.hallmarkref03_Rise hallmarkref03_Rise.fn) (a6 : Fn T F.hallmarkref03_UTF hallmarkref03_UTF.fn) (a7 : Fn T F.hallmarkref03_width hallmarkref03_width.fn) (a8 : Fn T F.hallmarkref03_trail hallmarkref03_trail.fn) (a9 : Fn T F.hallmarkref09_arrays hallmarkref09_arrays.fn)
    (b1 : Fn T F.hallmarkref09_Spans hallmarkref09_Spans.fn) (b2 : Fn T F.hallmarkref03_Numbers hallmarkref03_Numbers.fn) (b3 : Fn T F.hallmarkref03_Texts hallmarkref03_Texts.fn) (b4 : Fn T F.hallmarkref09_bound hallmarkref09_bound.fn) (b5 : Fn T F.hallmarkref03_Number hallmarkref03_Number.fn) :
    ∀ (v : Ty), v.bk ≤ 1073741824 → Formed9 T v := by
  intro v
  induction v using Ty.ind with
  | h v ih =>
  intro hb
  have hbk := Ty.bk_eq v
  have l1 := len_sbk v.texts
  have e1 := srow_len v.texts
  have r0 := refBare_ret a4 v
  have r1 := refRise_ret a5 a6 a7 a8 v.texts (by omega)
  have r2 := refSpans_ret b1 b4 b5 b2 b3 v.nums (by omega)
  have r3 := refArrays_of a9 hf a3 a4 v.arrays (by omega) (fun x hx => by
    have := arBk_mem hx
    have := Ar.bk_eq x
    exact ih x.item (by omega) (by omega))
  have r4 := refObjects_of a1 a2 v.objects (by omega) (fun x hx => by
    have := obBk_mem hx
    have t3 := Ob.bk_eq x
    exact refObject_of a2 hf a3 a4 a5 a6 a7 a8 x (by omega) (fun y hy => by have := tyBk_mem hy; exact ih y (by omega) (by omega)) (ih x.rest (by omega) (by omega)))
  refine Ret.mk hf rfl ?_
  rw [tformed_eq]
  rw [Ty.av_eq] at *
  clear ih
  cases hA : v.all <;> simp only [hA] at *
  repeat' (first | refine WO.cons ?_ | refine WB.cons ?_ | refine WP.one ?_ | (first | (apply WQ.call (hm := a4.modes); (iterate 4 exact rfl)) | (apply W1.callV (hm := a4.modes); (iterate 5 exact rfl); exact (r0); exact rfl)) | (first | (apply WQ.call (hm := a5.modes); (iterate 4 exact rfl)) | (apply W1.callV (hm := a5.modes); (iterate 5 exact rfl); exact (r1); exact rfl)) | (first | (apply WQ.call (hm := b1.modes); (iterate 4 exact rfl)) | (apply W1.callV (hm := b1.modes); (iterate 5 exact rfl); exact (r2); exact rfl)) | (first | (apply WQ.call (hm := a9.modes); (iterate 4 exact rfl)) | (apply W1.callV (hm := a9.modes); (iterate 5 exact rfl); exact (r3); exact rfl)) | (first | (apply WQ.call (hm := a1.modes); (iterate 4 exact rfl)) | (apply W1.callV (hm := a1.modes); (iterate 5 exact rfl); exact (r4); exact rfl)) | ((first | apply W1.add64 | apply W1.sub64); (iterate 3 exact rfl); omega; omega) | (apply W1.iadr; (iterate 3 exact rfl); omega; first | assumption | ((first | apply V.get_row | apply get_srow | apply get_ty | apply get_ar | apply get_ob | apply get_sprow | apply get_brow); assumption)) | (apply W1.idxS; (iterate 3 exact rfl); omega; omega) | (apply W1.slcS; (iterate 4 exact rfl); omega) | (apply W1.pickT; exact rfl; exact rfl; (first | with_reducible rfl | assumption | (simp only [bn]; first | omega | assumption | decide)); exact rfl) | (apply W1.pickF; exact rfl; exact rfl; (first | with_reducible rfl | assumption | (simp only [bn]; first | omega | assumption | decide)); exact rfl) | (apply W1.op; (iterate 3 exact rfl)) | (apply W1.no; exact rfl) | ((first | apply W1.knowT | apply W1.knowFn | apply WQ.knowT | apply WQ.knowFn | apply W.condT); exact rfl; (first | with_reducible rfl | assumption | (simp only [bn]; first | omega | assumption | decide))) | ((first | apply W1.knowTn | apply W1.knowF | apply WQ.knowTn | apply WQ.knowF | apply W.condF); exact rfl; (first | with_reducible rfl | assumption | (simp only [bn]; first | omega | assumption | decide))) | (apply WQ.go; exact rfl; exact rfl) | (apply WQ.no; exact rfl) | ((first | apply W1.bothT | apply W1.bothF | apply WQ.bothT | apply WQ.bothF | apply W.cond); exact rfl; all_goals intro hc; all_goals first | (cases hc; done) | ((try simp only [hc]); (try simp only [bm] at hc))) | refine WO.nil ?_ | refine WB.nil ?_ | refine WP.bag rfl ?_ | refine WP.nil ?_ | refine W.seq ?_ | refine W.reg ?_ | refine W.dreg ?_ | refine W.block ?_ | refine W.ret ?_ | refine W.skip ?_ | refine W.exit ?_ | (simp only [sprow_len, brow_len, srow_len, List.length_map, Qit, Int.toNat_natCast, entry, Opd.eat, cellsOf, TV.ofCells, allAv, Qseq, Qblk, List.map_cons, List.map_nil, putD, kp, Nat.reduceEqDiff, ↓reduceIte, beq_self_eq_true, Nat.reduceBEq]))
  all_goals clear r0 r1 r2 r3 r4
  all_goals first | refine Qend.boo rfl rfl ?_ | skip
  all_goals first | (simp_all; done) | skip
end Hm

/- Types stand in a row. Conditions: see each theorem. -/
namespace Hm
open Go (IntKind)
set_option maxHeartbeats 4000000
set_option maxRecDepth 4000
abbrev Spn := Str × Str
def trC (a b : Bool) : Int := if a = b then 0 else if b then -1 else 1
def bdC (op : Int) (a b : Str) : Int := if a = b then 0 else if a = [] then op else if b = [] then -op else zcmp a b
def spC (a b : Spn) : Int := orI (bdC (-1) a.1 b.1) (bdC 1 a.2 b.2)
def moC (a b : Int) : Int := if a = b then 0 else if a < 0 then 1 else if b < 0 then -1 else icmp a b
theorem trC_pre : Pre (fun _ => True) trC where
  rng a b _ _ := by cases a <;> cases b <;> decide
  anti a b _ _ := by cases a <;> cases b <;> decide
  trans a b d _ _ _ := by cases a <;> cases b <;> cases d <;> decide
theorem trC_zero {a b : Bool} (h : trC a b = 0) : a = b := by cases a <;> cases b <;> first | rfl | (revert h; decide)
theorem bdC_eq (op : Int) (a b : Str) : bdC op a b = if a = [] then (if b = [] then 0 else op) else if b = [] then -op else zcmp a b := by
  unfold bdC
  by_cases e : a = b
  · subst e
    by_cases ha : a = []
    · simp [ha]
    · simp only [if_true, ha, if_false]; exact (zcmp_pre.refl trivial).symm
  · rw [if_neg e]
    by_cases ha : a = []
    · have : ¬ b = [] := fun hb => e (by rw [ha, hb])
      simp [ha, this]
    · simp [ha]
theorem bdC_pre {op : Int} (ho : op = 1 ∨ op = -1) : Pre (fun _ => True) (bdC op) where
  rng a b _ _ := by
    rw [bdC_eq]
    have := zcmp_pre.rng a b trivial trivial
    split <;> (split <;> omega)
  anti a b _ _ := by
    rw [bdC_eq, bdC_eq]
    have := zcmp_pre.anti a b trivial trivial
    by_cases ha : a = [] <;> by_cases hb : b = [] <;> simp only [ha, hb, if_true, if_false] <;> omega
  trans a b d _ _ _ h1 h2 := by
    rw [bdC_eq] at *
    have := zcmp_pre.trans a b d trivial trivial trivial
    by_cases ha : a = [] <;> by_cases hb : b = [] <;> by_cases hd : d = [] <;> simp only [ha, hb, hd, if_true, if_false] at * <;> first | omega | exact this h1 h2
theorem zcmp_zero' {a b : Str} (h : zcmp a b = 0) : a = b := by
  simp only [zcmp] at h
  have mm : ∀ s : Str, minus s = true → s = 45 :: s.drop 1 := fun s hm => by
    simp only [minus, decide_eq_true_eq] at hm
    have h45 := (u8_eq (bAt s 0) 45 (by omega)).1 hm
    cases s with
    | nil => simp [bAt] at hm
    | cons c r => simp [bAt] at h45; simp [h45]
  cases ma : minus a <;> cases mb : minus b <;> simp only [ma, mb] at h
  · exact ncmp_good.eq a b trivial trivial (by simpa using h)
  · simp at h
  · simp at h
  · have := ncmp_good.eq (b.drop 1) (a.drop 1) trivial trivial (by simpa using h)
    rw [mm a ma, mm b mb, this]
theorem bdC_zero {op : Int} (ho : op = 1 ∨ op = -1) {a b : Str} (h : bdC op a b = 0) : a = b := by
  unfold bdC at h
  split at h
  · assumption
  · split at h
    · omega
    · split at h
      · omega
      · exact zcmp_zero' h
theorem spC_pre : Pre (fun _ => True) spC := Pre.or (Pre.comap (f := fun s : Spn => s.1) (bdC_pre (.inr rfl)) fun _ _ => trivial) (Pre.comap (f := fun s : Spn => s.2) (bdC_pre (.inl rfl)) fun _ _ => trivial)
theorem spC_zero {a b : Spn} (h : spC a b = 0) : a = b := by
  obtain ⟨h1, h2⟩ := orI_zero h
  exact Prod.ext (bdC_zero (.inr rfl) h1) (bdC_zero (.inl rfl) h2)
theorem Pre.congrP {α : Type} {P : α → Prop} {c c' : α → α → Int} (h : Pre P c) (e : ∀ a b, P a → P b → c' a b = c a b) : Pre P c' where
  rng a b ha hb := by rw [e a b ha hb]; exact h.rng a b ha hb
  anti a b ha hb := by rw [e a b ha hb, e b a hb ha]; exact h.anti a b ha hb
  trans a b d ha hb hd := by rw [e a b ha hb, e b d hb hd, e a d ha hd]; exact h.trans a b d ha hb hd
def negI (a : Int) : Int := if a < 0 then 1 else 0
theorem moC_pre : Pre (fun a => -1 ≤ a) moC := by
  refine Pre.congrP (c := fun a b => orI (icmp (negI a) (negI b)) (icmp a b)) (Pre.or (Pre.comap (f := negI) icmp_pre fun _ _ => trivial) (icmp_pre.mono fun _ _ => trivial)) fun a b ha hb => ?_
  unfold moC orI icmp negI
  by_cases e : a = b
  · subst e; simp
  · by_cases h1 : a < 0
    · have : ¬ b < 0 := by omega
      simp [e, h1, this]
    · by_cases h2 : b < 0
      · simp [e, h1, h2]
      · simp [e, h1, h2]
theorem moC_zero {a b : Int} (h : moC a b = 0) : a = b := by
  unfold moC at h
  split at h
  · assumption
  · split at h
    · omega
    · split at h
      · omega
      · exact icmp_eq h
mutual
def tyC : Ty → Ty → Int
  | .mk a n f t ns x ts as os, b => orI (trC a b.all) (orI (trC n b.nul) (orI (trC f b.fls) (orI (trC t b.tru) (orI (lcmp spC ns b.nums) (orI (trC x b.anyText) (orI (lcmp tcmp ts b.texts) (orI (arsC as b.arrays) (obsC os b.objects))))))))
def arC : Ar → Ar → Int
  | .mk i mn mx, b => orI (icmp mn b.min) (orI (moC mx b.max) (tyC i b.item))
def obC : Ob → Ob → Int
  | .mk ns fs ms r, b => orI (lcmp tcmp ns b.names) (orI (lcmp trC ms b.must) (orI (tysC fs b.fields) (tyC r b.rest)))
def tysC : List Ty → List Ty → Int
  | [], [] => 0
  | [], _ :: _ => -1
  | _ :: _, [] => 1
  | a :: l, b :: m => orI (tyC a b) (tysC l m)
def arsC : List Ar → List Ar → Int
  | [], [] => 0
  | [], _ :: _ => -1
  | _ :: _, [] => 1
  | a :: l, b :: m => orI (arC a b) (arsC l m)
def obsC : List Ob → List Ob → Int
  | [], [] => 0
  | [], _ :: _ => -1
  | _ :: _, [] => 1
  | a :: l, b :: m => orI (obC a b) (obsC l m)
end
theorem tysC_eq : ∀ l m : List Ty, tysC l m = lcmp tyC l m
  | [], [] => by simp [tysC, lcmp]
  | [], _ :: _ => by simp [tysC, lcmp]
  | _ :: _, [] => by simp [tysC, lcmp]
  | a :: l, b :: m => by rw [tysC, lcmp, tysC_eq l m]
theorem arsC_eq : ∀ l m : List Ar, arsC l m = lcmp arC l m
  | [], [] => by simp [arsC, lcmp]
  | [], _ :: _ => by simp [arsC, lcmp]
  | _ :: _, [] => by simp [arsC, lcmp]
  | a :: l, b :: m => by rw [arsC, lcmp, arsC_eq l m]
theorem obsC_eq : ∀ l m : List Ob, obsC l m = lcmp obC l m
  | [], [] => by simp [obsC, lcmp]
  | [], _ :: _ => by simp [obsC, lcmp]
  | _ :: _, [] => by simp [obsC, lcmp]
  | a :: l, b :: m => by rw [obsC, lcmp, obsC_eq l m]
theorem tyC_eq (a b : Ty) : tyC a b = orI (trC a.all b.all) (orI (trC a.nul b.nul) (orI (trC a.fls b.fls) (orI (trC a.tru b.tru) (orI (lcmp spC a.nums b.nums) (orI (trC a.anyText b.anyText) (orI (lcmp tcmp a.texts b.texts) (orI (lcmp arC a.arrays b.arrays) (lcmp obC a.objects b.objects)))))))) := by
  cases a; simp only [tyC, arsC_eq, obsC_eq, Ty.all, Ty.nul, Ty.fls, Ty.tru, Ty.nums, Ty.anyText, Ty.texts, Ty.arrays, Ty.objects]
theorem arC_eq (a b : Ar) : arC a b = orI (icmp a.min b.min) (orI (moC a.max b.max) (tyC a.item b.item)) := by cases a; simp only [arC, Ar.min, Ar.max, Ar.item]
theorem obC_eq (a b : Ob) : obC a b = orI (lcmp tcmp a.names b.names) (orI (lcmp trC a.must b.must) (orI (lcmp tyC a.fields b.fields) (tyC a.rest b.rest))) := by cases a; simp only [obC, tysC_eq, Ob.names, Ob.must, Ob.fields, Ob.rest]
theorem fields_formed : ∀ {l : List Ty} {ms : List Bool}, fieldsOk l ms = true → ∀ x ∈ l, tformed x = true
  | [], _, _, x, h => by simp at h
  | y :: l, ms, h, x, hx => by
    simp only [fieldsOk, Bool.and_eq_true] at h
    rcases List.mem_cons.1 hx with rfl | hx
    · exact h.1.1
    · exact fields_formed h.2 x hx
theorem tformed_ar {t : Ty} (h : tformed t = true) : ∀ x ∈ t.arrays, -1 ≤ x.max ∧ tformed x.item = true := by
  rw [tformed_eq] at h
  simp only [Bool.and_eq_true, List.all_eq_true] at h
  intro x hx
  have := h.2.2.1.2 x hx
  rw [arOk_eq] at this
  simp only [Bool.and_eq_true, Bool.not_eq_true', Bool.or_eq_false_iff, decide_eq_false_iff_not] at this
  exact ⟨by omega, this.2.1⟩
theorem tformed_ob {t : Ty} (h : tformed t = true) : ∀ x ∈ t.objects, (∀ y ∈ x.fields, tformed y = true) ∧ tformed x.rest = true := by
  rw [tformed_eq] at h
  simp only [Bool.and_eq_true, List.all_eq_true] at h
  intro x hx
  have := h.2.2.2 x hx
  rw [obOk_eq] at this
  simp only [Bool.and_eq_true] at this
  exact ⟨fields_formed this.2, this.1.2⟩
theorem ar_lt {t : Ty} {x : Ar} (h : x ∈ t.arrays) : x.item.bk < t.bk := by
  have h1 := arBk_mem h
  have h2 := Ty.bk_eq t
  have h3 := Ar.bk_eq x
  omega
theorem ob_lt {t : Ty} {x : Ob} (h : x ∈ t.objects) : x.rest.bk < t.bk ∧ ∀ y ∈ x.fields, y.bk < t.bk := by
  have h1 := obBk_mem h
  have h2 := Ty.bk_eq t
  have h3 := Ob.bk_eq x
  exact ⟨by omega, fun y hy => by have := tyBk_mem hy; omega⟩
theorem tyC_pre : Pre (fun t : Ty => tformed t = true) tyC := by
  have key : ∀ n, Pre (fun t : Ty => t.bk < n ∧ tformed t = true) tyC := by
    intro n
    induction n with
    | zero => exact ⟨fun a _ h => by omega, fun a _ h => by omega, fun a _ _ h => by omega⟩
    | succ n ih =>
      have har : Pre (fun x : Ar => -1 ≤ x.max ∧ x.item.bk < n ∧ tformed x.item = true) arC :=
        Pre.congr (Pre.or (Pre.comap (f := Ar.min) icmp_pre fun _ _ => trivial) (Pre.or (Pre.comap (f := Ar.max) moC_pre fun _ h => h.1) (Pre.comap (f := Ar.item) ih fun _ h => h.2))) arC_eq
      have hob : Pre (fun x : Ob => (∀ y ∈ x.fields, y.bk < n ∧ tformed y = true) ∧ x.rest.bk < n ∧ tformed x.rest = true) obC :=
        Pre.congr (Pre.or (Pre.comap (f := Ob.names) (Pre.list tcmp_good.pre) fun _ _ _ _ => trivial) (Pre.or (Pre.comap (f := Ob.must) (Pre.list trC_pre) fun _ _ _ _ => trivial) (Pre.or (Pre.comap (f := Ob.fields) (Pre.list ih) fun _ h => h.1) (Pre.comap (f := Ob.rest) ih fun _ h => h.2)))) obC_eq
      refine Pre.congr ?_ tyC_eq
      refine Pre.or (Pre.comap (f := Ty.all) trC_pre fun _ _ => trivial) (Pre.or (Pre.comap (f := Ty.nul) trC_pre fun _ _ => trivial) (Pre.or (Pre.comap (f := Ty.fls) trC_pre fun _ _ => trivial) (Pre.or (Pre.comap (f := Ty.tru) trC_pre fun _ _ => trivial)
        (Pre.or (Pre.comap (f := Ty.nums) (Pre.list spC_pre) fun _ _ _ _ => trivial) (Pre.or (Pre.comap (f := Ty.anyText) trC_pre fun _ _ => trivial) (Pre.or (Pre.comap (f := Ty.texts) (Pre.list tcmp_good.pre) fun _ _ _ _ => trivial)
        (Pre.or (Pre.comap (f := Ty.arrays) (Pre.list har) fun a ha x hx => ?_) (Pre.comap (f := Ty.objects) (Pre.list hob) fun a ha x hx => ?_))))))))
      · have := ar_lt hx
        have := tformed_ar ha.2 x hx
        exact ⟨this.1, by omega, this.2⟩
      · have h1 := ob_lt hx
        have h2 := tformed_ob ha.2 x hx
        exact ⟨fun y hy => ⟨by have := h1.2 y hy; omega, h2.1 y hy⟩, by omega, h2.2⟩
  refine ⟨fun a b ha hb => ?_, fun a b ha hb => ?_, fun a b d ha hb hd => ?_⟩
  · exact (key (a.bk + b.bk + 1)).rng a b ⟨by omega, ha⟩ ⟨by omega, hb⟩
  · exact (key (a.bk + b.bk + 1)).anti a b ⟨by omega, ha⟩ ⟨by omega, hb⟩
  · exact (key (a.bk + b.bk + d.bk + 1)).trans a b d ⟨by omega, ha⟩ ⟨by omega, hb⟩ ⟨by omega, hd⟩
theorem lcmp_zero {α : Type} {c : α → α → Int} : ∀ {l m : List α}, (∀ a ∈ l, ∀ b, c a b = 0 → a = b) → lcmp c l m = 0 → l = m
  | [], [], _, _ => rfl
  | [], _ :: _, _, h => by simp [lcmp] at h
  | _ :: _, [], _, h => by simp [lcmp] at h
  | a :: l, b :: m, he, h => by
    obtain ⟨h1, h2⟩ := orI_zero (show orI (c a b) (lcmp c l m) = 0 from h)
    rw [he a (by simp) b h1, lcmp_zero (fun x hx => he x (by simp [hx])) h2]
theorem tyC_zero : ∀ {a b : Ty}, tyC a b = 0 → a = b := by
  intro a
  induction a using Ty.ind with
  | h a ih =>
  intro b h
  rw [tyC_eq] at h
  obtain ⟨h1, h⟩ := orI_zero h
  obtain ⟨h2, h⟩ := orI_zero h
  obtain ⟨h3, h⟩ := orI_zero h
  obtain ⟨h4, h⟩ := orI_zero h
  obtain ⟨h5, h⟩ := orI_zero h
  obtain ⟨h6, h⟩ := orI_zero h
  obtain ⟨h7, h⟩ := orI_zero h
  obtain ⟨h8, h9⟩ := orI_zero h
  have e1 := trC_zero h1
  have e2 := trC_zero h2
  have e3 := trC_zero h3
  have e4 := trC_zero h4
  have e5 := lcmp_zero (fun a _ b h => spC_zero h) h5
  have e6 := trC_zero h6
  have e7 := lcmp_zero (fun a _ b h => tcmp_good.eq a b trivial trivial h) h7
  have e8 := lcmp_zero (fun x hx y h => by
    rw [arC_eq] at h
    obtain ⟨k1, h⟩ := orI_zero h
    obtain ⟨k2, k3⟩ := orI_zero h
    have q1 := icmp_eq k1
    have q2 := moC_zero k2
    have q3 := ih x.item (ar_lt hx) k3
    cases x; cases y
    simp only [Ar.min, Ar.max, Ar.item] at q1 q2 q3
    subst q1; subst q2; subst q3; rfl) h8
  have e9 := lcmp_zero (fun x hx y h => by
    rw [obC_eq] at h
    obtain ⟨k1, h⟩ := orI_zero h
    obtain ⟨k2, h⟩ := orI_zero h
    obtain ⟨k3, k4⟩ := orI_zero h
    have q1 := lcmp_zero (fun a _ b h => tcmp_good.eq a b trivial trivial h) k1
    have q2 := lcmp_zero (fun a _ b h => trC_zero h) k2
    have q3 := lcmp_zero (fun z hz w h => ih z ((ob_lt hx).2 z hz) h) k3
    have q4 := ih x.rest (ob_lt hx).1 k4
    cases x; cases y
    simp only [Ob.names, Ob.must, Ob.fields, Ob.rest] at q1 q2 q3 q4
    subst q1; subst q2; subst q3; subst q4; rfl) h9
  cases a; cases b
  simp only [Ty.all, Ty.nul, Ty.fls, Ty.tru, Ty.nums, Ty.anyText, Ty.texts, Ty.arrays, Ty.objects] at *
  subst e1; subst e2; subst e3; subst e4; subst e5; subst e6; subst e7; subst e8; subst e9; rfl
end Hm

/- Types alike. Conditions: see each theorem. -/
namespace Hm
open Go (IntKind)
set_option maxHeartbeats 4000000
set_option maxRecDepth 4000
noncomputable def eqB {α : Type} (a b : α) : Bool := @decide (a = b) (Classical.propDecidable _)
theorem eqB_iff {α : Type} {a b : α} : eqB a b = true ↔ a = b := by simp [eqB]
theorem eqB_self {α : Type} (a : α) : eqB a a = true := eqB_iff.2 rfl
theorem eqB_ne {α : Type} {a b : α} (h : ¬ a = b) : eqB a b = false := by
  cases e : eqB a b with
  | false => rfl
  | true => exact absurd (eqB_iff.1 e) h
theorem arav6_eq (x : Ar) : AV.agg x.row = .agg [.bool x.item.all, .bool x.item.nul, .bool x.item.fls, .bool x.item.tru, .lst 2 (sprow x.item.nums), .bool x.item.anyText, .lst 1 (srow x.item.texts), .lst 11 (x.item.arrays.map Ar.row), .lst 12 (x.item.objects.map Ob.row), .int .i64 x.min, .int .i64 x.max] := by rw [Ar.row_eq]
theorem obav6_eq (x : Ob) : AV.agg x.row = .agg [.lst 1 (srow x.names), .lst 9 (x.fields.map Ty.row), .lst 1 (brow x.must), .bool x.rest.all, .bool x.rest.nul, .bool x.rest.fls, .bool x.rest.tru, .lst 2 (sprow x.rest.nums), .bool x.rest.anyText, .lst 1 (srow x.rest.texts), .lst 11 (x.rest.arrays.map Ar.row), .lst 12 (x.rest.objects.map Ob.row)] := by rw [Ob.row_eq]
theorem sameStrings_ret {T : Tab} (h : Fn T F.hallmarkkit_SameStrings hallmarkkit_SameStrings.fn) (l m : List Str) (hl : l.length ≤ 1073741824) (hm : m.length ≤ 1073741824) :
    Ret T F.hallmarkkit_SameStrings [.val (.lst 1 (srow l)), .val (.lst 1 (srow m))] (one (.bool (eqB l m))) := by
  have e1 : (srow l).length = l.length := srow_len l
  have e2 : (srow m).length = m.length := srow_len m
  refine Ret.mk h rfl ?_
  by_cases hlen : l.length = m.length
  · skip
    repeat' (first | refine WO.cons ?_ | refine WB.cons ?_ | refine WP.one ?_ | ((first | apply W1.add64 | apply W1.sub64); (iterate 3 exact rfl); omega; omega) | (apply W1.iadr; (iterate 3 exact rfl); omega; first | assumption | ((first | apply V.get_row | apply get_srow | apply get_ty | apply get_ar | apply get_ob | apply get_sprow | apply get_brow); assumption)) | (apply W1.idxS; (iterate 3 exact rfl); omega; omega) | (apply W1.slcS; (iterate 4 exact rfl); omega) | (apply W1.pickT; exact rfl; exact rfl; (first | with_reducible rfl | assumption | (simp only [bn]; first | omega | assumption | decide)); exact rfl) | (apply W1.pickF; exact rfl; exact rfl; (first | with_reducible rfl | assumption | (simp only [bn]; first | omega | assumption | decide)); exact rfl) | (apply W1.op; (iterate 3 exact rfl)) | (apply W1.no; exact rfl) | ((first | apply W1.knowT | apply W1.knowFn | apply WQ.knowT | apply WQ.knowFn | apply W.condT); exact rfl; (first | with_reducible rfl | assumption | (simp only [bn]; first | omega | assumption | decide))) | ((first | apply W1.knowTn | apply W1.knowF | apply WQ.knowTn | apply WQ.knowF | apply W.condF); exact rfl; (first | with_reducible rfl | assumption | (simp only [bn]; first | omega | assumption | decide))) | (apply WQ.go; exact rfl; exact rfl) | (apply WQ.no; exact rfl) | ((first | apply W1.bothT | apply W1.bothF | apply WQ.bothT | apply WQ.bothF | apply W.cond); exact rfl; all_goals intro hc; all_goals first | (cases hc; done) | ((try simp only [hc]); (try simp only [bm] at hc))) | refine WO.nil ?_ | refine WB.nil ?_ | refine WP.bag rfl ?_ | refine WP.nil ?_ | refine W.seq ?_ | refine W.reg ?_ | refine W.dreg ?_ | refine W.block ?_ | refine W.ret ?_ | refine W.skip ?_ | refine W.exit ?_ | (simp only [srow_len, List.length_map, Qit, Int.toNat_natCast, entry, Opd.eat, cellsOf, TV.ofCells, allAv, Qseq, Qblk, List.map_cons, List.map_nil, putD, kp, Nat.reduceEqDiff, ↓reduceIte, beq_self_eq_true, Nat.reduceBEq]))
    refine W.listP l (fun i (_ : Unit) s => s.put 5 (.av (.int .i64 (i : Int)))) (fun i _ => l.take i = m.take i) () rfl rfl ?_ ?_
    · intro i x u hx hi hp
      obtain ⟨y, hy⟩ : ∃ y, m[i]? = some y := ⟨m[i]'(by omega), List.getElem?_eq_getElem (by omega)⟩
      by_cases hxy : x = y
      · subst hxy
        repeat' (first | refine WO.cons ?_ | refine WB.cons ?_ | refine WP.one ?_ | ((first | apply W1.add64 | apply W1.sub64); (iterate 3 exact rfl); omega; omega) | (apply W1.iadr; (iterate 3 exact rfl); omega; first | assumption | ((first | apply V.get_row | apply get_srow | apply get_ty | apply get_ar | apply get_ob | apply get_sprow | apply get_brow); assumption)) | (apply W1.idxS; (iterate 3 exact rfl); omega; omega) | (apply W1.slcS; (iterate 4 exact rfl); omega) | (apply W1.pickT; exact rfl; exact rfl; (first | with_reducible rfl | assumption | (simp only [bn]; first | omega | assumption | decide)); exact rfl) | (apply W1.pickF; exact rfl; exact rfl; (first | with_reducible rfl | assumption | (simp only [bn]; first | omega | assumption | decide)); exact rfl) | (apply W1.op; (iterate 3 exact rfl)) | (apply W1.no; exact rfl) | ((first | apply W1.knowT | apply W1.knowFn | apply WQ.knowT | apply WQ.knowFn | apply W.condT); exact rfl; (first | with_reducible rfl | assumption | (simp only [bn]; first | omega | assumption | decide))) | ((first | apply W1.knowTn | apply W1.knowF | apply WQ.knowTn | apply WQ.knowF | apply W.condF); exact rfl; (first | with_reducible rfl | assumption | (simp only [bn]; first | omega | assumption | decide))) | (apply WQ.go; exact rfl; exact rfl) | (apply WQ.no; exact rfl) | ((first | apply W1.bothT | apply W1.bothF | apply WQ.bothT | apply WQ.bothF | apply W.cond); exact rfl; all_goals intro hc; all_goals first | (cases hc; done) | ((try simp only [hc]); (try simp only [bm] at hc))) | refine WO.nil ?_ | refine WB.nil ?_ | refine WP.bag rfl ?_ | refine WP.nil ?_ | refine W.seq ?_ | refine W.reg ?_ | refine W.dreg ?_ | refine W.block ?_ | refine W.ret ?_ | refine W.skip ?_ | refine W.exit ?_ | (simp only [srow_len, List.length_map, Qit, Int.toNat_natCast, entry, Opd.eat, cellsOf, TV.ofCells, allAv, Qseq, Qblk, List.map_cons, List.map_nil, putD, kp, Nat.reduceEqDiff, ↓reduceIte, beq_self_eq_true, Nat.reduceBEq]))
        all_goals first | exact ⟨(), by rw [List.take_add_one, List.take_add_one, hp, hx, hy], rfl⟩ | (exfalso; simp_all; done)
      · have hne : ¬ l = m := fun e => by rw [e, hy] at hx; cases hx; exact hxy rfl
        repeat' (first | refine WO.cons ?_ | refine WB.cons ?_ | refine WP.one ?_ | ((first | apply W1.add64 | apply W1.sub64); (iterate 3 exact rfl); omega; omega) | (apply W1.iadr; (iterate 3 exact rfl); omega; first | assumption | ((first | apply V.get_row | apply get_srow | apply get_ty | apply get_ar | apply get_ob | apply get_sprow | apply get_brow); assumption)) | (apply W1.idxS; (iterate 3 exact rfl); omega; omega) | (apply W1.slcS; (iterate 4 exact rfl); omega) | (apply W1.pickT; exact rfl; exact rfl; (first | with_reducible rfl | assumption | (simp only [bn]; first | omega | assumption | decide)); exact rfl) | (apply W1.pickF; exact rfl; exact rfl; (first | with_reducible rfl | assumption | (simp only [bn]; first | omega | assumption | decide)); exact rfl) | (apply W1.op; (iterate 3 exact rfl)) | (apply W1.no; exact rfl) | ((first | apply W1.knowT | apply W1.knowFn | apply WQ.knowT | apply WQ.knowFn | apply W.condT); exact rfl; (first | with_reducible rfl | assumption | (simp only [bn]; first | omega | assumption | decide))) | ((first | apply W1.knowTn | apply W1.knowF | apply WQ.knowTn | apply WQ.knowF | apply W.condF); exact rfl; (first | with_reducible rfl | assumption | (simp only [bn]; first | omega | assumption | decide))) | (apply WQ.go; exact rfl; exact rfl) | (apply WQ.no; exact rfl) | ((first | apply W1.bothT | apply W1.bothF | apply WQ.bothT | apply WQ.bothF | apply W.cond); exact rfl; all_goals intro hc; all_goals first | (cases hc; done) | ((try simp only [hc]); (try simp only [bm] at hc))) | refine WO.nil ?_ | refine WB.nil ?_ | refine WP.bag rfl ?_ | refine WP.nil ?_ | refine W.seq ?_ | refine W.reg ?_ | refine W.dreg ?_ | refine W.block ?_ | refine W.ret ?_ | refine W.skip ?_ | refine W.exit ?_ | (simp only [srow_len, List.length_map, Qit, Int.toNat_natCast, entry, Opd.eat, cellsOf, TV.ofCells, allAv, Qseq, Qblk, List.map_cons, List.map_nil, putD, kp, Nat.reduceEqDiff, ↓reduceIte, beq_self_eq_true, Nat.reduceBEq]))
        all_goals first | exact Qend.boo rfl rfl (eqB_ne hne).symm | (exfalso; simp_all; done)
    · intro u hp
      rw [List.take_length, hlen, List.take_length] at hp
      subst hp
      repeat' (first | refine WO.cons ?_ | refine WB.cons ?_ | refine WP.one ?_ | ((first | apply W1.add64 | apply W1.sub64); (iterate 3 exact rfl); omega; omega) | (apply W1.iadr; (iterate 3 exact rfl); omega; first | assumption | ((first | apply V.get_row | apply get_srow | apply get_ty | apply get_ar | apply get_ob | apply get_sprow | apply get_brow); assumption)) | (apply W1.idxS; (iterate 3 exact rfl); omega; omega) | (apply W1.slcS; (iterate 4 exact rfl); omega) | (apply W1.pickT; exact rfl; exact rfl; (first | with_reducible rfl | assumption | (simp only [bn]; first | omega | assumption | decide)); exact rfl) | (apply W1.pickF; exact rfl; exact rfl; (first | with_reducible rfl | assumption | (simp only [bn]; first | omega | assumption | decide)); exact rfl) | (apply W1.op; (iterate 3 exact rfl)) | (apply W1.no; exact rfl) | ((first | apply W1.knowT | apply W1.knowFn | apply WQ.knowT | apply WQ.knowFn | apply W.condT); exact rfl; (first | with_reducible rfl | assumption | (simp only [bn]; first | omega | assumption | decide))) | ((first | apply W1.knowTn | apply W1.knowF | apply WQ.knowTn | apply WQ.knowF | apply W.condF); exact rfl; (first | with_reducible rfl | assumption | (simp only [bn]; first | omega | assumption | decide))) | (apply WQ.go; exact rfl; exact rfl) | (apply WQ.no; exact rfl) | ((first | apply W1.bothT | apply W1.bothF | apply WQ.bothT | apply WQ.bothF | apply W.cond); exact rfl; all_goals intro hc; all_goals first | (cases hc; done) | ((try simp only [hc]); (try simp only [bm] at hc))) | refine WO.nil ?_ | refine WB.nil ?_ | refine WP.bag rfl ?_ | refine WP.nil ?_ | refine W.seq ?_ | refine W.reg ?_ | refine W.dreg ?_ | refine W.block ?_ | refine W.ret ?_ | refine W.skip ?_ | refine W.exit ?_ | (simp only [srow_len, List.length_map, Qit, Int.toNat_natCast, entry, Opd.eat, cellsOf, TV.ofCells, allAv, Qseq, Qblk, List.map_cons, List.map_nil, putD, kp, Nat.reduceEqDiff, ↓reduceIte, beq_self_eq_true, Nat.reduceBEq]))
      exact Qend.boo rfl rfl (eqB_self l).symm
  · have hne : ¬ l = m := fun e => hlen (by rw [e])
    repeat' (first | refine WO.cons ?_ | refine WB.cons ?_ | refine WP.one ?_ | ((first | apply W1.add64 | apply W1.sub64); (iterate 3 exact rfl); omega; omega) | (apply W1.iadr; (iterate 3 exact rfl); omega; first | assumption | ((first | apply V.get_row | apply get_srow | apply get_ty | apply get_ar | apply get_ob | apply get_sprow | apply get_brow); assumption)) | (apply W1.idxS; (iterate 3 exact rfl); omega; omega) | (apply W1.slcS; (iterate 4 exact rfl); omega) | (apply W1.pickT; exact rfl; exact rfl; (first | with_reducible rfl | assumption | (simp only [bn]; first | omega | assumption | decide)); exact rfl) | (apply W1.pickF; exact rfl; exact rfl; (first | with_reducible rfl | assumption | (simp only [bn]; first | omega | assumption | decide)); exact rfl) | (apply W1.op; (iterate 3 exact rfl)) | (apply W1.no; exact rfl) | ((first | apply W1.knowT | apply W1.knowFn | apply WQ.knowT | apply WQ.knowFn | apply W.condT); exact rfl; (first | with_reducible rfl | assumption | (simp only [bn]; first | omega | assumption | decide))) | ((first | apply W1.knowTn | apply W1.knowF | apply WQ.knowTn | apply WQ.knowF | apply W.condF); exact rfl; (first | with_reducible rfl | assumption | (simp only [bn]; first | omega | assumption | decide))) | (apply WQ.go; exact rfl; exact rfl) | (apply WQ.no; exact rfl) | ((first | apply W1.bothT | apply W1.bothF | apply WQ.bothT | apply WQ.bothF | apply W.cond); exact rfl; all_goals intro hc; all_goals first | (cases hc; done) | ((try simp only [hc]); (try simp only [bm] at hc))) | refine WO.nil ?_ | refine WB.nil ?_ | refine WP.bag rfl ?_ | refine WP.nil ?_ | refine W.seq ?_ | refine W.reg ?_ | refine W.dreg ?_ | refine W.block ?_ | refine W.ret ?_ | refine W.skip ?_ | refine W.exit ?_ | (simp only [srow_len, List.length_map, Qit, Int.toNat_natCast, entry, Opd.eat, cellsOf, TV.ofCells, allAv, Qseq, Qblk, List.map_cons, List.map_nil, putD, kp, Nat.reduceEqDiff, ↓reduceIte, beq_self_eq_true, Nat.reduceBEq]))
    all_goals first | exact Qend.boo rfl rfl (eqB_ne hne).symm | (exfalso; omega)
theorem sameBools_ret {T : Tab} (h : Fn T F.hallmarkkit_SameBools hallmarkkit_SameBools.fn) (l m : List Bool) (hl : l.length ≤ 1073741824) (hm : m.length ≤ 1073741824) :
    Ret T F.hallmarkkit_SameBools [.val (.lst 1 (brow l)), .val (.lst 1 (brow m))] (one (.bool (eqB l m))) := by
  have e1 : (brow l).length = l.length := brow_len l
  have e2 : (brow m).length = m.length := brow_len m
  refine Ret.mk h rfl ?_
  by_cases hlen : l.length = m.length
  · skip
    repeat' (first | refine WO.cons ?_ | refine WB.cons ?_ | refine WP.one ?_ | ((first | apply W1.add64 | apply W1.sub64); (iterate 3 exact rfl); omega; omega) | (apply W1.iadr; (iterate 3 exact rfl); omega; first | assumption | ((first | apply V.get_row | apply get_srow | apply get_ty | apply get_ar | apply get_ob | apply get_sprow | apply get_brow); assumption)) | (apply W1.idxS; (iterate 3 exact rfl); omega; omega) | (apply W1.slcS; (iterate 4 exact rfl); omega) | (apply W1.pickT; exact rfl; exact rfl; (first | with_reducible rfl | assumption | (simp only [bn]; first | omega | assumption | decide)); exact rfl) | (apply W1.pickF; exact rfl; exact rfl; (first | with_reducible rfl | assumption | (simp only [bn]; first | omega | assumption | decide)); exact rfl) | (apply W1.op; (iterate 3 exact rfl)) | (apply W1.no; exact rfl) | ((first | apply W1.knowT | apply W1.knowFn | apply WQ.knowT | apply WQ.knowFn | apply W.condT); exact rfl; (first | with_reducible rfl | assumption | (simp only [bn]; first | omega | assumption | decide))) | ((first | apply W1.knowTn | apply W1.knowF | apply WQ.knowTn | apply WQ.knowF | apply W.condF); exact rfl; (first | with_reducible rfl | assumption | (simp only [bn]; first | omega | assumption | decide))) | (apply WQ.go; exact rfl; exact rfl) | (apply WQ.no; exact rfl) | ((first | apply W1.bothT | apply W1.bothF | apply WQ.bothT | apply WQ.bothF | apply W.cond); exact rfl; all_goals intro hc; all_goals first | (cases hc; done) | ((try simp only [hc]); (try simp only [bm] at hc))) | refine WO.nil ?_ | refine WB.nil ?_ | refine WP.bag rfl ?_ | refine WP.nil ?_ | refine W.seq ?_ | refine W.reg ?_ | refine W.dreg ?_ | refine W.block ?_ | refine W.ret ?_ | refine W.skip ?_ | refine W.exit ?_ | (simp only [srow_len, List.length_map, Qit, Int.toNat_natCast, entry, Opd.eat, cellsOf, TV.ofCells, allAv, Qseq, Qblk, List.map_cons, List.map_nil, putD, kp, Nat.reduceEqDiff, ↓reduceIte, beq_self_eq_true, Nat.reduceBEq]))
    refine W.listP l (fun i (_ : Unit) s => s.put 5 (.av (.int .i64 (i : Int)))) (fun i _ => l.take i = m.take i) () rfl rfl ?_ ?_
    · intro i x u hx hi hp
      obtain ⟨y, hy⟩ : ∃ y, m[i]? = some y := ⟨m[i]'(by omega), List.getElem?_eq_getElem (by omega)⟩
      by_cases hxy : x = y
      · subst hxy
        repeat' (first | refine WO.cons ?_ | refine WB.cons ?_ | refine WP.one ?_ | ((first | apply W1.add64 | apply W1.sub64); (iterate 3 exact rfl); omega; omega) | (apply W1.iadr; (iterate 3 exact rfl); omega; first | assumption | ((first | apply V.get_row | apply get_srow | apply get_ty | apply get_ar | apply get_ob | apply get_sprow | apply get_brow); assumption)) | (apply W1.idxS; (iterate 3 exact rfl); omega; omega) | (apply W1.slcS; (iterate 4 exact rfl); omega) | (apply W1.pickT; exact rfl; exact rfl; (first | with_reducible rfl | assumption | (simp only [bn]; first | omega | assumption | decide)); exact rfl) | (apply W1.pickF; exact rfl; exact rfl; (first | with_reducible rfl | assumption | (simp only [bn]; first | omega | assumption | decide)); exact rfl) | (apply W1.op; (iterate 3 exact rfl)) | (apply W1.no; exact rfl) | ((first | apply W1.knowT | apply W1.knowFn | apply WQ.knowT | apply WQ.knowFn | apply W.condT); exact rfl; (first | with_reducible rfl | assumption | (simp only [bn]; first | omega | assumption | decide))) | ((first | apply W1.knowTn | apply W1.knowF | apply WQ.knowTn | apply WQ.knowF | apply W.condF); exact rfl; (first | with_reducible rfl | assumption | (simp only [bn]; first | omega | assumption | decide))) | (apply WQ.go; exact rfl; exact rfl) | (apply WQ.no; exact rfl) | ((first | apply W1.bothT | apply W1.bothF | apply WQ.bothT | apply WQ.bothF | apply W.cond); exact rfl; all_goals intro hc; all_goals first | (cases hc; done) | ((try simp only [hc]); (try simp only [bm] at hc))) | refine WO.nil ?_ | refine WB.nil ?_ | refine WP.bag rfl ?_ | refine WP.nil ?_ | refine W.seq ?_ | refine W.reg ?_ | refine W.dreg ?_ | refine W.block ?_ | refine W.ret ?_ | refine W.skip ?_ | refine W.exit ?_ | (simp only [srow_len, List.length_map, Qit, Int.toNat_natCast, entry, Opd.eat, cellsOf, TV.ofCells, allAv, Qseq, Qblk, List.map_cons, List.map_nil, putD, kp, Nat.reduceEqDiff, ↓reduceIte, beq_self_eq_true, Nat.reduceBEq]))
        all_goals first | exact ⟨(), by rw [List.take_add_one, List.take_add_one, hp, hx, hy], rfl⟩ | (exfalso; simp_all; done)
      · have hne : ¬ l = m := fun e => by rw [e, hy] at hx; cases hx; exact hxy rfl
        repeat' (first | refine WO.cons ?_ | refine WB.cons ?_ | refine WP.one ?_ | ((first | apply W1.add64 | apply W1.sub64); (iterate 3 exact rfl); omega; omega) | (apply W1.iadr; (iterate 3 exact rfl); omega; first | assumption | ((first | apply V.get_row | apply get_srow | apply get_ty | apply get_ar | apply get_ob | apply get_sprow | apply get_brow); assumption)) | (apply W1.idxS; (iterate 3 exact rfl); omega; omega) | (apply W1.slcS; (iterate 4 exact rfl); omega) | (apply W1.pickT; exact rfl; exact rfl; (first | with_reducible rfl | assumption | (simp only [bn]; first | omega | assumption | decide)); exact rfl) | (apply W1.pickF; exact rfl; exact rfl; (first | with_reducible rfl | assumption | (simp only [bn]; first | omega | assumption | decide)); exact rfl) | (apply W1.op; (iterate 3 exact rfl)) | (apply W1.no; exact rfl) | ((first | apply W1.knowT | apply W1.knowFn | apply WQ.knowT | apply WQ.knowFn | apply W.condT); exact rfl; (first | with_reducible rfl | assumption | (simp only [bn]; first | omega | assumption | decide))) | ((first | apply W1.knowTn | apply W1.knowF | apply WQ.knowTn | apply WQ.knowF | apply W.condF); exact rfl; (first | with_reducible rfl | assumption | (simp only [bn]; first | omega | assumption | decide))) | (apply WQ.go; exact rfl; exact rfl) | (apply WQ.no; exact rfl) | ((first | apply W1.bothT | apply W1.bothF | apply WQ.bothT | apply WQ.bothF | apply W.cond); exact rfl; all_goals intro hc; all_goals first | (cases hc; done) | ((try simp only [hc]); (try simp only [bm] at hc))) | refine WO.nil ?_ | refine WB.nil ?_ | refine WP.bag rfl ?_ | refine WP.nil ?_ | refine W.seq ?_ | refine W.reg ?_ | refine W.dreg ?_ | refine W.block ?_ | refine W.ret ?_ | refine W.skip ?_ | refine W.exit ?_ | (simp only [srow_len, List.length_map, Qit, Int.toNat_natCast, entry, Opd.eat, cellsOf, TV.ofCells, allAv, Qseq, Qblk, List.map_cons, List.map_nil, putD, kp, Nat.reduceEqDiff, ↓reduceIte, beq_self_eq_true, Nat.reduceBEq]))
        all_goals first | exact Qend.boo rfl rfl (eqB_ne hne).symm | (exfalso; simp_all; done)
    · intro u hp
      rw [List.take_length, hlen, List.take_length] at hp
      subst hp
      repeat' (first | refine WO.cons ?_ | refine WB.cons ?_ | refine WP.one ?_ | ((first | apply W1.add64 | apply W1.sub64); (iterate 3 exact rfl); omega; omega) | (apply W1.iadr; (iterate 3 exact rfl); omega; first | assumption | ((first | apply V.get_row | apply get_srow | apply get_ty | apply get_ar | apply get_ob | apply get_sprow | apply get_brow); assumption)) | (apply W1.idxS; (iterate 3 exact rfl); omega; omega) | (apply W1.slcS; (iterate 4 exact rfl); omega) | (apply W1.pickT; exact rfl; exact rfl; (first | with_reducible rfl | assumption | (simp only [bn]; first | omega | assumption | decide)); exact rfl) | (apply W1.pickF; exact rfl; exact rfl; (first | with_reducible rfl | assumption | (simp only [bn]; first | omega | assumption | decide)); exact rfl) | (apply W1.op; (iterate 3 exact rfl)) | (apply W1.no; exact rfl) | ((first | apply W1.knowT | apply W1.knowFn | apply WQ.knowT | apply WQ.knowFn | apply W.condT); exact rfl; (first | with_reducible rfl | assumption | (simp only [bn]; first | omega | assumption | decide))) | ((first | apply W1.knowTn | apply W1.knowF | apply WQ.knowTn | apply WQ.knowF | apply W.condF); exact rfl; (first | with_reducible rfl | assumption | (simp only [bn]; first | omega | assumption | decide))) | (apply WQ.go; exact rfl; exact rfl) | (apply WQ.no; exact rfl) | ((first | apply W1.bothT | apply W1.bothF | apply WQ.bothT | apply WQ.bothF | apply W.cond); exact rfl; all_goals intro hc; all_goals first | (cases hc; done) | ((try simp only [hc]); (try simp only [bm] at hc))) | refine WO.nil ?_ | refine WB.nil ?_ | refine WP.bag rfl ?_ | refine WP.nil ?_ | refine W.seq ?_ | refine W.reg ?_ | refine W.dreg ?_ | refine W.block ?_ | refine W.ret ?_ | refine W.skip ?_ | refine W.exit ?_ | (simp only [srow_len, List.length_map, Qit, Int.toNat_natCast, entry, Opd.eat, cellsOf, TV.ofCells, allAv, Qseq, Qblk, List.map_cons, List.map_nil, putD, kp, Nat.reduceEqDiff, ↓reduceIte, beq_self_eq_true, Nat.reduceBEq]))
      exact Qend.boo rfl rfl (eqB_self l).symm
  · have hne : ¬ l = m := fun e => hlen (by rw [e])
    repeat' (first | refine WO.cons ?_ | refine WB.cons ?_ | refine WP.one ?_ | ((first | apply W1.add64 | apply W1.sub64); (iterate 3 exact rfl); omega; omega) | (apply W1.iadr; (iterate 3 exact rfl); omega; first | assumption | ((first | apply V.get_row | apply get_srow | apply get_ty | apply get_ar | apply get_ob | apply get_sprow | apply get_brow); assumption)) | (apply W1.idxS; (iterate 3 exact rfl); omega; omega) | (apply W1.slcS; (iterate 4 exact rfl); omega) | (apply W1.pickT; exact rfl; exact rfl; (first | with_reducible rfl | assumption | (simp only [bn]; first | omega | assumption | decide)); exact rfl) | (apply W1.pickF; exact rfl; exact rfl; (first | with_reducible rfl | assumption | (simp only [bn]; first | omega | assumption | decide)); exact rfl) | (apply W1.op; (iterate 3 exact rfl)) | (apply W1.no; exact rfl) | ((first | apply W1.knowT | apply W1.knowFn | apply WQ.knowT | apply WQ.knowFn | apply W.condT); exact rfl; (first | with_reducible rfl | assumption | (simp only [bn]; first | omega | assumption | decide))) | ((first | apply W1.knowTn | apply W1.knowF | apply WQ.knowTn | apply WQ.knowF | apply W.condF); exact rfl; (first | with_reducible rfl | assumption | (simp only [bn]; first | omega | assumption | decide))) | (apply WQ.go; exact rfl; exact rfl) | (apply WQ.no; exact rfl) | ((first | apply W1.bothT | apply W1.bothF | apply WQ.bothT | apply WQ.bothF | apply W.cond); exact rfl; all_goals intro hc; all_goals first | (cases hc; done) | ((try simp only [hc]); (try simp only [bm] at hc))) | refine WO.nil ?_ | refine WB.nil ?_ | refine WP.bag rfl ?_ | refine WP.nil ?_ | refine W.seq ?_ | refine W.reg ?_ | refine W.dreg ?_ | refine W.block ?_ | refine W.ret ?_ | refine W.skip ?_ | refine W.exit ?_ | (simp only [srow_len, List.length_map, Qit, Int.toNat_natCast, entry, Opd.eat, cellsOf, TV.ofCells, allAv, Qseq, Qblk, List.map_cons, List.map_nil, putD, kp, Nat.reduceEqDiff, ↓reduceIte, beq_self_eq_true, Nat.reduceBEq]))
    all_goals first | exact Qend.boo rfl rfl (eqB_ne hne).symm | (exfalso; omega)
theorem sameSpans_ret {T : Tab} (h : Fn T F.hallmarkkit_SameSpans hallmarkkit_SameSpans.fn) (l m : List Spn) (hl : l.length ≤ 1073741824) (hm : m.length ≤ 1073741824)
    (hg : Fn T F.hallmarkkit_SameSpan hallmarkkit_SameSpan.fn) (ih : ∀ x ∈ l, ∀ y ∈ m, Ret T F.hallmarkkit_SameSpan [.val (.agg [.str x.1, .str x.2]), .val (.agg [.str y.1, .str y.2])] (one (.bool (eqB x y)))) :
    Ret T F.hallmarkkit_SameSpans [.val (.lst 2 (sprow l)), .val (.lst 2 (sprow m))] (one (.bool (eqB l m))) := by
  have e1 : (sprow l).length = l.length := sprow_len l
  have e2 : (sprow m).length = m.length := sprow_len m
  refine Ret.mk h rfl ?_
  by_cases hlen : l.length = m.length
  · skip
    repeat' (first | refine WO.cons ?_ | refine WB.cons ?_ | refine WP.one ?_ | ((first | apply W1.add64 | apply W1.sub64); (iterate 3 exact rfl); omega; omega) | (apply W1.iadr; (iterate 3 exact rfl); omega; first | assumption | ((first | apply V.get_row | apply get_srow | apply get_ty | apply get_ar | apply get_ob | apply get_sprow | apply get_brow); assumption)) | (apply W1.idxS; (iterate 3 exact rfl); omega; omega) | (apply W1.slcS; (iterate 4 exact rfl); omega) | (apply W1.pickT; exact rfl; exact rfl; (first | with_reducible rfl | assumption | (simp only [bn]; first | omega | assumption | decide)); exact rfl) | (apply W1.pickF; exact rfl; exact rfl; (first | with_reducible rfl | assumption | (simp only [bn]; first | omega | assumption | decide)); exact rfl) | (apply W1.op; (iterate 3 exact rfl)) | (apply W1.no; exact rfl) | ((first | apply W1.knowT | apply W1.knowFn | apply WQ.knowT | apply WQ.knowFn | apply W.condT); exact rfl; (first | with_reducible rfl | assumption | (simp only [bn]; first | omega | assumption | decide))) | ((first | apply W1.knowTn | apply W1.knowF | apply WQ.knowTn | apply WQ.knowF | apply W.condF); exact rfl; (first | with_reducible rfl | assumption | (simp only [bn]; first | omega | assumption | decide))) | (apply WQ.go; exact rfl; exact rfl) | (apply WQ.no; exact rfl) | ((first | apply W1.bothT | apply W1.bothF | apply WQ.bothT | apply WQ.bothF | apply W.cond); exact rfl; all_goals intro hc; all_goals first | (cases hc; done) | ((try simp only [hc]); (try simp only [bm] at hc))) | refine WO.nil ?_ | refine WB.nil ?_ | refine WP.bag rfl ?_ | refine WP.nil ?_ | refine W.seq ?_ | refine W.reg ?_ | refine W.dreg ?_ | refine W.block ?_ | refine W.ret ?_ | refine W.skip ?_ | refine W.exit ?_ | (simp only [srow_len, List.length_map, Qit, Int.toNat_natCast, entry, Opd.eat, cellsOf, TV.ofCells, allAv, Qseq, Qblk, List.map_cons, List.map_nil, putD, kp, Nat.reduceEqDiff, ↓reduceIte, beq_self_eq_true, Nat.reduceBEq]))
    refine W.listP l (fun i (_ : Unit) s => s.put 5 (.av (.int .i64 (i : Int)))) (fun i _ => l.take i = m.take i) () rfl rfl ?_ ?_
    · intro i x u hx hi hp
      obtain ⟨y, hy⟩ : ∃ y, m[i]? = some y := ⟨m[i]'(by omega), List.getElem?_eq_getElem (by omega)⟩
      have r := ih x (List.mem_of_getElem? hx) y (List.mem_of_getElem? hy)
      by_cases hxy : x = y
      · subst hxy
        rw [eqB_self] at r
        repeat' (first | refine WO.cons ?_ | refine WB.cons ?_ | refine WP.one ?_ | (first | (apply WQ.call (hm := hg.modes); (iterate 4 exact rfl)) | (apply W1.callV (hm := hg.modes); (iterate 5 exact rfl); exact (r); exact rfl)) | ((first | apply W1.add64 | apply W1.sub64); (iterate 3 exact rfl); omega; omega) | (apply W1.iadr; (iterate 3 exact rfl); omega; first | assumption | ((first | apply V.get_row | apply get_srow | apply get_ty | apply get_ar | apply get_ob | apply get_sprow | apply get_brow); assumption)) | (apply W1.idxS; (iterate 3 exact rfl); omega; omega) | (apply W1.slcS; (iterate 4 exact rfl); omega) | (apply W1.pickT; exact rfl; exact rfl; (first | with_reducible rfl | assumption | (simp only [bn]; first | omega | assumption | decide)); exact rfl) | (apply W1.pickF; exact rfl; exact rfl; (first | with_reducible rfl | assumption | (simp only [bn]; first | omega | assumption | decide)); exact rfl) | (apply W1.op; (iterate 3 exact rfl)) | (apply W1.no; exact rfl) | ((first | apply W1.knowT | apply W1.knowFn | apply WQ.knowT | apply WQ.knowFn | apply W.condT); exact rfl; (first | with_reducible rfl | assumption | (simp only [bn]; first | omega | assumption | decide))) | ((first | apply W1.knowTn | apply W1.knowF | apply WQ.knowTn | apply WQ.knowF | apply W.condF); exact rfl; (first | with_reducible rfl | assumption | (simp only [bn]; first | omega | assumption | decide))) | (apply WQ.go; exact rfl; exact rfl) | (apply WQ.no; exact rfl) | ((first | apply W1.bothT | apply W1.bothF | apply WQ.bothT | apply WQ.bothF | apply W.cond); exact rfl; all_goals intro hc; all_goals first | (cases hc; done) | ((try simp only [hc]); (try simp only [bm] at hc))) | refine WO.nil ?_ | refine WB.nil ?_ | refine WP.bag rfl ?_ | refine WP.nil ?_ | refine W.seq ?_ | refine W.reg ?_ | refine W.dreg ?_ | refine W.block ?_ | refine W.ret ?_ | refine W.skip ?_ | refine W.exit ?_ | (simp only [srow_len, List.length_map, Qit, Int.toNat_natCast, entry, Opd.eat, cellsOf, TV.ofCells, allAv, Qseq, Qblk, List.map_cons, List.map_nil, putD, kp, Nat.reduceEqDiff, ↓reduceIte, beq_self_eq_true, Nat.reduceBEq]))
        all_goals first | exact ⟨(), by rw [List.take_add_one, List.take_add_one, hp, hx, hy], rfl⟩ | (exfalso; simp_all; done)
      · have hne : ¬ l = m := fun e => by rw [e, hy] at hx; cases hx; exact hxy rfl
        rw [eqB_ne hxy] at r
        repeat' (first | refine WO.cons ?_ | refine WB.cons ?_ | refine WP.one ?_ | (first | (apply WQ.call (hm := hg.modes); (iterate 4 exact rfl)) | (apply W1.callV (hm := hg.modes); (iterate 5 exact rfl); exact (r); exact rfl)) | ((first | apply W1.add64 | apply W1.sub64); (iterate 3 exact rfl); omega; omega) | (apply W1.iadr; (iterate 3 exact rfl); omega; first | assumption | ((first | apply V.get_row | apply get_srow | apply get_ty | apply get_ar | apply get_ob | apply get_sprow | apply get_brow); assumption)) | (apply W1.idxS; (iterate 3 exact rfl); omega; omega) | (apply W1.slcS; (iterate 4 exact rfl); omega) | (apply W1.pickT; exact rfl; exact rfl; (first | with_reducible rfl | assumption | (simp only [bn]; first | omega | assumption | decide)); exact rfl) | (apply W1.pickF; exact rfl; exact rfl; (first | with_reducible rfl | assumption | (simp only [bn]; first | omega | assumption | decide)); exact rfl) | (apply W1.op; (iterate 3 exact rfl)) | (apply W1.no; exact rfl) | ((first | apply W1.knowT | apply W1.knowFn | apply WQ.knowT | apply WQ.knowFn | apply W.condT); exact rfl; (first | with_reducible rfl | assumption | (simp only [bn]; first | omega | assumption | decide))) | ((first | apply W1.knowTn | apply W1.knowF | apply WQ.knowTn | apply WQ.knowF | apply W.condF); exact rfl; (first | with_reducible rfl | assumption | (simp only [bn]; first | omega | assumption | decide))) | (apply WQ.go; exact rfl; exact rfl) | (apply WQ.no; exact rfl) | ((first | apply W1.bothT | apply W1.bothF | apply WQ.bothT | apply WQ.bothF | apply W.cond); exact rfl; all_goals intro hc; all_goals first | (cases hc; done) | ((try simp only [hc]); (try simp only [bm] at hc))) | refine WO.nil ?_ | refine WB.nil ?_ | refine WP.bag rfl ?_ | refine WP.nil ?_ | refine W.seq ?_ | refine W.reg ?_ | refine W.dreg ?_ | refine W.block ?_ | refine W.ret ?_ | refine W.skip ?_ | refine W.exit ?_ | (simp only [srow_len, List.length_map, Qit, Int.toNat_natCast, entry, Opd.eat, cellsOf, TV.ofCells, allAv, Qseq, Qblk, List.map_cons, List.map_nil, putD, kp, Nat.reduceEqDiff, ↓reduceIte, beq_self_eq_true, Nat.reduceBEq]))
        all_goals first | exact Qend.boo rfl rfl (eqB_ne hne).symm | (exfalso; simp_all; done)
    · intro u hp
      rw [List.take_length, hlen, List.take_length] at hp
      subst hp
      repeat' (first | refine WO.cons ?_ | refine WB.cons ?_ | refine WP.one ?_ | ((first | apply W1.add64 | apply W1.sub64); (iterate 3 exact rfl); omega; omega) | (apply W1.iadr; (iterate 3 exact rfl); omega; first | assumption | ((first | apply V.get_row | apply get_srow | apply get_ty | apply get_ar | apply get_ob | apply get_sprow | apply get_brow); assumption)) | (apply W1.idxS; (iterate 3 exact rfl); omega; omega) | (apply W1.slcS; (iterate 4 exact rfl); omega) | (apply W1.pickT; exact rfl; exact rfl; (first | with_reducible rfl | assumption | (simp only [bn]; first | omega | assumption | decide)); exact rfl) | (apply W1.pickF; exact rfl; exact rfl; (first | with_reducible rfl | assumption | (simp only [bn]; first | omega | assumption | decide)); exact rfl) | (apply W1.op; (iterate 3 exact rfl)) | (apply W1.no; exact rfl) | ((first | apply W1.knowT | apply W1.knowFn | apply WQ.knowT | apply WQ.knowFn | apply W.condT); exact rfl; (first | with_reducible rfl | assumption | (simp only [bn]; first | omega | assumption | decide))) | ((first | apply W1.knowTn | apply W1.knowF | apply WQ.knowTn | apply WQ.knowF | apply W.condF); exact rfl; (first | with_reducible rfl | assumption | (simp only [bn]; first | omega | assumption | decide))) | (apply WQ.go; exact rfl; exact rfl) | (apply WQ.no; exact rfl) | ((first | apply W1.bothT | apply W1.bothF | apply WQ.bothT | apply WQ.bothF | apply W.cond); exact rfl; all_goals intro hc; all_goals first | (cases hc; done) | ((try simp only [hc]); (try simp only [bm] at hc))) | refine WO.nil ?_ | refine WB.nil ?_ | refine WP.bag rfl ?_ | refine WP.nil ?_ | refine W.seq ?_ | refine W.reg ?_ | refine W.dreg ?_ | refine W.block ?_ | refine W.ret ?_ | refine W.skip ?_ | refine W.exit ?_ | (simp only [srow_len, List.length_map, Qit, Int.toNat_natCast, entry, Opd.eat, cellsOf, TV.ofCells, allAv, Qseq, Qblk, List.map_cons, List.map_nil, putD, kp, Nat.reduceEqDiff, ↓reduceIte, beq_self_eq_true, Nat.reduceBEq]))
      exact Qend.boo rfl rfl (eqB_self l).symm
  · have hne : ¬ l = m := fun e => hlen (by rw [e])
    repeat' (first | refine WO.cons ?_ | refine WB.cons ?_ | refine WP.one ?_ | ((first | apply W1.add64 | apply W1.sub64); (iterate 3 exact rfl); omega; omega) | (apply W1.iadr; (iterate 3 exact rfl); omega; first | assumption | ((first | apply V.get_row | apply get_srow | apply get_ty | apply get_ar | apply get_ob | apply get_sprow | apply get_brow); assumption)) | (apply W1.idxS; (iterate 3 exact rfl); omega; omega) | (apply W1.slcS; (iterate 4 exact rfl); omega) | (apply W1.pickT; exact rfl; exact rfl; (first | with_reducible rfl | assumption | (simp only [bn]; first | omega | assumption | decide)); exact rfl) | (apply W1.pickF; exact rfl; exact rfl; (first | with_reducible rfl | assumption | (simp only [bn]; first | omega | assumption | decide)); exact rfl) | (apply W1.op; (iterate 3 exact rfl)) | (apply W1.no; exact rfl) | ((first | apply W1.knowT | apply W1.knowFn | apply WQ.knowT | apply WQ.knowFn | apply W.condT); exact rfl; (first | with_reducible rfl | assumption | (simp only [bn]; first | omega | assumption | decide))) | ((first | apply W1.knowTn | apply W1.knowF | apply WQ.knowTn | apply WQ.knowF | apply W.condF); exact rfl; (first | with_reducible rfl | assumption | (simp only [bn]; first | omega | assumption | decide))) | (apply WQ.go; exact rfl; exact rfl) | (apply WQ.no; exact rfl) | ((first | apply W1.bothT | apply W1.bothF | apply WQ.bothT | apply WQ.bothF | apply W.cond); exact rfl; all_goals intro hc; all_goals first | (cases hc; done) | ((try simp only [hc]); (try simp only [bm] at hc))) | refine WO.nil ?_ | refine WB.nil ?_ | refine WP.bag rfl ?_ | refine WP.nil ?_ | refine W.seq ?_ | refine W.reg ?_ | refine W.dreg ?_ | refine W.block ?_ | refine W.ret ?_ | refine W.skip ?_ | refine W.exit ?_ | (simp only [srow_len, List.length_map, Qit, Int.toNat_natCast, entry, Opd.eat, cellsOf, TV.ofCells, allAv, Qseq, Qblk, List.map_cons, List.map_nil, putD, kp, Nat.reduceEqDiff, ↓reduceIte, beq_self_eq_true, Nat.reduceBEq]))
    all_goals first | exact Qend.boo rfl rfl (eqB_ne hne).symm | (exfalso; omega)
theorem sameArrs_ret {T : Tab} (h : Fn T F.hallmarkkit_SameArrs hallmarkkit_SameArrs.fn) (l m : List Ar) (hl : l.length ≤ 1073741824) (hm : m.length ≤ 1073741824)
    (hg : Fn T F.hallmarkkit_SameArr hallmarkkit_SameArr.fn) (ih : ∀ x ∈ l, ∀ y ∈ m, Ret T F.hallmarkkit_SameArr [.val (.agg x.row), .val (.agg y.row)] (one (.bool (eqB x y)))) :
    Ret T F.hallmarkkit_SameArrs [.val (.lst 11 (l.map Ar.row)), .val (.lst 11 (m.map Ar.row))] (one (.bool (eqB l m))) := by
  have e1 : (l.map Ar.row).length = l.length := List.length_map ..
  have e2 : (m.map Ar.row).length = m.length := List.length_map ..
  refine Ret.mk h rfl ?_
  by_cases hlen : l.length = m.length
  · skip
    repeat' (first | refine WO.cons ?_ | refine WB.cons ?_ | refine WP.one ?_ | ((first | apply W1.add64 | apply W1.sub64); (iterate 3 exact rfl); omega; omega) | (apply W1.iadr; (iterate 3 exact rfl); omega; first | assumption | ((first | apply V.get_row | apply get_srow | apply get_ty | apply get_ar | apply get_ob | apply get_sprow | apply get_brow); assumption)) | (apply W1.idxS; (iterate 3 exact rfl); omega; omega) | (apply W1.slcS; (iterate 4 exact rfl); omega) | (apply W1.pickT; exact rfl; exact rfl; (first | with_reducible rfl | assumption | (simp only [bn]; first | omega | assumption | decide)); exact rfl) | (apply W1.pickF; exact rfl; exact rfl; (first | with_reducible rfl | assumption | (simp only [bn]; first | omega | assumption | decide)); exact rfl) | (apply W1.op; (iterate 3 exact rfl)) | (apply W1.no; exact rfl) | ((first | apply W1.knowT | apply W1.knowFn | apply WQ.knowT | apply WQ.knowFn | apply W.condT); exact rfl; (first | with_reducible rfl | assumption | (simp only [bn]; first | omega | assumption | decide))) | ((first | apply W1.knowTn | apply W1.knowF | apply WQ.knowTn | apply WQ.knowF | apply W.condF); exact rfl; (first | with_reducible rfl | assumption | (simp only [bn]; first | omega | assumption | decide))) | (apply WQ.go; exact rfl; exact rfl) | (apply WQ.no; exact rfl) | ((first | apply W1.bothT | apply W1.bothF | apply WQ.bothT | apply WQ.bothF | apply W.cond); exact rfl; all_goals intro hc; all_goals first | (cases hc; done) | ((try simp only [hc]); (try simp only [bm] at hc))) | refine WO.nil ?_ | refine WB.nil ?_ | refine WP.bag rfl ?_ | refine WP.nil ?_ | refine W.seq ?_ | refine W.reg ?_ | refine W.dreg ?_ | refine W.block ?_ | refine W.ret ?_ | refine W.skip ?_ | refine W.exit ?_ | (simp only [srow_len, List.length_map, Qit, Int.toNat_natCast, entry, Opd.eat, cellsOf, TV.ofCells, allAv, Qseq, Qblk, List.map_cons, List.map_nil, putD, kp, Nat.reduceEqDiff, ↓reduceIte, beq_self_eq_true, Nat.reduceBEq]))
    refine W.listP l (fun i (_ : Unit) s => s.put 5 (.av (.int .i64 (i : Int)))) (fun i _ => l.take i = m.take i) () rfl rfl ?_ ?_
    · intro i x u hx hi hp
      obtain ⟨y, hy⟩ : ∃ y, m[i]? = some y := ⟨m[i]'(by omega), List.getElem?_eq_getElem (by omega)⟩
      have r := ih x (List.mem_of_getElem? hx) y (List.mem_of_getElem? hy)
      rw [arav6_eq, arav6_eq] at r
      by_cases hxy : x = y
      · subst hxy
        rw [eqB_self] at r
        repeat' (first | refine WO.cons ?_ | refine WB.cons ?_ | refine WP.one ?_ | (first | (apply WQ.call (hm := hg.modes); (iterate 4 exact rfl)) | (apply W1.callV (hm := hg.modes); (iterate 5 exact rfl); exact (r); exact rfl)) | ((first | apply W1.add64 | apply W1.sub64); (iterate 3 exact rfl); omega; omega) | (apply W1.iadr; (iterate 3 exact rfl); omega; first | assumption | ((first | apply V.get_row | apply get_srow | apply get_ty | apply get_ar | apply get_ob | apply get_sprow | apply get_brow); assumption)) | (apply W1.idxS; (iterate 3 exact rfl); omega; omega) | (apply W1.slcS; (iterate 4 exact rfl); omega) | (apply W1.pickT; exact rfl; exact rfl; (first | with_reducible rfl | assumption | (simp only [bn]; first | omega | assumption | decide)); exact rfl) | (apply W1.pickF; exact rfl; exact rfl; (first | with_reducible rfl | assumption | (simp only [bn]; first | omega | assumption | decide)); exact rfl) | (apply W1.op; (iterate 3 exact rfl)) | (apply W1.no; exact rfl) | ((first | apply W1.knowT | apply W1.knowFn | apply WQ.knowT | apply WQ.knowFn | apply W.condT); exact rfl; (first | with_reducible rfl | assumption | (simp only [bn]; first | omega | assumption | decide))) | ((first | apply W1.knowTn | apply W1.knowF | apply WQ.knowTn | apply WQ.knowF | apply W.condF); exact rfl; (first | with_reducible rfl | assumption | (simp only [bn]; first | omega | assumption | decide))) | (apply WQ.go; exact rfl; exact rfl) | (apply WQ.no; exact rfl) | ((first | apply W1.bothT | apply W1.bothF | apply WQ.bothT | apply WQ.bothF | apply W.cond); exact rfl; all_goals intro hc; all_goals first | (cases hc; done) | ((try simp only [hc]); (try simp only [bm] at hc))) | refine WO.nil ?_ | refine WB.nil ?_ | refine WP.bag rfl ?_ | refine WP.nil ?_ | refine W.seq ?_ | refine W.reg ?_ | refine W.dreg ?_ | refine W.block ?_ | refine W.ret ?_ | refine W.skip ?_ | refine W.exit ?_ | (simp only [srow_len, List.length_map, Qit, Int.toNat_natCast, entry, Opd.eat, cellsOf, TV.ofCells, allAv, Qseq, Qblk, List.map_cons, List.map_nil, putD, kp, Nat.reduceEqDiff, ↓reduceIte, beq_self_eq_true, Nat.reduceBEq]))
        all_goals first | exact ⟨(), by rw [List.take_add_one, List.take_add_one, hp, hx, hy], rfl⟩ | (exfalso; simp_all; done)
      · have hne : ¬ l = m := fun e => by rw [e, hy] at hx; cases hx; exact hxy rfl
        rw [eqB_ne hxy] at r
        repeat' (first | refine WO.cons ?_ | refine WB.cons ?_ | refine WP.one ?_ | (first | (apply WQ.call (hm := hg.modes); (iterate 4 exact rfl)) | (apply W1.callV (hm := hg.modes); (iterate 5 exact rfl); exact (r); exact rfl)) | ((first | apply W1.add64 | apply W1.sub64); (iterate 3 exact rfl); omega; omega) | (apply W1.iadr; (iterate 3 exact rfl); omega; first | assumption | ((first | apply V.get_row | apply get_srow | apply get_ty | apply get_ar | apply get_ob | apply get_sprow | apply get_brow); assumption)) | (apply W1.idxS; (iterate 3 exact rfl); omega; omega) | (apply W1.slcS; (iterate 4 exact rfl); omega) | (apply W1.pickT; exact rfl; exact rfl; (first | with_reducible rfl | assumption | (simp only [bn]; first | omega | assumption | decide)); exact rfl) | (apply W1.pickF; exact rfl; exact rfl; (first | with_reducible rfl | assumption | (simp only [bn]; first | omega | assumption | decide)); exact rfl) | (apply W1.op; (iterate 3 exact rfl)) | (apply W1.no; exact rfl) | ((first | apply W1.knowT | apply W1.knowFn | apply WQ.knowT | apply WQ.knowFn | apply W.condT); exact rfl; (first | with_reducible rfl | assumption | (simp only [bn]; first | omega | assumption | decide))) | ((first | apply W1.knowTn | apply W1.knowF | apply WQ.knowTn | apply WQ.knowF | apply W.condF); exact rfl; (first | with_reducible rfl | assumption | (simp only [bn]; first | omega | assumption | decide))) | (apply WQ.go; exact rfl; exact rfl) | (apply WQ.no; exact rfl) | ((first | apply W1.bothT | apply W1.bothF | apply WQ.bothT | apply WQ.bothF | apply W.cond); exact rfl; all_goals intro hc; all_goals first | (cases hc; done) | ((try simp only [hc]); (try simp only [bm] at hc))) | refine WO.nil ?_ | refine WB.nil ?_ | refine WP.bag rfl ?_ | refine WP.nil ?_ | refine W.seq ?_ | refine W.reg ?_ | refine W.dreg ?_ | refine W.block ?_ | refine W.ret ?_ | refine W.skip ?_ | refine W.exit ?_ | (simp only [srow_len, List.length_map, Qit, Int.toNat_natCast, entry, Opd.eat, cellsOf, TV.ofCells, allAv, Qseq, Qblk, List.map_cons, List.map_nil, putD, kp, Nat.reduceEqDiff, ↓reduceIte, beq_self_eq_true, Nat.reduceBEq]))
        all_goals first | exact Qend.boo rfl rfl (eqB_ne hne).symm | (exfalso; simp_all; done)
    · intro u hp
      rw [List.take_length, hlen, List.take_length] at hp
      subst hp
      repeat' (first | refine WO.cons ?_ | refine WB.cons ?_ | refine WP.one ?_ | ((first | apply W1.add64 | apply W1.sub64); (iterate 3 exact rfl); omega; omega) | (apply W1.iadr; (iterate 3 exact rfl); omega; first | assumption | ((first | apply V.get_row | apply get_srow | apply get_ty | apply get_ar | apply get_ob | apply get_sprow | apply get_brow); assumption)) | (apply W1.idxS; (iterate 3 exact rfl); omega; omega) | (apply W1.slcS; (iterate 4 exact rfl); omega) | (apply W1.pickT; exact rfl; exact rfl; (first | with_reducible rfl | assumption | (simp only [bn]; first | omega | assumption | decide)); exact rfl) | (apply W1.pickF; exact rfl; exact rfl; (first | with_reducible rfl | assumption | (simp only [bn]; first | omega | assumption | decide)); exact rfl) | (apply W1.op; (iterate 3 exact rfl)) | (apply W1.no; exact rfl) | ((first | apply W1.knowT | apply W1.knowFn | apply WQ.knowT | apply WQ.knowFn | apply W.condT); exact rfl; (first | with_reducible rfl | assumption | (simp only [bn]; first | omega | assumption | decide))) | ((first | apply W1.knowTn | apply W1.knowF | apply WQ.knowTn | apply WQ.knowF | apply W.condF); exact rfl; (first | with_reducible rfl | assumption | (simp only [bn]; first | omega | assumption | decide))) | (apply WQ.go; exact rfl; exact rfl) | (apply WQ.no; exact rfl) | ((first | apply W1.bothT | apply W1.bothF | apply WQ.bothT | apply WQ.bothF | apply W.cond); exact rfl; all_goals intro hc; all_goals first | (cases hc; done) | ((try simp only [hc]); (try simp only [bm] at hc))) | refine WO.nil ?_ | refine WB.nil ?_ | refine WP.bag rfl ?_ | refine WP.nil ?_ | refine W.seq ?_ | refine W.reg ?_ | refine W.dreg ?_ | refine W.block ?_ | refine W.ret ?_ | refine W.skip ?_ | refine W.exit ?_ | (simp only [srow_len, List.length_map, Qit, Int.toNat_natCast, entry, Opd.eat, cellsOf, TV.ofCells, allAv, Qseq, Qblk, List.map_cons, List.map_nil, putD, kp, Nat.reduceEqDiff, ↓reduceIte, beq_self_eq_true, Nat.reduceBEq]))
      exact Qend.boo rfl rfl (eqB_self l).symm
  · have hne : ¬ l = m := fun e => hlen (by rw [e])
    repeat' (first | refine WO.cons ?_ | refine WB.cons ?_ | refine WP.one ?_ | ((first | apply W1.add64 | apply W1.sub64); (iterate 3 exact rfl); omega; omega) | (apply W1.iadr; (iterate 3 exact rfl); omega; first | assumption | ((first | apply V.get_row | apply get_srow | apply get_ty | apply get_ar | apply get_ob | apply get_sprow | apply get_brow); assumption)) | (apply W1.idxS; (iterate 3 exact rfl); omega; omega) | (apply W1.slcS; (iterate 4 exact rfl); omega) | (apply W1.pickT; exact rfl; exact rfl; (first | with_reducible rfl | assumption | (simp only [bn]; first | omega | assumption | decide)); exact rfl) | (apply W1.pickF; exact rfl; exact rfl; (first | with_reducible rfl | assumption | (simp only [bn]; first | omega | assumption | decide)); exact rfl) | (apply W1.op; (iterate 3 exact rfl)) | (apply W1.no; exact rfl) | ((first | apply W1.knowT | apply W1.knowFn | apply WQ.knowT | apply WQ.knowFn | apply W.condT); exact rfl; (first | with_reducible rfl | assumption | (simp only [bn]; first | omega | assumption | decide))) | ((first | apply W1.knowTn | apply W1.knowF | apply WQ.knowTn | apply WQ.knowF | apply W.condF); exact rfl; (first | with_reducible rfl | assumption | (simp only [bn]; first | omega | assumption | decide))) | (apply WQ.go; exact rfl; exact rfl) | (apply WQ.no; exact rfl) | ((first | apply W1.bothT | apply W1.bothF | apply WQ.bothT | apply WQ.bothF | apply W.cond); exact rfl; all_goals intro hc; all_goals first | (cases hc; done) | ((try simp only [hc]); (try simp only [bm] at hc))) | refine WO.nil ?_ | refine WB.nil ?_ | refine WP.bag rfl ?_ | refine WP.nil ?_ | refine W.seq ?_ | refine W.reg ?_ | refine W.dreg ?_ | refine W.block ?_ | refine W.ret ?_ | refine W.skip ?_ | refine W.exit ?_ | (simp only [srow_len, List.length_map, Qit, Int.toNat_natCast, entry, Opd.eat, cellsOf, TV.ofCells, allAv, Qseq, Qblk, List.map_cons, List.map_nil, putD, kp, Nat.reduceEqDiff, ↓reduceIte, beq_self_eq_true, Nat.reduceBEq]))
    all_goals first | exact Qend.boo rfl rfl (eqB_ne hne).symm | (exfalso; omega)
theorem sameObjs_ret {T : Tab} (h : Fn T F.hallmarkkit_SameObjs hallmarkkit_SameObjs.fn) (l m : List Ob) (hl : l.length ≤ 1073741824) (hm : m.length ≤ 1073741824)
    (hg : Fn T F.hallmarkkit_SameObj hallmarkkit_SameObj.fn) (ih : ∀ x ∈ l, ∀ y ∈ m, Ret T F.hallmarkkit_SameObj [.val (.agg x.row), .val (.agg y.row)] (one (.bool (eqB x y)))) :
    Ret T F.hallmarkkit_SameObjs [.val (.lst 12 (l.map Ob.row)), .val (.lst 12 (m.map Ob.row))] (one (.bool (eqB l m))) := by
  have e1 : (l.map Ob.row).length = l.length := List.length_map ..
  have e2 : (m.map Ob.row).length = m.length := List.length_map ..
  refine Ret.mk h rfl ?_
  by_cases hlen : l.length = m.length
  · skip
    repeat' (first | refine WO.cons ?_ | refine WB.cons ?_ | refine WP.one ?_ | ((first | apply W1.add64 | apply W1.sub64); (iterate 3 exact rfl); omega; omega) | (apply W1.iadr; (iterate 3 exact rfl); omega; first | assumption | ((first | apply V.get_row | apply get_srow | apply get_ty | apply get_ar | apply get_ob | apply get_sprow | apply get_brow); assumption)) | (apply W1.idxS; (iterate 3 exact rfl); omega; omega) | (apply W1.slcS; (iterate 4 exact rfl); omega) | (apply W1.pickT; exact rfl; exact rfl; (first | with_reducible rfl | assumption | (simp only [bn]; first | omega | assumption | decide)); exact rfl) | (apply W1.pickF; exact rfl; exact rfl; (first | with_reducible rfl | assumption | (simp only [bn]; first | omega | assumption | decide)); exact rfl) | (apply W1.op; (iterate 3 exact rfl)) | (apply W1.no; exact rfl) | ((first | apply W1.knowT | apply W1.knowFn | apply WQ.knowT | apply WQ.knowFn | apply W.condT); exact rfl; (first | with_reducible rfl | assumption | (simp only [bn]; first | omega | assumption | decide))) | ((first | apply W1.knowTn | apply W1.knowF | apply WQ.knowTn | apply WQ.knowF | apply W.condF); exact rfl; (first | with_reducible rfl | assumption | (simp only [bn]; first | omega | assumption | decide))) | (apply WQ.go; exact rfl; exact rfl) | (apply WQ.no; exact rfl) | ((first | apply W1.bothT | apply W1.bothF | apply WQ.bothT | apply WQ.bothF | apply W.cond); exact rfl; all_goals intro hc; all_goals first | (cases hc; done) | ((try simp only [hc]); (try simp only [bm] at hc))) | refine WO.nil ?_ | refine WB.nil ?_ | refine WP.bag rfl ?_ | refine WP.nil ?_ | refine W.seq ?_ | refine W.reg ?_ | refine W.dreg ?_ | refine W.block ?_ | refine W.ret ?_ | refine W.skip ?_ | refine W.exit ?_ | (simp only [srow_len, List.length_map, Qit, Int.toNat_natCast, entry, Opd.eat, cellsOf, TV.ofCells, allAv, Qseq, Qblk, List.map_cons, List.map_nil, putD, kp, Nat.reduceEqDiff, ↓reduceIte, beq_self_eq_true, Nat.reduceBEq]))
    refine W.listP l (fun i (_ : Unit) s => s.put 5 (.av (.int .i64 (i : Int)))) (fun i _ => l.take i = m.take i) () rfl rfl ?_ ?_
    · intro i x u hx hi hp
      obtain ⟨y, hy⟩ : ∃ y, m[i]? = some y := ⟨m[i]'(by omega), List.getElem?_eq_getElem (by omega)⟩
      have r := ih x (List.mem_of_getElem? hx) y (List.mem_of_getElem? hy)
      rw [obav6_eq, obav6_eq] at r
      by_cases hxy : x = y
      · subst hxy
        rw [eqB_self] at r
        repeat' (first | refine WO.cons ?_ | refine WB.cons ?_ | refine WP.one ?_ | (first | (apply WQ.call (hm := hg.modes); (iterate 4 exact rfl)) | (apply W1.callV (hm := hg.modes); (iterate 5 exact rfl); exact (r); exact rfl)) | ((first | apply W1.add64 | apply W1.sub64); (iterate 3 exact rfl); omega; omega) | (apply W1.iadr; (iterate 3 exact rfl); omega; first | assumption | ((first | apply V.get_row | apply get_srow | apply get_ty | apply get_ar | apply get_ob | apply get_sprow | apply get_brow); assumption)) | (apply W1.idxS; (iterate 3 exact rfl); omega; omega) | (apply W1.slcS; (iterate 4 exact rfl); omega) | (apply W1.pickT; exact rfl; exact rfl; (first | with_reducible rfl | assumption | (simp only [bn]; first | omega | assumption | decide)); exact rfl) | (apply W1.pickF; exact rfl; exact rfl; (first | with_reducible rfl | assumption | (simp only [bn]; first | omega | assumption | decide)); exact rfl) | (apply W1.op; (iterate 3 exact rfl)) | (apply W1.no; exact rfl) | ((first | apply W1.knowT | apply W1.knowFn | apply WQ.knowT | apply WQ.knowFn | apply W.condT); exact rfl; (first | with_reducible rfl | assumption | (simp only [bn]; first | omega | assumption | decide))) | ((first | apply W1.knowTn | apply W1.knowF | apply WQ.knowTn | apply WQ.knowF | apply W.condF); exact rfl; (first | with_reducible rfl | assumption | (simp only [bn]; first | omega | assumption | decide))) | (apply WQ.go; exact rfl; exact rfl) | (apply WQ.no; exact rfl) | ((first | apply W1.bothT | apply W1.bothF | apply WQ.bothT | apply WQ.bothF | apply W.cond); exact rfl; all_goals intro hc; all_goals first | (cases hc; done) | ((try simp only [hc]); (try simp only [bm] at hc))) | refine WO.nil ?_ | refine WB.nil ?_ | refine WP.bag rfl ?_ | refine WP.nil ?_ | refine W.seq ?_ | refine W.reg ?_ | refine W.dreg ?_ | refine W.block ?_ | refine W.ret ?_ | refine W.skip ?_ | refine W.exit ?_ | (simp only [srow_len, List.length_map, Qit, Int.toNat_natCast, entry, Opd.eat, cellsOf, TV.ofCells, allAv, Qseq, Qblk, List.map_cons, List.map_nil, putD, kp, Nat.reduceEqDiff, ↓reduceIte, beq_self_eq_true, Nat.reduceBEq]))
        all_goals first | exact ⟨(), by rw [List.take_add_one, List.take_add_one, hp, hx, hy], rfl⟩ | (exfalso; simp_all; done)
      · have hne : ¬ l = m := fun e => by rw [e, hy] at hx; cases hx; exact hxy rfl
        rw [eqB_ne hxy] at r
        repeat' (first | refine WO.cons ?_ | refine WB.cons ?_ | refine WP.one ?_ | (first | (apply WQ.call (hm := hg.modes); (iterate 4 exact rfl)) | (apply W1.callV (hm := hg.modes); (iterate 5 exact rfl); exact (r); exact rfl)) | ((first | apply W1.add64 | apply W1.sub64); (iterate 3 exact rfl); omega; omega) | (apply W1.iadr; (iterate 3 exact rfl); omega; first | assumption | ((first | apply V.get_row | apply get_srow | apply get_ty | apply get_ar | apply get_ob | apply get_sprow | apply get_brow); assumption)) | (apply W1.idxS; (iterate 3 exact rfl); omega; omega) | (apply W1.slcS; (iterate 4 exact rfl); omega) | (apply W1.pickT; exact rfl; exact rfl; (first | with_reducible rfl | assumption | (simp only [bn]; first | omega | assumption | decide)); exact rfl) | (apply W1.pickF; exact rfl; exact rfl; (first | with_reducible rfl | assumption | (simp only [bn]; first | omega | assumption | decide)); exact rfl) | (apply W1.op; (iterate 3 exact rfl)) | (apply W1.no; exact rfl) | ((first | apply W1.knowT | apply W1.knowFn | apply WQ.knowT | apply WQ.knowFn | apply W.condT); exact rfl; (first | with_reducible rfl | assumption | (simp only [bn]; first | omega | assumption | decide))) | ((first | apply W1.knowTn | apply W1.knowF | apply WQ.knowTn | apply WQ.knowF | apply W.condF); exact rfl; (first | with_reducible rfl | assumption | (simp only [bn]; first | omega | assumption | decide))) | (apply WQ.go; exact rfl; exact rfl) | (apply WQ.no; exact rfl) | ((first | apply W1.bothT | apply W1.bothF | apply WQ.bothT | apply WQ.bothF | apply W.cond); exact rfl; all_goals intro hc; all_goals first | (cases hc; done) | ((try simp only [hc]); (try simp only [bm] at hc))) | refine WO.nil ?_ | refine WB.nil ?_ | refine WP.bag rfl ?_ | refine WP.nil ?_ | refine W.seq ?_ | refine W.reg ?_ | refine W.dreg ?_ | refine W.block ?_ | refine W.ret ?_ | refine W.skip ?_ | refine W.exit ?_ | (simp only [srow_len, List.length_map, Qit, Int.toNat_natCast, entry, Opd.eat, cellsOf, TV.ofCells, allAv, Qseq, Qblk, List.map_cons, List.map_nil, putD, kp, Nat.reduceEqDiff, ↓reduceIte, beq_self_eq_true, Nat.reduceBEq]))
        all_goals first | exact Qend.boo rfl rfl (eqB_ne hne).symm | (exfalso; simp_all; done)
    · intro u hp
      rw [List.take_length, hlen, List.take_length] at hp
      subst hp
      repeat' (first | refine WO.cons ?_ | refine WB.cons ?_ | refine WP.one ?_ | ((first | apply W1.add64 | apply W1.sub64); (iterate 3 exact rfl); omega; omega) | (apply W1.iadr; (iterate 3 exact rfl); omega; first | assumption | ((first | apply V.get_row | apply get_srow | apply get_ty | apply get_ar | apply get_ob | apply get_sprow | apply get_brow); assumption)) | (apply W1.idxS; (iterate 3 exact rfl); omega; omega) | (apply W1.slcS; (iterate 4 exact rfl); omega) | (apply W1.pickT; exact rfl; exact rfl; (first | with_reducible rfl | assumption | (simp only [bn]; first | omega | assumption | decide)); exact rfl) | (apply W1.pickF; exact rfl; exact rfl; (first | with_reducible rfl | assumption | (simp only [bn]; first | omega | assumption | decide)); exact rfl) | (apply W1.op; (iterate 3 exact rfl)) | (apply W1.no; exact rfl) | ((first | apply W1.knowT | apply W1.knowFn | apply WQ.knowT | apply WQ.knowFn | apply W.condT); exact rfl; (first | with_reducible rfl | assumption | (simp only [bn]; first | omega | assumption | decide))) | ((first | apply W1.knowTn | apply W1.knowF | apply WQ.knowTn | apply WQ.knowF | apply W.condF); exact rfl; (first | with_reducible rfl | assumption | (simp only [bn]; first | omega | assumption | decide))) | (apply WQ.go; exact rfl; exact rfl) | (apply WQ.no; exact rfl) | ((first | apply W1.bothT | apply W1.bothF | apply WQ.bothT | apply WQ.bothF | apply W.cond); exact rfl; all_goals intro hc; all_goals first | (cases hc; done) | ((try simp only [hc]); (try simp only [bm] at hc))) | refine WO.nil ?_ | refine WB.nil ?_ | refine WP.bag rfl ?_ | refine WP.nil ?_ | refine W.seq ?_ | refine W.reg ?_ | refine W.dreg ?_ | refine W.block ?_ | refine W.ret ?_ | refine W.skip ?_ | refine W.exit ?_ | (simp only [srow_len, List.length_map, Qit, Int.toNat_natCast, entry, Opd.eat, cellsOf, TV.ofCells, allAv, Qseq, Qblk, List.map_cons, List.map_nil, putD, kp, Nat.reduceEqDiff, ↓reduceIte, beq_self_eq_true, Nat.reduceBEq]))
      exact Qend.boo rfl rfl (eqB_self l).symm
  · have hne : ¬ l = m := fun e => hlen (by rw [e])
    repeat' (first | refine WO.cons ?_ | refine WB.cons ?_ | refine WP.one ?_ | ((first | apply W1.add64 | apply W1.sub64); (iterate 3 exact rfl); omega; omega) | (apply W1.iadr; (iterate 3 exact rfl); omega; first | assumption | ((first | apply V.get_row | apply get_srow | apply get_ty | apply get_ar | apply get_ob | apply get_sprow | apply get_brow); assumption)) | (apply W1.idxS; (iterate 3 exact rfl); omega; omega) | (apply W1.slcS; (iterate 4 exact rfl); omega) | (apply W1.pickT; exact rfl; exact rfl; (first | with_reducible rfl | assumption | (simp only [bn]; first | omega | assumption | decide)); exact rfl) | (apply W1.pickF; exact rfl; exact rfl; (first | with_reducible rfl | assumption | (simp only [bn]; first | omega | assumption | decide)); exact rfl) | (apply W1.op; (iterate 3 exact rfl)) | (apply W1.no; exact rfl) | ((first | apply W1.knowT | apply W1.knowFn | apply WQ.knowT | apply WQ.knowFn | apply W.condT); exact rfl; (first | with_reducible rfl | assumption | (simp only [bn]; first | omega | assumption | decide))) | ((first | apply W1.knowTn | apply W1.knowF | apply WQ.knowTn | apply WQ.knowF | apply W.condF); exact rfl; (first | with_reducible rfl | assumption | (simp only [bn]; first | omega | assumption | decide))) | (apply WQ.go; exact rfl; exact rfl) | (apply WQ.no; exact rfl) | ((first | apply W1.bothT | apply W1.bothF | apply WQ.bothT | apply WQ.bothF | apply W.cond); exact rfl; all_goals intro hc; all_goals first | (cases hc; done) | ((try simp only [hc]); (try simp only [bm] at hc))) | refine WO.nil ?_ | refine WB.nil ?_ | refine WP.bag rfl ?_ | refine WP.nil ?_ | refine W.seq ?_ | refine W.reg ?_ | refine W.dreg ?_ | refine W.block ?_ | refine W.ret ?_ | refine W.skip ?_ | refine W.exit ?_ | (simp only [srow_len, List.length_map, Qit, Int.toNat_natCast, entry, Opd.eat, cellsOf, TV.ofCells, allAv, Qseq, Qblk, List.map_cons, List.map_nil, putD, kp, Nat.reduceEqDiff, ↓reduceIte, beq_self_eq_true, Nat.reduceBEq]))
    all_goals first | exact Qend.boo rfl rfl (eqB_ne hne).symm | (exfalso; omega)
theorem sameTypes_ret {T : Tab} (h : Fn T F.hallmarkkit_SameTypes hallmarkkit_SameTypes.fn) (l m : List Ty) (hl : l.length ≤ 1073741824) (hm : m.length ≤ 1073741824)
    (hg : Fn T F.hallmarkkit_SameType hallmarkkit_SameType.fn) (ih : ∀ x ∈ l, ∀ y ∈ m, Ret T F.hallmarkkit_SameType [.val x.av, .val y.av] (one (.bool (eqB x y)))) :
    Ret T F.hallmarkkit_SameTypes [.val (.lst 9 (l.map Ty.row)), .val (.lst 9 (m.map Ty.row))] (one (.bool (eqB l m))) := by
  have e1 : (l.map Ty.row).length = l.length := List.length_map ..
  have e2 : (m.map Ty.row).length = m.length := List.length_map ..
  refine Ret.mk h rfl ?_
  by_cases hlen : l.length = m.length
  · skip
    repeat' (first | refine WO.cons ?_ | refine WB.cons ?_ | refine WP.one ?_ | ((first | apply W1.add64 | apply W1.sub64); (iterate 3 exact rfl); omega; omega) | (apply W1.iadr; (iterate 3 exact rfl); omega; first | assumption | ((first | apply V.get_row | apply get_srow | apply get_ty | apply get_ar | apply get_ob | apply get_sprow | apply get_brow); assumption)) | (apply W1.idxS; (iterate 3 exact rfl); omega; omega) | (apply W1.slcS; (iterate 4 exact rfl); omega) | (apply W1.pickT; exact rfl; exact rfl; (first | with_reducible rfl | assumption | (simp only [bn]; first | omega | assumption | decide)); exact rfl) | (apply W1.pickF; exact rfl; exact rfl; (first | with_reducible rfl | assumption | (simp only [bn]; first | omega | assumption | decide)); exact rfl) | (apply W1.op; (iterate 3 exact rfl)) | (apply W1.no; exact rfl) | ((first | apply W1.knowT | apply W1.knowFn | apply WQ.knowT | apply WQ.knowFn | apply W.condT); exact rfl; (first | with_reducible rfl | assumption | (simp only [bn]; first | omega | assumption | decide))) | ((first | apply W1.knowTn | apply W1.knowF | apply WQ.knowTn | apply WQ.knowF | apply W.condF); exact rfl; (first | with_reducible rfl | assumption | (simp only [bn]; first | omega | assumption | decide))) | (apply WQ.go; exact rfl; exact rfl) | (apply WQ.no; exact rfl) | ((first | apply W1.bothT | apply W1.bothF | apply WQ.bothT | apply WQ.bothF | apply W.cond); exact rfl; all_goals intro hc; all_goals first | (cases hc; done) | ((try simp only [hc]); (try simp only [bm] at hc))) | refine WO.nil ?_ | refine WB.nil ?_ | refine WP.bag rfl ?_ | refine WP.nil ?_ | refine W.seq ?_ | refine W.reg ?_ | refine W.dreg ?_ | refine W.block ?_ | refine W.ret ?_ | refine W.skip ?_ | refine W.exit ?_ | (simp only [srow_len, List.length_map, Qit, Int.toNat_natCast, entry, Opd.eat, cellsOf, TV.ofCells, allAv, Qseq, Qblk, List.map_cons, List.map_nil, putD, kp, Nat.reduceEqDiff, ↓reduceIte, beq_self_eq_true, Nat.reduceBEq]))
    refine W.listP l (fun i (_ : Unit) s => s.put 5 (.av (.int .i64 (i : Int)))) (fun i _ => l.take i = m.take i) () rfl rfl ?_ ?_
    · intro i x u hx hi hp
      obtain ⟨y, hy⟩ : ∃ y, m[i]? = some y := ⟨m[i]'(by omega), List.getElem?_eq_getElem (by omega)⟩
      have r := ih x (List.mem_of_getElem? hx) y (List.mem_of_getElem? hy)
      rw [Ty.av_eq, Ty.av_eq] at r
      by_cases hxy : x = y
      · subst hxy
        rw [eqB_self] at r
        repeat' (first | refine WO.cons ?_ | refine WB.cons ?_ | refine WP.one ?_ | (first | (apply WQ.call (hm := hg.modes); (iterate 4 exact rfl)) | (apply W1.callV (hm := hg.modes); (iterate 5 exact rfl); exact (r); exact rfl)) | ((first | apply W1.add64 | apply W1.sub64); (iterate 3 exact rfl); omega; omega) | (apply W1.iadr; (iterate 3 exact rfl); omega; first | assumption | ((first | apply V.get_row | apply get_srow | apply get_ty | apply get_ar | apply get_ob | apply get_sprow | apply get_brow); assumption)) | (apply W1.idxS; (iterate 3 exact rfl); omega; omega) | (apply W1.slcS; (iterate 4 exact rfl); omega) | (apply W1.pickT; exact rfl; exact rfl; (first | with_reducible rfl | assumption | (simp only [bn]; first | omega | assumption | decide)); exact rfl) | (apply W1.pickF; exact rfl; exact rfl; (first | with_reducible rfl | assumption | (simp only [bn]; first | omega | assumption | decide)); exact rfl) | (apply W1.op; (iterate 3 exact rfl)) | (apply W1.no; exact rfl) | ((first | apply W1.knowT | apply W1.knowFn | apply WQ.knowT | apply WQ.knowFn | apply W.condT); exact rfl; (first | with_reducible rfl | assumption | (simp only [bn]; first | omega | assumption | decide))) | ((first | apply W1.knowTn | apply W1.knowF | apply WQ.knowTn | apply WQ.knowF | apply W.condF); exact rfl; (first | with_reducible rfl | assumption | (simp only [bn]; first | omega | assumption | decide))) | (apply WQ.go; exact rfl; exact rfl) | (apply WQ.no; exact rfl) | ((first | apply W1.bothT | apply W1.bothF | apply WQ.bothT | apply WQ.bothF | apply W.cond); exact rfl; all_goals intro hc; all_goals first | (cases hc; done) | ((try simp only [hc]); (try simp only [bm] at hc))) | refine WO.nil ?_ | refine WB.nil ?_ | refine WP.bag rfl ?_ | refine WP.nil ?_ | refine W.seq ?_ | refine W.reg ?_ | refine W.dreg ?_ | refine W.block ?_ | refine W.ret ?_ | refine W.skip ?_ | refine W.exit ?_ | (simp only [srow_len, List.length_map, Qit, Int.toNat_natCast, entry, Opd.eat, cellsOf, TV.ofCells, allAv, Qseq, Qblk, List.map_cons, List.map_nil, putD, kp, Nat.reduceEqDiff, ↓reduceIte, beq_self_eq_true, Nat.reduceBEq]))
        all_goals first | exact ⟨(), by rw [List.take_add_one, List.take_add_one, hp, hx, hy], rfl⟩ | (exfalso; simp_all; done)
      · have hne : ¬ l = m := fun e => by rw [e, hy] at hx; cases hx; exact hxy rfl
        rw [eqB_ne hxy] at r
        repeat' (first | refine WO.cons ?_ | refine WB.cons ?_ | refine WP.one ?_ | (first | (apply WQ.call (hm := hg.modes); (iterate 4 exact rfl)) | (apply W1.callV (hm := hg.modes); (iterate 5 exact rfl); exact (r); exact rfl)) | ((first | apply W1.add64 | apply W1.sub64); (iterate 3 exact rfl); omega; omega) | (apply W1.iadr; (iterate 3 exact rfl); omega; first | assumption | ((first | apply V.get_row | apply get_srow | apply get_ty | apply get_ar | apply get_ob | apply get_sprow | apply get_brow); assumption)) | (apply W1.idxS; (iterate 3 exact rfl); omega; omega) | (apply W1.slcS; (iterate 4 exact rfl); omega) | (apply W1.pickT; exact rfl; exact rfl; (first | with_reducible rfl | assumption | (simp only [bn]; first | omega | assumption | decide)); exact rfl) | (apply W1.pickF; exact rfl; exact rfl; (first | with_reducible rfl | assumption | (simp only [bn]; first | omega | assumption | decide)); exact rfl) | (apply W1.op; (iterate 3 exact rfl)) | (apply W1.no; exact rfl) | ((first | apply W1.knowT | apply W1.knowFn | apply WQ.knowT | apply WQ.knowFn | apply W.condT); exact rfl; (first | with_reducible rfl | assumption | (simp only [bn]; first | omega | assumption | decide))) | ((first | apply W1.knowTn | apply W1.knowF | apply WQ.knowTn | apply WQ.knowF | apply W.condF); exact rfl; (first | with_reducible rfl | assumption | (simp only [bn]; first | omega | assumption | decide))) | (apply WQ.go; exact rfl; exact rfl) | (apply WQ.no; exact rfl) | ((first | apply W1.bothT | apply W1.bothF | apply WQ.bothT | apply WQ.bothF | apply W.cond); exact rfl; all_goals intro hc; all_goals first | (cases hc; done) | ((try simp only [hc]); (try simp only [bm] at hc))) | refine WO.nil ?_ | refine WB.nil ?_ | refine WP.bag rfl ?_ | refine WP.nil ?_ | refine W.seq ?_ | refine W.reg ?_ | refine W.dreg ?_ | refine W.block ?_ | refine W.ret ?_ | refine W.skip ?_ | refine W.exit ?_ | (simp only [srow_len, List.length_map, Qit, Int.toNat_natCast, entry, Opd.eat, cellsOf, TV.ofCells, allAv, Qseq, Qblk, List.map_cons, List.map_nil, putD, kp, Nat.reduceEqDiff, ↓reduceIte, beq_self_eq_true, Nat.reduceBEq]))
        all_goals first | exact Qend.boo rfl rfl (eqB_ne hne).symm | (exfalso; simp_all; done)
    · intro u hp
      rw [List.take_length, hlen, List.take_length] at hp
      subst hp
      repeat' (first | refine WO.cons ?_ | refine WB.cons ?_ | refine WP.one ?_ | ((first | apply W1.add64 | apply W1.sub64); (iterate 3 exact rfl); omega; omega) | (apply W1.iadr; (iterate 3 exact rfl); omega; first | assumption | ((first | apply V.get_row | apply get_srow | apply get_ty | apply get_ar | apply get_ob | apply get_sprow | apply get_brow); assumption)) | (apply W1.idxS; (iterate 3 exact rfl); omega; omega) | (apply W1.slcS; (iterate 4 exact rfl); omega) | (apply W1.pickT; exact rfl; exact rfl; (first | with_reducible rfl | assumption | (simp only [bn]; first | omega | assumption | decide)); exact rfl) | (apply W1.pickF; exact rfl; exact rfl; (first | with_reducible rfl | assumption | (simp only [bn]; first | omega | assumption | decide)); exact rfl) | (apply W1.op; (iterate 3 exact rfl)) | (apply W1.no; exact rfl) | ((first | apply W1.knowT | apply W1.knowFn | apply WQ.knowT | apply WQ.knowFn | apply W.condT); exact rfl; (first | with_reducible rfl | assumption | (simp only [bn]; first | omega | assumption | decide))) | ((first | apply W1.knowTn | apply W1.knowF | apply WQ.knowTn | apply WQ.knowF | apply W.condF); exact rfl; (first | with_reducible rfl | assumption | (simp only [bn]; first | omega | assumption | decide))) | (apply WQ.go; exact rfl; exact rfl) | (apply WQ.no; exact rfl) | ((first | apply W1.bothT | apply W1.bothF | apply WQ.bothT | apply WQ.bothF | apply W.cond); exact rfl; all_goals intro hc; all_goals first | (cases hc; done) | ((try simp only [hc]); (try simp only [bm] at hc))) | refine WO.nil ?_ | refine WB.nil ?_ | refine WP.bag rfl ?_ | refine WP.nil ?_ | refine W.seq ?_ | refine W.reg ?_ | refine W.dreg ?_ | refine W.block ?_ | refine W.ret ?_ | refine W.skip ?_ | refine W.exit ?_ | (simp only [srow_len, List.length_map, Qit, Int.toNat_natCast, entry, Opd.eat, cellsOf, TV.ofCells, allAv, Qseq, Qblk, List.map_cons, List.map_nil, putD, kp, Nat.reduceEqDiff, ↓reduceIte, beq_self_eq_true, Nat.reduceBEq]))
      exact Qend.boo rfl rfl (eqB_self l).symm
  · have hne : ¬ l = m := fun e => hlen (by rw [e])
    repeat' (first | refine WO.cons ?_ | refine WB.cons ?_ | refine WP.one ?_ | ((first | apply W1.add64 | apply W1.sub64); (iterate 3 exact rfl); omega; omega) | (apply W1.iadr; (iterate 3 exact rfl); omega; first | assumption | ((first | apply V.get_row | apply get_srow | apply get_ty | apply get_ar | apply get_ob | apply get_sprow | apply get_brow); assumption)) | (apply W1.idxS; (iterate 3 exact rfl); omega; omega) | (apply W1.slcS; (iterate 4 exact rfl); omega) | (apply W1.pickT; exact rfl; exact rfl; (first | with_reducible rfl | assumption | (simp only [bn]; first | omega | assumption | decide)); exact rfl) | (apply W1.pickF; exact rfl; exact rfl; (first | with_reducible rfl | assumption | (simp only [bn]; first | omega | assumption | decide)); exact rfl) | (apply W1.op; (iterate 3 exact rfl)) | (apply W1.no; exact rfl) | ((first | apply W1.knowT | apply W1.knowFn | apply WQ.knowT | apply WQ.knowFn | apply W.condT); exact rfl; (first | with_reducible rfl | assumption | (simp only [bn]; first | omega | assumption | decide))) | ((first | apply W1.knowTn | apply W1.knowF | apply WQ.knowTn | apply WQ.knowF | apply W.condF); exact rfl; (first | with_reducible rfl | assumption | (simp only [bn]; first | omega | assumption | decide))) | (apply WQ.go; exact rfl; exact rfl) | (apply WQ.no; exact rfl) | ((first | apply W1.bothT | apply W1.bothF | apply WQ.bothT | apply WQ.bothF | apply W.cond); exact rfl; all_goals intro hc; all_goals first | (cases hc; done) | ((try simp only [hc]); (try simp only [bm] at hc))) | refine WO.nil ?_ | refine WB.nil ?_ | refine WP.bag rfl ?_ | refine WP.nil ?_ | refine W.seq ?_ | refine W.reg ?_ | refine W.dreg ?_ | refine W.block ?_ | refine W.ret ?_ | refine W.skip ?_ | refine W.exit ?_ | (simp only [srow_len, List.length_map, Qit, Int.toNat_natCast, entry, Opd.eat, cellsOf, TV.ofCells, allAv, Qseq, Qblk, List.map_cons, List.map_nil, putD, kp, Nat.reduceEqDiff, ↓reduceIte, beq_self_eq_true, Nat.reduceBEq]))
    all_goals first | exact Qend.boo rfl rfl (eqB_ne hne).symm | (exfalso; omega)
theorem eqB_sp (a b : Spn) : eqB a b = (decide (a.1 = b.1) && decide (a.2 = b.2)) := by
  rw [Bool.eq_iff_iff, eqB_iff]; simp only [Bool.and_eq_true, decide_eq_true_eq, Prod.ext_iff]
theorem eqB_ar (a b : Ar) : eqB a b = (decide (a.min = b.min) && decide (a.max = b.max) && eqB a.item b.item) := by
  rw [Bool.eq_iff_iff, eqB_iff]; simp only [Bool.and_eq_true, decide_eq_true_eq, eqB_iff]
  cases a; cases b; simp only [Ar.mk.injEq, Ar.min, Ar.max, Ar.item]
  constructor
  · rintro ⟨rfl, rfl, rfl⟩; exact ⟨⟨rfl, rfl⟩, rfl⟩
  · rintro ⟨⟨rfl, rfl⟩, rfl⟩; exact ⟨rfl, rfl, rfl⟩
theorem eqB_ob (a b : Ob) : eqB a b = (eqB a.names b.names && (eqB a.fields b.fields && (eqB a.must b.must && eqB a.rest b.rest))) := by
  rw [Bool.eq_iff_iff, eqB_iff]; simp only [Bool.and_eq_true, eqB_iff]
  cases a; cases b; simp only [Ob.mk.injEq, Ob.names, Ob.fields, Ob.must, Ob.rest]
theorem eqB_ty (a b : Ty) : eqB a b = (decide (a.all = b.all) && decide (a.nul = b.nul) && decide (a.fls = b.fls) && decide (a.tru = b.tru) && decide (a.anyText = b.anyText) && (eqB a.nums b.nums && (eqB a.texts b.texts && (eqB a.arrays b.arrays && eqB a.objects b.objects)))) := by
  rw [Bool.eq_iff_iff, eqB_iff]; simp only [Bool.and_eq_true, decide_eq_true_eq, eqB_iff]
  cases a; cases b; simp only [Ty.mk.injEq, Ty.all, Ty.nul, Ty.fls, Ty.tru, Ty.nums, Ty.anyText, Ty.texts, Ty.arrays, Ty.objects]
  constructor
  · rintro ⟨rfl, rfl, rfl, rfl, rfl, rfl, rfl, rfl, rfl⟩; exact ⟨⟨⟨⟨⟨rfl, rfl⟩, rfl⟩, rfl⟩, rfl⟩, rfl, rfl, rfl, rfl⟩
  · rintro ⟨⟨⟨⟨⟨rfl, rfl⟩, rfl⟩, rfl⟩, rfl⟩, rfl, rfl, rfl, rfl⟩; exact ⟨rfl, rfl, rfl, rfl, rfl, rfl, rfl, rfl, rfl⟩
/-- What likeness of types reaches. -/
structure StFns (T : Tab) : Prop where
  a1 : Fn T F.hallmarkkit_SameType hallmarkkit_SameType.fn
  a2 : Fn T F.hallmarkkit_SameSpans hallmarkkit_SameSpans.fn
  a3 : Fn T F.hallmarkkit_SameSpan hallmarkkit_SameSpan.fn
  a4 : Fn T F.hallmarkkit_SameStrings hallmarkkit_SameStrings.fn
  a5 : Fn T F.hallmarkkit_SameArrs hallmarkkit_SameArrs.fn
  a6 : Fn T F.hallmarkkit_SameArr hallmarkkit_SameArr.fn
  a7 : Fn T F.hallmarkkit_SameObjs hallmarkkit_SameObjs.fn
  a8 : Fn T F.hallmarkkit_SameObj hallmarkkit_SameObj.fn
  a9 : Fn T F.hallmarkkit_SameTypes hallmarkkit_SameTypes.fn
  b1 : Fn T F.hallmarkkit_SameBools hallmarkkit_SameBools.fn
section
variable {T : Tab}
theorem sameSpan_ret (f : StFns T) (a b : Spn) : Ret T F.hallmarkkit_SameSpan [.val (.agg [.str a.1, .str a.2]), .val (.agg [.str b.1, .str b.2])] (one (.bool (eqB a b))) := by
  have e := eqB_sp a b
  refine Ret.mk f.a3 rfl ?_
  repeat' (first | refine WO.cons ?_ | refine WB.cons ?_ | refine WP.one ?_ | ((first | apply W1.add64 | apply W1.sub64); (iterate 3 exact rfl); omega; omega) | (apply W1.iadr; (iterate 3 exact rfl); omega; first | assumption | ((first | apply V.get_row | apply get_srow | apply get_ty | apply get_ar | apply get_ob | apply get_sprow | apply get_brow); assumption)) | (apply W1.idxS; (iterate 3 exact rfl); omega; omega) | (apply W1.slcS; (iterate 4 exact rfl); omega) | (apply W1.pickT; exact rfl; exact rfl; (first | with_reducible rfl | assumption | (simp only [bn]; first | omega | assumption | decide)); exact rfl) | (apply W1.pickF; exact rfl; exact rfl; (first | with_reducible rfl | assumption | (simp only [bn]; first | omega | assumption | decide)); exact rfl) | (apply W1.op; (iterate 3 exact rfl)) | (apply W1.no; exact rfl) | ((first | apply W1.knowT | apply W1.knowFn | apply WQ.knowT | apply WQ.knowFn | apply W.condT); exact rfl; (first | with_reducible rfl | assumption | (simp only [bn]; first | omega | assumption | decide))) | ((first | apply W1.knowTn | apply W1.knowF | apply WQ.knowTn | apply WQ.knowF | apply W.condF); exact rfl; (first | with_reducible rfl | assumption | (simp only [bn]; first | omega | assumption | decide))) | (apply WQ.go; exact rfl; exact rfl) | (apply WQ.no; exact rfl) | ((first | apply W1.bothT | apply W1.bothF | apply WQ.bothT | apply WQ.bothF | apply W.cond); exact rfl; all_goals intro hc; all_goals first | (cases hc; done) | ((try simp only [hc]); (try simp only [bm] at hc))) | refine WO.nil ?_ | refine WB.nil ?_ | refine WP.bag rfl ?_ | refine WP.nil ?_ | refine W.seq ?_ | refine W.reg ?_ | refine W.dreg ?_ | refine W.block ?_ | refine W.ret ?_ | refine W.skip ?_ | refine W.exit ?_ | (simp only [srow_len, List.length_map, Qit, Int.toNat_natCast, entry, Opd.eat, cellsOf, TV.ofCells, allAv, Qseq, Qblk, List.map_cons, List.map_nil, putD, kp, Nat.reduceEqDiff, ↓reduceIte, beq_self_eq_true, Nat.reduceBEq]))
  all_goals refine Qend.boo rfl rfl ?_
  all_goals rw [e]
  all_goals first | (simp_all; done) | (rw [Bool.eq_iff_iff]; simp_all; done)
def TySame (T : Tab) (a b : Ty) : Prop := Ret T F.hallmarkkit_SameType [.val a.av, .val b.av] (one (.bool (eqB a b)))
theorem sameArr_ret (f : StFns T) (a b : Ar) (ih : TySame T a.item b.item) : Ret T F.hallmarkkit_SameArr [.val (.agg a.row), .val (.agg b.row)] (one (.bool (eqB a b))) := by
  have e := eqB_ar a b
  unfold TySame at ih
  rw [Ty.av_eq, Ty.av_eq] at ih
  refine Ret.mk f.a6 rfl ?_
  rw [arav6_eq, arav6_eq]
  generalize eqB a.item b.item = x at *
  repeat' (first | refine WO.cons ?_ | refine WB.cons ?_ | refine WP.one ?_ | (first | (apply WQ.call (hm := f.a1.modes); (iterate 4 exact rfl)) | (apply W1.callV (hm := f.a1.modes); (iterate 5 exact rfl); exact (ih); exact rfl)) | ((first | apply W1.add64 | apply W1.sub64); (iterate 3 exact rfl); omega; omega) | (apply W1.iadr; (iterate 3 exact rfl); omega; first | assumption | ((first | apply V.get_row | apply get_srow | apply get_ty | apply get_ar | apply get_ob | apply get_sprow | apply get_brow); assumption)) | (apply W1.idxS; (iterate 3 exact rfl); omega; omega) | (apply W1.slcS; (iterate 4 exact rfl); omega) | (apply W1.pickT; exact rfl; exact rfl; (first | with_reducible rfl | assumption | (simp only [bn]; first | omega | assumption | decide)); exact rfl) | (apply W1.pickF; exact rfl; exact rfl; (first | with_reducible rfl | assumption | (simp only [bn]; first | omega | assumption | decide)); exact rfl) | (apply W1.op; (iterate 3 exact rfl)) | (apply W1.no; exact rfl) | ((first | apply W1.knowT | apply W1.knowFn | apply WQ.knowT | apply WQ.knowFn | apply W.condT); exact rfl; (first | with_reducible rfl | assumption | (simp only [bn]; first | omega | assumption | decide))) | ((first | apply W1.knowTn | apply W1.knowF | apply WQ.knowTn | apply WQ.knowF | apply W.condF); exact rfl; (first | with_reducible rfl | assumption | (simp only [bn]; first | omega | assumption | decide))) | (apply WQ.go; exact rfl; exact rfl) | (apply WQ.no; exact rfl) | ((first | apply W1.bothT | apply W1.bothF | apply WQ.bothT | apply WQ.bothF | apply W.cond); exact rfl; all_goals intro hc; all_goals first | (cases hc; done) | ((try simp only [hc]); (try simp only [bm] at hc))) | refine WO.nil ?_ | refine WB.nil ?_ | refine WP.bag rfl ?_ | refine WP.nil ?_ | refine W.seq ?_ | refine W.reg ?_ | refine W.dreg ?_ | refine W.block ?_ | refine W.ret ?_ | refine W.skip ?_ | refine W.exit ?_ | (simp only [srow_len, List.length_map, Qit, Int.toNat_natCast, entry, Opd.eat, cellsOf, TV.ofCells, allAv, Qseq, Qblk, List.map_cons, List.map_nil, putD, kp, Nat.reduceEqDiff, ↓reduceIte, beq_self_eq_true, Nat.reduceBEq]))
  all_goals clear ih
  all_goals refine Qend.boo rfl rfl ?_
  all_goals rw [e]
  all_goals first | (simp_all; done) | (rw [Bool.eq_iff_iff]; simp_all; done)
theorem sameObj_ret (f : StFns T) (a b : Ob) (hl : a.bk ≤ 1073741824) (hl' : b.bk ≤ 1073741824) (ih : ∀ x ∈ a.fields, ∀ y ∈ b.fields, TySame T x y) (ihr : TySame T a.rest b.rest) : Ret T F.hallmarkkit_SameObj [.val (.agg a.row), .val (.agg b.row)] (one (.bool (eqB a b))) := by
  have k1 := Ob.bk_eq a
  have k2 := Ob.bk_eq b
  have n1 := len_sbk a.names
  have n2 := len_sbk b.names
  have n3 := len_tyBks a.fields
  have n4 := len_tyBks b.fields
  have r1 := sameStrings_ret f.a4 a.names b.names (by omega) (by omega)
  have r2 := sameTypes_ret f.a9 a.fields b.fields (by omega) (by omega) f.a1 ih
  have r3 := sameBools_ret f.b1 a.must b.must (by omega) (by omega)
  have e := eqB_ob a b
  unfold TySame at ihr
  rw [Ty.av_eq, Ty.av_eq] at ihr
  refine Ret.mk f.a8 rfl ?_
  rw [obav6_eq, obav6_eq]
  clear ih
  generalize eqB a.names b.names = x1 at *
  generalize eqB a.fields b.fields = x2 at *
  generalize eqB a.must b.must = x3 at *
  generalize eqB a.rest b.rest = x4 at *
  repeat' (first | refine WO.cons ?_ | refine WB.cons ?_ | refine WP.one ?_ | (first | (apply WQ.call (hm := f.a4.modes); (iterate 4 exact rfl)) | (apply W1.callV (hm := f.a4.modes); (iterate 5 exact rfl); exact (r1); exact rfl)) | (first | (apply WQ.call (hm := f.a9.modes); (iterate 4 exact rfl)) | (apply W1.callV (hm := f.a9.modes); (iterate 5 exact rfl); exact (r2); exact rfl)) | (first | (apply WQ.call (hm := f.b1.modes); (iterate 4 exact rfl)) | (apply W1.callV (hm := f.b1.modes); (iterate 5 exact rfl); exact (r3); exact rfl)) | (first | (apply WQ.call (hm := f.a1.modes); (iterate 4 exact rfl)) | (apply W1.callV (hm := f.a1.modes); (iterate 5 exact rfl); exact (ihr); exact rfl)) | ((first | apply W1.add64 | apply W1.sub64); (iterate 3 exact rfl); omega; omega) | (apply W1.iadr; (iterate 3 exact rfl); omega; first | assumption | ((first | apply V.get_row | apply get_srow | apply get_ty | apply get_ar | apply get_ob | apply get_sprow | apply get_brow); assumption)) | (apply W1.idxS; (iterate 3 exact rfl); omega; omega) | (apply W1.slcS; (iterate 4 exact rfl); omega) | (apply W1.pickT; exact rfl; exact rfl; (first | with_reducible rfl | assumption | (simp only [bn]; first | omega | assumption | decide)); exact rfl) | (apply W1.pickF; exact rfl; exact rfl; (first | with_reducible rfl | assumption | (simp only [bn]; first | omega | assumption | decide)); exact rfl) | (apply W1.op; (iterate 3 exact rfl)) | (apply W1.no; exact rfl) | ((first | apply W1.knowT | apply W1.knowFn | apply WQ.knowT | apply WQ.knowFn | apply W.condT); exact rfl; (first | with_reducible rfl | assumption | (simp only [bn]; first | omega | assumption | decide))) | ((first | apply W1.knowTn | apply W1.knowF | apply WQ.knowTn | apply WQ.knowF | apply W.condF); exact rfl; (first | with_reducible rfl | assumption | (simp only [bn]; first | omega | assumption | decide))) | (apply WQ.go; exact rfl; exact rfl) | (apply WQ.no; exact rfl) | ((first | apply W1.bothT | apply W1.bothF | apply WQ.bothT | apply WQ.bothF | apply W.cond); exact rfl; all_goals intro hc; all_goals first | (cases hc; done) | ((try simp only [hc]); (try simp only [bm] at hc))) | refine WO.nil ?_ | refine WB.nil ?_ | refine WP.bag rfl ?_ | refine WP.nil ?_ | refine W.seq ?_ | refine W.reg ?_ | refine W.dreg ?_ | refine W.block ?_ | refine W.ret ?_ | refine W.skip ?_ | refine W.exit ?_ | (simp only [srow_len, List.length_map, Qit, Int.toNat_natCast, entry, Opd.eat, cellsOf, TV.ofCells, allAv, Qseq, Qblk, List.map_cons, List.map_nil, putD, kp, Nat.reduceEqDiff, ↓reduceIte, beq_self_eq_true, Nat.reduceBEq]))
  all_goals clear r1 r2 r3 ihr
  all_goals refine Qend.boo rfl rfl ?_
  all_goals rw [e]
  all_goals first | (simp_all; done) | (rw [Bool.eq_iff_iff]; simp_all; done)
theorem sameType_ret (f : StFns T) : ∀ a : Ty, a.bk ≤ 1073741824 → ∀ b : Ty, b.bk ≤ 1073741824 → TySame T a b := by
  intro a
  induction a using Ty.ind with
  | h a ih =>
  intro hla b hlb
  have k1 := Ty.bk_eq a
  have k2 := Ty.bk_eq b
  have n1 := len_sbk a.texts
  have n2 := len_sbk b.texts
  have n3 := len_spbk a.nums
  have n4 := len_spbk b.nums
  have n5 := len_arBks a.arrays
  have n6 := len_arBks b.arrays
  have n7 := len_obBks a.objects
  have n8 := len_obBks b.objects
  have r1 := sameSpans_ret f.a2 a.nums b.nums (by omega) (by omega) f.a3 (fun x _ y _ => sameSpan_ret f x y)
  have r2 := sameStrings_ret f.a4 a.texts b.texts (by omega) (by omega)
  have r3 := sameArrs_ret f.a5 a.arrays b.arrays (by omega) (by omega) f.a6 (fun x hx y hy => sameArr_ret f x y (ih x.item (ar_lt hx) (by have := ar_lt hx; omega) y.item (by have := ar_lt hy; omega)))
  have r4 := sameObjs_ret f.a7 a.objects b.objects (by omega) (by omega) f.a8 (fun x hx y hy =>
    sameObj_ret f x y (by have := obBk_mem hx; omega) (by have := obBk_mem hy; omega) (fun u hu v hv => ih u ((ob_lt hx).2 u hu) (by have := (ob_lt hx).2 u hu; omega) v (by have := (ob_lt hy).2 v hv; omega))
      (ih x.rest (ob_lt hx).1 (by have := (ob_lt hx).1; omega) y.rest (by have := (ob_lt hy).1; omega)))
  have e := eqB_ty a b
  unfold TySame
  refine Ret.mk f.a1 rfl ?_
  rw [Ty.av_eq, Ty.av_eq]
  clear ih
  generalize eqB a.nums b.nums = x1 at *
  generalize eqB a.texts b.texts = x2 at *
  generalize eqB a.arrays b.arrays = x3 at *
  generalize eqB a.objects b.objects = x4 at *
  repeat' (first | refine WO.cons ?_ | refine WB.cons ?_ | refine WP.one ?_ | (first | (apply WQ.call (hm := f.a2.modes); (iterate 4 exact rfl)) | (apply W1.callV (hm := f.a2.modes); (iterate 5 exact rfl); exact (r1); exact rfl)) | (first | (apply WQ.call (hm := f.a4.modes); (iterate 4 exact rfl)) | (apply W1.callV (hm := f.a4.modes); (iterate 5 exact rfl); exact (r2); exact rfl)) | (first | (apply WQ.call (hm := f.a5.modes); (iterate 4 exact rfl)) | (apply W1.callV (hm := f.a5.modes); (iterate 5 exact rfl); exact (r3); exact rfl)) | (first | (apply WQ.call (hm := f.a7.modes); (iterate 4 exact rfl)) | (apply W1.callV (hm := f.a7.modes); (iterate 5 exact rfl); exact (r4); exact rfl)) | ((first | apply W1.add64 | apply W1.sub64); (iterate 3 exact rfl); omega; omega) | (apply W1.iadr; (iterate 3 exact rfl); omega; first | assumption | ((first | apply V.get_row | apply get_srow | apply get_ty | apply get_ar | apply get_ob | apply get_sprow | apply get_brow); assumption)) | (apply W1.idxS; (iterate 3 exact rfl); omega; omega) | (apply W1.slcS; (iterate 4 exact rfl); omega) | (apply W1.pickT; exact rfl; exact rfl; (first | with_reducible rfl | assumption | (simp only [bn]; first | omega | assumption | decide)); exact rfl) | (apply W1.pickF; exact rfl; exact rfl; (first | with_reducible rfl | assumption | (simp only [bn]; first | omega | assumption | decide)); exact rfl) | (apply W1.op; (iterate 3 exact rfl)) | (apply W1.no; exact rfl) | ((first | apply W1.knowT | apply W1.knowFn | apply WQ.knowT | apply WQ.knowFn | apply W.condT); exact rfl; (first | with_reducible rfl | assumption | (simp only [bn]; first | omega | assumption | decide))) | ((first | apply W1.knowTn | apply W1.knowF | apply WQ.knowTn | apply WQ.knowF | apply W.condF); exact rfl; (first | with_reducible rfl | assumption | (simp only [bn]; first | omega | assumption | decide))) | (apply WQ.go; exact rfl; exact rfl) | (apply WQ.no; exact rfl) | ((first | apply W1.bothT | apply W1.bothF | apply WQ.bothT | apply WQ.bothF | apply W.cond); exact rfl; all_goals intro hc; all_goals first | (cases hc; done) | ((try simp only [hc]); (try simp only [bm] at hc))) | refine WO.nil ?_ | refine WB.nil ?_ | refine WP.bag rfl ?_ | refine WP.nil ?_ | refine W.seq ?_ | refine W.reg ?_ | refine W.dreg ?_ | refine W.block ?_ | refine W.ret ?_ | refine W.skip ?_ | refine W.exit ?_ | (simp only [srow_len, List.length_map, Qit, Int.toNat_natCast, entry, Opd.eat, cellsOf, TV.ofCells, allAv, Qseq, Qblk, List.map_cons, List.map_nil, putD, kp, Nat.reduceEqDiff, ↓reduceIte, beq_self_eq_true, Nat.reduceBEq]))
  all_goals clear r1 r2 r3 r4 k1 k2 n1 n2 n3 n4 n5 n6 n7 n8 hla hlb
  all_goals refine Qend.boo rfl rfl ?_
  all_goals rw [e]
  all_goals generalize a.all = a1 at *
  all_goals generalize b.all = b1 at *
  all_goals generalize a.nul = a2 at *
  all_goals generalize b.nul = b2 at *
  all_goals generalize a.fls = a3 at *
  all_goals generalize b.fls = b3 at *
  all_goals generalize a.tru = a4 at *
  all_goals generalize b.tru = b4 at *
  all_goals generalize a.anyText = a5 at *
  all_goals generalize b.anyText = b5 at *
  all_goals first | (simp_all; done) | (rw [Bool.eq_iff_iff]; simp_all; done) | trace_state
end
end Hm

/- Steps of a walk: calls whose results are sealed. -/
namespace Hm
open Go (IntKind)
/-- A call whose two results are sealed. -/
theorem W1.callD2 {T : Tab} {st st' : St} {K : St → Prop} {dst : Option Nat} {gd : Option (Nat × Bool)} {f : Opd} {xs : List Opd} {g : Nat} {first cs : List AV} {t0 t : Bool} {ms : List PMode} {l : List Arg} {ks : List Nat} {C : List Cell} {v : AV} {row : List AV} (hC : sealRow C = row)
    (hg : wanted st gd = some true) (hf : (st.opd f).fn = some (g, first, cs, t0)) (hm : T.modes g = ms) (ha : args st (ms.drop first.length) xs = some (l, t, ks, st')) (hio : hasIo l = false) (hmv : hasMv l = false)
    (hr : Ret T g (first.map .val ++ l ++ cs.map .val) ⟨[(C, true), ([.av v], false)], []⟩) (ht : (t0 || t) = false) (hk : K (putD dst (.tup [some (row.map .av, true), some ([.av v], false)]) st')) : W1 T ⟨dst, .call .deep f xs, gd⟩ st K := by
  refine W1.callV hg hf hm ha hio hmv hr (by rw [ht]; rfl) ?_
  show K (putD dst (.tup [some ((sealRow C).map .av, true), some ([.av v], false)]) st')
  rw [hC]; exact hk
/-- A call whose one result is sealed. -/
theorem W1.callD1 {T : Tab} {st st' : St} {K : St → Prop} {dst : Option Nat} {gd : Option (Nat × Bool)} {f : Opd} {xs : List Opd} {g : Nat} {first cs : List AV} {t0 t : Bool} {ms : List PMode} {l : List Arg} {ks : List Nat} {C : List Cell} {row : List AV} (hC : sealRow C = row)
    (hg : wanted st gd = some true) (hf : (st.opd f).fn = some (g, first, cs, t0)) (hm : T.modes g = ms) (ha : args st (ms.drop first.length) xs = some (l, t, ks, st')) (hio : hasIo l = false) (hmv : hasMv l = false)
    (hr : Ret T g (first.map .val ++ l ++ cs.map .val) ⟨[(C, true)], []⟩) (ht : (t0 || t) = false) (hk : K (putD dst (.av (.agg row)) st')) : W1 T ⟨dst, .call .deep f xs, gd⟩ st K := by
  refine W1.callV hg hf hm ha hio hmv hr (by rw [ht]; rfl) ?_
  show K (putD dst (.av (.agg (sealRow C))) st')
  rw [hC]; exact hk
end Hm

/- Copies of lists. Conditions: see each theorem. -/
namespace Hm
open Go (IntKind)
set_option maxHeartbeats 4000000
set_option maxRecDepth 4000
theorem W1.appA {T : Tab} {st : St} {K : St → Prop} {dst : Option Nat} {g : Option (Nat × Bool)} {b k : Nat} {x y : Opd} {base : List (List Cell)} {rows : List (List AV)} (hg : wanted st g = some true)
    (hy : st.opd y = .av (.lst k rows)) (hx : st.opd x = .own [.own k base] false) (hl : base.length + rows.length ≤ limit) (hk : K (putD dst (.own [.own k (base ++ rows.map (·.map .av))] false) (x.eat st).hush)) : W1 T ⟨dst, .append b k x y, g⟩ st K := by
  refine W1.go hg (WS.op (v := .own [.own k (base ++ rows.map (·.map .av))] false) (st' := (x.eat st).hush) rfl ?_ hk)
  simp only [stepOp, appNew, hy, if_true, hx, List.length_map, true_and, if_pos hl]
theorem W1.appE {T : Tab} {st : St} {K : St → Prop} {dst : Option Nat} {g : Option (Nat × Bool)} {b k : Nat} {nn : Bool} {x y : Opd} {base : List (List Cell)} (hg : wanted st g = some true)
    (hy : st.opd y = .av (.emp k nn)) (hx : st.opd x = .own [.own k base] false) (hl : base.length ≤ limit) (hk : K (putD dst (.own [.own k (base ++ [])] false) (x.eat st).hush)) : W1 T ⟨dst, .append b k x y, g⟩ st K := by
  refine W1.go hg (WS.op (v := .own [.own k (base ++ [])] false) (st' := (x.eat st).hush) rfl ?_ hk)
  simp only [stepOp, appNew, hy, if_true, hx, List.length_nil, Nat.add_zero, true_and, if_pos hl]
end Hm

/- Copies of lists. Conditions: see each theorem. -/
namespace Hm
open Go (IntKind)
set_option maxHeartbeats 4000000
set_option maxRecDepth 4000
theorem slices_Clone_Lstring_string_ret {T : Tab} (h : Fn T F.slices_Clone_Lstring_string slices_Clone_Lstring_string.fn) (rows : List (List AV)) (hne : rows ≠ []) (hl : rows.length ≤ limit) : Ret T F.slices_Clone_Lstring_string [.val (.lst 1 rows)] ⟨[([.own 1 (rows.map (·.map .av))], false)], []⟩ := by
  cases rows with
  | nil => exact absurd rfl hne
  | cons r rs =>
  refine Ret.mk h rfl ?_
  repeat' (first | refine WO.cons ?_ | refine WB.cons ?_ | refine WP.one ?_ | ((apply W1.appA; exact rfl; exact rfl; exact rfl; exact Nat.le_trans (Nat.le_of_eq (Nat.zero_add _)) hl)) | ((first | apply W1.add64 | apply W1.sub64); (iterate 3 exact rfl); omega; omega) | (apply W1.iadr; (iterate 3 exact rfl); omega; first | assumption | ((first | apply V.get_row | apply get_srow | apply get_ty | apply get_ar | apply get_ob | apply get_sprow | apply get_brow); assumption)) | (apply W1.idxS; (iterate 3 exact rfl); omega; omega) | (apply W1.slcS; (iterate 4 exact rfl); omega) | (apply W1.pickT; exact rfl; exact rfl; (first | with_reducible rfl | assumption | (simp only [bn]; first | omega | assumption | decide)); exact rfl) | (apply W1.pickF; exact rfl; exact rfl; (first | with_reducible rfl | assumption | (simp only [bn]; first | omega | assumption | decide)); exact rfl) | (apply W1.op; (iterate 3 exact rfl)) | (apply W1.no; exact rfl) | ((first | apply W1.knowT | apply W1.knowFn | apply WQ.knowT | apply WQ.knowFn | apply W.condT); exact rfl; (first | with_reducible rfl | assumption | (simp only [bn]; first | omega | assumption | decide))) | ((first | apply W1.knowTn | apply W1.knowF | apply WQ.knowTn | apply WQ.knowF | apply W.condF); exact rfl; (first | with_reducible rfl | assumption | (simp only [bn]; first | omega | assumption | decide))) | (apply WQ.go; exact rfl; exact rfl) | (apply WQ.no; exact rfl) | ((first | apply W1.bothT | apply W1.bothF | apply WQ.bothT | apply WQ.bothF | apply W.cond); exact rfl; all_goals intro hc; all_goals first | (cases hc; done) | ((try simp only [hc]); (try simp only [bm] at hc))) | refine WO.nil ?_ | refine WB.nil ?_ | refine WP.bag rfl ?_ | refine WP.nil ?_ | refine W.seq ?_ | refine W.reg ?_ | refine W.dreg ?_ | refine W.block ?_ | refine W.ret ?_ | refine W.skip ?_ | refine W.exit ?_ | (simp only [srow_len, List.length_map, Qit, Int.toNat_natCast, entry, Opd.eat, cellsOf, TV.ofCells, allAv, Qseq, Qblk, List.map_cons, List.map_nil, putD, kp, Nat.reduceEqDiff, ↓reduceIte, beq_self_eq_true, Nat.reduceBEq]))
  exact ⟨.inr rfl, rfl, rfl⟩
theorem slices_Clone_Lstring_string_emp {T : Tab} (h : Fn T F.slices_Clone_Lstring_string slices_Clone_Lstring_string.fn) (nn : Bool) : Ret T F.slices_Clone_Lstring_string [.val (.emp 1 nn)] ⟨[([.own 1 []], false)], []⟩ := by
  cases nn
  all_goals refine Ret.mk h rfl ?_
  repeat' (first | refine WO.cons ?_ | refine WB.cons ?_ | refine WP.one ?_ | ((apply W1.appE; exact rfl; exact rfl; exact rfl; exact Nat.zero_le _)) | ((first | apply W1.add64 | apply W1.sub64); (iterate 3 exact rfl); omega; omega) | (apply W1.iadr; (iterate 3 exact rfl); omega; first | assumption | ((first | apply V.get_row | apply get_srow | apply get_ty | apply get_ar | apply get_ob | apply get_sprow | apply get_brow); assumption)) | (apply W1.idxS; (iterate 3 exact rfl); omega; omega) | (apply W1.slcS; (iterate 4 exact rfl); omega) | (apply W1.pickT; exact rfl; exact rfl; (first | with_reducible rfl | assumption | (simp only [bn]; first | omega | assumption | decide)); exact rfl) | (apply W1.pickF; exact rfl; exact rfl; (first | with_reducible rfl | assumption | (simp only [bn]; first | omega | assumption | decide)); exact rfl) | (apply W1.op; (iterate 3 exact rfl)) | (apply W1.no; exact rfl) | ((first | apply W1.knowT | apply W1.knowFn | apply WQ.knowT | apply WQ.knowFn | apply W.condT); exact rfl; (first | with_reducible rfl | assumption | (simp only [bn]; first | omega | assumption | decide))) | ((first | apply W1.knowTn | apply W1.knowF | apply WQ.knowTn | apply WQ.knowF | apply W.condF); exact rfl; (first | with_reducible rfl | assumption | (simp only [bn]; first | omega | assumption | decide))) | (apply WQ.go; exact rfl; exact rfl) | (apply WQ.no; exact rfl) | ((first | apply W1.bothT | apply W1.bothF | apply WQ.bothT | apply WQ.bothF | apply W.cond); exact rfl; all_goals intro hc; all_goals first | (cases hc; done) | ((try simp only [hc]); (try simp only [bm] at hc))) | refine WO.nil ?_ | refine WB.nil ?_ | refine WP.bag rfl ?_ | refine WP.nil ?_ | refine W.seq ?_ | refine W.reg ?_ | refine W.dreg ?_ | refine W.block ?_ | refine W.ret ?_ | refine W.skip ?_ | refine W.exit ?_ | (simp only [srow_len, List.length_map, Qit, Int.toNat_natCast, entry, Opd.eat, cellsOf, TV.ofCells, allAv, Qseq, Qblk, List.map_cons, List.map_nil, putD, kp, Nat.reduceEqDiff, ↓reduceIte, beq_self_eq_true, Nat.reduceBEq]))
  all_goals exact ⟨.inr rfl, rfl, rfl⟩

end Hm

/- The law of kinds. Conditions: see each theorem. NORMX NORMY -/
namespace Hm
open Go (IntKind)
set_option maxHeartbeats 40000000
set_option maxRecDepth 4000
theorem kk_all : ((List.range 256).all fun (n : Nat) => tK (wideT n) == IntKind.wrap .u8 ((BitVec.ofInt (IntKind.bits .u8) n &&& BitVec.ofInt (IntKind.bits .u8) 127).toNat : Int)) = true := by decide +kernel
theorem kk {n : Int} (h0 : 0 ≤ n) (h1 : n < 256) : tK (wideT n) = IntKind.wrap .u8 ((BitVec.ofInt (IntKind.bits .u8) n &&& BitVec.ofInt (IntKind.bits .u8) 127).toNat : Int) := by
  obtain ⟨m, rfl⟩ := Int.eq_ofNat_of_zero_le h0
  have h := List.all_eq_true.1 kk_all m (List.mem_range.2 (by omega))
  exact beq_iff_eq.1 h
theorem ke_all : ((List.range 256).all fun (n : Nat) => !ke n || (kb n 0 && kb n 1 && kb n 2 && kb n 3 && kb n 4 && kb n 5 && kb n 6)) = true := by decide +kernel
theorem ke_kb {n : Int} (h0 : 0 ≤ n) (h1 : n < 256) (h : ke n = true) : (kb n 0 && kb n 1 && kb n 2 && kb n 3 && kb n 4 && kb n 5 && kb n 6) = true := by
  obtain ⟨m, rfl⟩ := Int.eq_ofNat_of_zero_le h0
  have h2 := List.all_eq_true.1 ke_all m (List.mem_range.2 (by omega))
  simp only [Bool.or_eq_true, Bool.not_eq_true'] at h2
  rcases h2 with h2 | h2
  · exact absurd (h.symm.trans h2) (by simp)
  · exact h2
theorem wideT_bk (n : Int) : (wideT n).bk ≤ 100 := by
  unfold wideT
  split
  · decide
  · generalize kb n 0 = b0
    generalize kb n 1 = b1
    generalize kb n 2 = b2
    generalize kb n 4 = b4
    cases kb n 3 <;> cases kb n 5 <;> cases kb n 6 <;> simp [kindT, everyT, Ty.bk_eq, Ty.nums, Ty.texts, Ty.arrays, Ty.objects, spbk, sbk, arBks, obBks, Ar.bk_eq, Ob.bk_eq, Ar.item, Ob.names, Ob.fields, Ob.must, Ob.rest, tyBks]
theorem wrap8 (x : Int) : 0 ≤ IntKind.wrap .u8 x ∧ IntKind.wrap .u8 x < 256 := by
  show 0 ≤ x % 256 ∧ x % 256 < 256
  omega
theorem kfl_range : ∀ (l : List Bool) (i : Nat) (acc : Int), 0 ≤ acc ∧ acc < 256 → 0 ≤ kfl l i acc ∧ kfl l i acc < 256
  | [], _, _, h => h
  | b :: r, i, acc, h => kfl_range r (i + 1) _ (by
    unfold kst
    split
    · exact wrap8 _
    · exact h)
theorem tK_range (t : Ty) : 0 ≤ tK t ∧ tK t < 256 := by
  unfold tK
  split
  · omega
  · exact kfl_range _ _ _ (by omega)
section
variable {T : Tab}
theorem inWide_ret (f : InFns T) (v : V) (hb : v.bk ≤ 1073741824) (hf : formed v = true) (n : Int) (h0 : 0 ≤ n) (h1 : n < 256) : Ret T F.hallmarkref09_In [.val v.av, .val (wideT n).av] (one (.bool (kb n v.kind))) := by
  obtain ⟨⟨k0, k6⟩, -⟩ := formed_inv hf
  have hcase : v.kind = 0 ∨ v.kind = 1 ∨ v.kind = 2 ∨ v.kind = 3 ∨ v.kind = 4 ∨ v.kind = 5 ∨ v.kind = 6 := by omega
  by_cases he : ke n = true
  · have hk := ke_kb h0 h1 he
    simp only [Bool.and_eq_true] at hk
    obtain ⟨⟨⟨⟨⟨⟨a, b⟩, c⟩, d⟩, e⟩, f'⟩, g⟩ := hk
    have : kb n v.kind = true := by
      rcases hcase with h | h | h | h | h | h | h <;> rw [h] <;> assumption
    rw [this, wideT, if_pos he]
    exact inEvery_ret f v
  · rw [wideT, if_neg he]
    have r := inKind_ret f v hb hf (kb n 0) (kb n 1) (kb n 2) (kb n 3) (kb n 4) (kb n 5) (kb n 6)
    have : selB v.kind (kb n 0) (kb n 1) (kb n 2) (kb n 3) (kb n 4) (kb n 5) (kb n 6) = kb n v.kind := by
      rcases hcase with h | h | h | h | h | h | h <;> rw [h] <;> rfl
    rw [this] at r
    exact r
theorem rawbit {n k : Int} (h : k = 0 ∨ k = 1 ∨ k = 2 ∨ k = 3 ∨ k = 4 ∨ k = 5 ∨ k = 6) :
    (IntKind.wrap .u8 (((BitVec.ofInt (IntKind.bits .u8) (n.fdiv (2 ^ (min (Int.toNat (IntKind.wrap .u64 (IntKind.wrap .i64 ((BitVec.ofInt (IntKind.bits .i64) k &&& BitVec.ofInt (IntKind.bits .i64) 7).toNat : Int)))) (IntKind.bits .u8))))) &&& BitVec.ofInt (IntKind.bits .u8) 1).toNat : Int) == 1) = kb n k := by
  rcases h with rfl | rfl | rfl | rfl | rfl | rfl | rfl <;> rfl
theorem wrapP64 (x : Int) : ¬ IntKind.wrap .u64 x < 0 := by
  have : 0 ≤ x % 18446744073709551616 := Int.emod_nonneg _ (by decide)
  show ¬ x % 18446744073709551616 < 0
  omega
theorem W1.shrU8 {T : Tab} {st : St} {K : St → Prop} {dst : Option Nat} {g : Option (Nat × Bool)} {x y : Opd} {a b : Int} (hg : wanted st g = some true) (hx : st.opd x = .av (.int .u8 a)) (hy : st.opd y = .av (.int .u64 b)) (hb : ¬ b < 0)
    (hk : K (putD dst (.av (.int .u8 (a.fdiv (2 ^ (min b.toNat (IntKind.bits .u8)))))) st)) : W1 T ⟨dst, .bin .shr x y, g⟩ st K := by
  refine W1.go hg (WS.op (v := .av (.int .u8 (a.fdiv (2 ^ (min b.toNat (IntKind.bits .u8)))))) rfl ?_ hk)
  simp only [stepOp, hx, hy, binA, if_neg hb]
theorem ShapeKinds_ret (h : Fn T F.hallmarklaw09_ShapeKinds hallmarklaw09_ShapeKinds.fn) (hl : Fn T F.hallmarklaw09_lives hallmarklaw09_lives.fn) (rl : Ret T F.hallmarklaw09_lives [] (one (.bool true))) (f : InFns T) (s : StFns T)
    (k1 : Fn T F.shape_OfKinds shape_OfKinds.fn) (k2 : Fn T F.shape_OfKinds_S1 shape_OfKinds_S1.fn) (k3 : Fn T F.shape_Every shape_Every.fn) (k4 : Fn T F.hallmarkref09_OfKinds hallmarkref09_OfKinds.fn) (k5 : Fn T F.shape_Kinds shape_Kinds.fn) (k6 : Fn T F.hallmarkref09_Kinds hallmarkref09_Kinds.fn)
    (s1 : Fn T F.hallmarklaw09_small hallmarklaw09_small.fn) (s2 : Fn T F.hallmarkkit_Fit hallmarkkit_Fit.fn) (s3 : Fn T F.hallmarkkit_PartsOf hallmarkkit_PartsOf.fn) (p8 : Fn T F.hallmarkref03_Formed hallmarkref03_Formed.fn) (p9 : Fn T F.hallmarkref03_All hallmarkref03_All.fn)
    (hf : Fn T F.hallmarkref09_Formed hallmarkref09_Formed.fn) (a1 : Fn T F.hallmarkref09_objects hallmarkref09_objects.fn) (a2 : Fn T F.hallmarkref09_object hallmarkref09_object.fn) (a3 : Fn T F.hallmarkref09_Never hallmarkref09_Never.fn) (a4 : Fn T F.hallmarkref09_Bare hallmarkref09_Bare.fn)
    (a5 : Fn T F.hallmarkref03_Rise hallmarkref03_Rise.fn) (a6 : Fn T F.hallmarkref03_UTF hallmarkref03_UTF.fn) (a7 : Fn T F.hallmarkref03_width hallmarkref03_width.fn) (a8 : Fn T F.hallmarkref03_trail hallmarkref03_trail.fn) (a9 : Fn T F.hallmarkref09_arrays hallmarkref09_arrays.fn)
    (b1 : Fn T F.hallmarkref09_Spans hallmarkref09_Spans.fn) (b2 : Fn T F.hallmarkref03_Numbers hallmarkref03_Numbers.fn) (b3 : Fn T F.hallmarkref03_Texts hallmarkref03_Texts.fn) (b4 : Fn T F.hallmarkref09_bound hallmarkref09_bound.fn) (b5 : Fn T F.hallmarkref03_Number hallmarkref03_Number.fn)
    (d1 : Fn T F.hallmarkkit_FitType hallmarkkit_FitType.fn) (d2 : Fn T F.hallmarkkit_typeParts hallmarkkit_typeParts.fn) (n : Int) (h0 : 0 ≤ n) (h1 : n < 256) (t : Ty) (v : V) (hlt : t.bk ≤ 1073741824) (hlv : v.bk ≤ 1073741824) :
    Ret T F.hallmarklaw09_ShapeKinds [.val (.int .u8 n), .val t.av, .val v.av] (one (.bool true)) := by
  obtain ⟨st, -, r1⟩ := fitType_ret d1 d2 t hlt
  have r2 := refFormed9_ret hf a1 a2 a3 a4 a5 a6 a7 a8 a9 b1 b2 b3 b4 b5 t hlt
  obtain ⟨sv, -, r3⟩ := small09_ret s1 s2 s3 v hlv
  have r4 := refFormed_ret p8 p9 b5 a5 a6 a7 a8 v hlv
  obtain ⟨C1, c1, r5⟩ := ofKinds_ret k1 k2 k3 n
  obtain ⟨C2, c2, r6⟩ := refOfKinds_ret k4 n h0 h1
  have wb := wideT_bk n
  have r7 := sameType_ret s (wideT n) (by omega) (wideT n) (by omega)
  rw [TySame, show eqB (wideT n) (wideT n) = true from eqB_iff.2 rfl] at r7
  have r8 := kinds_ret k5 (wideT n)
  rw [kk h0 h1] at r8
  have r9 := kinds_ret k5 t
  have q1 := refKinds_ret k6 t
  have q2 : formed v = true → Ret T F.hallmarkref09_In [.val v.av, .val (wideT n).av] (one (.bool (kb n v.kind))) := fun hv => inWide_ret f v hlv hv n h0 h1
  have q3 : formed v = true → _ := fun hv => rawbit (n := n) (k := v.kind) (by obtain ⟨⟨x0, x6⟩, -⟩ := formed_inv hv; omega)
  have tr := tK_range t
  rw [Formed9] at r2
  generalize tK t = kt at *
  generalize tformed t = ft at *
  generalize wideT n = w at *
  rw [Ty.row_eq] at c1 c2
  refine Ret.mk h rfl ?_
  cases hv : formed v
  · rw [hv] at r4
    clear q2 q3
    simp only [Ty.av_eq, V.av_eq] at *
    repeat' (first | refine WO.cons ?_ | refine WB.cons ?_ | refine WP.one ?_ | ((apply W1.shrU8; exact rfl; exact rfl; exact rfl; exact wrapP64 _)) | ((apply W1.toI64; exact rfl; exact rfl; omega; omega)) | (first | (apply WQ.call (hm := hl.modes); (iterate 4 exact rfl)) | (apply W1.callV (hm := hl.modes); (iterate 5 exact rfl); exact (rl); exact rfl)) | ((apply W1.callD1 (hm := k1.modes) c1; (iterate 5 exact rfl); exact r5; exact rfl)) | ((apply WQ.call (hm := k4.modes); (iterate 4 exact rfl))) | ((apply W1.callD1 (hm := k4.modes) c2; (iterate 5 exact rfl); exact r6; exact rfl)) | (first | (apply WQ.call (hm := s.a1.modes); (iterate 4 exact rfl)) | (apply W1.callV (hm := s.a1.modes); (iterate 5 exact rfl); exact (r7); exact rfl)) | (first | (apply WQ.call (hm := k5.modes); (iterate 4 exact rfl)) | (apply W1.callV (hm := k5.modes); (iterate 5 exact rfl); exact (r8); exact rfl)) | (first | (apply WQ.call (hm := k5.modes); (iterate 4 exact rfl)) | (apply W1.callV (hm := k5.modes); (iterate 5 exact rfl); exact (r9); exact rfl)) | (first | (apply WQ.call (hm := s1.modes); (iterate 4 exact rfl)) | (apply W1.callV (hm := s1.modes); (iterate 5 exact rfl); exact (r3); exact rfl)) | (first | (apply WQ.call (hm := p8.modes); (iterate 4 exact rfl)) | (apply W1.callV (hm := p8.modes); (iterate 5 exact rfl); exact (r4); exact rfl)) | (first | (apply WQ.call (hm := d1.modes); (iterate 4 exact rfl)) | (apply W1.callV (hm := d1.modes); (iterate 5 exact rfl); exact (r1); exact rfl)) | (first | (apply WQ.call (hm := hf.modes); (iterate 4 exact rfl)) | (apply W1.callV (hm := hf.modes); (iterate 5 exact rfl); exact (r2); exact rfl)) | (first | (apply WQ.call (hm := k6.modes); (iterate 4 exact rfl)) | (apply W1.callV (hm := k6.modes); (iterate 5 exact rfl); exact (q1); exact rfl)) | ((first | apply W1.add64 | apply W1.sub64); (iterate 3 exact rfl); omega; omega) | (apply W1.iadr; (iterate 3 exact rfl); omega; first | assumption | ((first | apply V.get_row | apply get_srow | apply get_ty | apply get_ar | apply get_ob | apply get_sprow | apply get_brow); assumption)) | (apply W1.idxS; (iterate 3 exact rfl); omega; omega) | (apply W1.slcS; (iterate 4 exact rfl); omega) | (apply W1.pickT; exact rfl; exact rfl; (first | with_reducible rfl | assumption | (simp only [bn]; first | omega | assumption | decide)); exact rfl) | (apply W1.pickF; exact rfl; exact rfl; (first | with_reducible rfl | assumption | (simp only [bn]; first | omega | assumption | decide)); exact rfl) | (apply W1.op; (iterate 3 exact rfl)) | (apply W1.no; exact rfl) | ((first | apply W1.knowT | apply W1.knowFn | apply WQ.knowT | apply WQ.knowFn | apply W.condT); exact rfl; (first | with_reducible rfl | assumption | (simp only [bn]; first | omega | assumption | decide))) | ((first | apply W1.knowTn | apply W1.knowF | apply WQ.knowTn | apply WQ.knowF | apply W.condF); exact rfl; (first | with_reducible rfl | assumption | (simp only [bn]; first | omega | assumption | decide))) | (apply WQ.go; exact rfl; exact rfl) | (apply WQ.no; exact rfl) | ((first | apply W1.bothT | apply W1.bothF | apply WQ.bothT | apply WQ.bothF | apply W.cond); exact rfl; all_goals intro hc; all_goals first | (cases hc; done) | ((try simp only [hc]); (try simp only [bm] at hc))) | refine WO.nil ?_ | refine WB.nil ?_ | refine WP.bag rfl ?_ | refine WP.nil ?_ | refine W.seq ?_ | refine W.reg ?_ | refine W.dreg ?_ | refine W.block ?_ | refine W.ret ?_ | refine W.skip ?_ | refine W.exit ?_ | (simp only [sprow_len, brow_len, srow_len, List.length_map, Qit, Int.toNat_natCast, entry, Opd.eat, cellsOf, TV.ofCells, allAv, Qseq, Qblk, List.map_cons, List.map_nil, putD, kp, Nat.reduceEqDiff, ↓reduceIte, beq_self_eq_true, Nat.reduceBEq, kr, sealRow, sealRows, Cell.shut, one, St.freeze, kq, List.drop_zero, List.drop_succ_cons, List.take_succ_cons, List.take_zero, List.cons_append, List.nil_append, Nat.zero_add, resTV, tvOf, List.length_cons, List.length_nil, Nat.reduceAdd]))
    all_goals clear r1 r2 r3 r4 r5 r6 r7 r8 r9 q1 rl
    all_goals first | refine Qend.boo rfl rfl ?_ | skip
    all_goals first | rfl | (simp_all; done) | (exfalso; simp_all; done) | trace_state
  · have q2' := q2 hv
    have q3' := q3 hv
    rw [hv] at r4
    clear q2 q3
    generalize kb n v.kind = bt at *
    simp only [Ty.av_eq, V.av_eq] at *
    repeat' (first | refine WO.cons ?_ | refine WB.cons ?_ | refine WP.one ?_ | ((apply W1.shrU8; exact rfl; exact rfl; exact rfl; exact wrapP64 _)) | ((apply W1.toI64; exact rfl; exact rfl; omega; omega)) | (first | (apply WQ.call (hm := hl.modes); (iterate 4 exact rfl)) | (apply W1.callV (hm := hl.modes); (iterate 5 exact rfl); exact (rl); exact rfl)) | ((apply W1.callD1 (hm := k1.modes) c1; (iterate 5 exact rfl); exact r5; exact rfl)) | ((apply WQ.call (hm := k4.modes); (iterate 4 exact rfl))) | ((apply W1.callD1 (hm := k4.modes) c2; (iterate 5 exact rfl); exact r6; exact rfl)) | (first | (apply WQ.call (hm := s.a1.modes); (iterate 4 exact rfl)) | (apply W1.callV (hm := s.a1.modes); (iterate 5 exact rfl); exact (r7); exact rfl)) | (first | (apply WQ.call (hm := k5.modes); (iterate 4 exact rfl)) | (apply W1.callV (hm := k5.modes); (iterate 5 exact rfl); exact (r8); exact rfl)) | (first | (apply WQ.call (hm := k5.modes); (iterate 4 exact rfl)) | (apply W1.callV (hm := k5.modes); (iterate 5 exact rfl); exact (r9); exact rfl)) | (first | (apply WQ.call (hm := s1.modes); (iterate 4 exact rfl)) | (apply W1.callV (hm := s1.modes); (iterate 5 exact rfl); exact (r3); exact rfl)) | (first | (apply WQ.call (hm := p8.modes); (iterate 4 exact rfl)) | (apply W1.callV (hm := p8.modes); (iterate 5 exact rfl); exact (r4); exact rfl)) | (first | (apply WQ.call (hm := f.a1.modes); (iterate 4 exact rfl)) | (apply W1.callV (hm := f.a1.modes); (iterate 5 exact rfl); exact (q2'); exact rfl)) | (first | (apply WQ.call (hm := d1.modes); (iterate 4 exact rfl)) | (apply W1.callV (hm := d1.modes); (iterate 5 exact rfl); exact (r1); exact rfl)) | (first | (apply WQ.call (hm := hf.modes); (iterate 4 exact rfl)) | (apply W1.callV (hm := hf.modes); (iterate 5 exact rfl); exact (r2); exact rfl)) | (first | (apply WQ.call (hm := k6.modes); (iterate 4 exact rfl)) | (apply W1.callV (hm := k6.modes); (iterate 5 exact rfl); exact (q1); exact rfl)) | ((first | apply W1.add64 | apply W1.sub64); (iterate 3 exact rfl); omega; omega) | (apply W1.iadr; (iterate 3 exact rfl); omega; first | assumption | ((first | apply V.get_row | apply get_srow | apply get_ty | apply get_ar | apply get_ob | apply get_sprow | apply get_brow); assumption)) | (apply W1.idxS; (iterate 3 exact rfl); omega; omega) | (apply W1.slcS; (iterate 4 exact rfl); omega) | (apply W1.pickT; exact rfl; exact rfl; (first | with_reducible rfl | assumption | (simp only [bn]; first | omega | assumption | decide)); exact rfl) | (apply W1.pickF; exact rfl; exact rfl; (first | with_reducible rfl | assumption | (simp only [bn]; first | omega | assumption | decide)); exact rfl) | (apply W1.op; (iterate 3 exact rfl)) | (apply W1.no; exact rfl) | ((first | apply W1.knowT | apply W1.knowFn | apply WQ.knowT | apply WQ.knowFn | apply W.condT); exact rfl; (first | with_reducible rfl | assumption | (simp only [bn]; first | omega | assumption | decide))) | ((first | apply W1.knowTn | apply W1.knowF | apply WQ.knowTn | apply WQ.knowF | apply W.condF); exact rfl; (first | with_reducible rfl | assumption | (simp only [bn]; first | omega | assumption | decide))) | (apply WQ.go; exact rfl; exact rfl) | (apply WQ.no; exact rfl) | ((first | apply W1.bothT | apply W1.bothF | apply WQ.bothT | apply WQ.bothF | apply W.cond); exact rfl; all_goals intro hc; all_goals first | (cases hc; done) | ((try simp only [hc]); (try simp only [bm] at hc))) | refine WO.nil ?_ | refine WB.nil ?_ | refine WP.bag rfl ?_ | refine WP.nil ?_ | refine W.seq ?_ | refine W.reg ?_ | refine W.dreg ?_ | refine W.block ?_ | refine W.ret ?_ | refine W.skip ?_ | refine W.exit ?_ | (simp only [sprow_len, brow_len, srow_len, List.length_map, Qit, Int.toNat_natCast, entry, Opd.eat, cellsOf, TV.ofCells, allAv, Qseq, Qblk, List.map_cons, List.map_nil, putD, kp, Nat.reduceEqDiff, ↓reduceIte, beq_self_eq_true, Nat.reduceBEq, kr, sealRow, sealRows, Cell.shut, one, St.freeze, kq, List.drop_zero, List.drop_succ_cons, List.take_succ_cons, List.take_zero, List.cons_append, List.nil_append, Nat.zero_add, resTV, tvOf, List.length_cons, List.length_nil, Nat.reduceAdd]))
    all_goals clear r1 r2 r3 r4 r5 r6 r7 r8 r9 q1 rl q2'
    all_goals first | refine Qend.boo rfl rfl ?_ | skip
    all_goals first | rfl | (simp_all; done) | (exfalso; simp_all; done) | trace_state
end
end Hm
