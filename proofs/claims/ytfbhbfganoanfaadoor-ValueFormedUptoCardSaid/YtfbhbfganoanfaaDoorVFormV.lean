/- What the law answers on the abstract machine. Conditions: see each theorem. -/
import Derived.Test.YtfbhbfganoanfaaDoorVFormV1
set_option linter.unusedVariables false
set_option linter.unusedSimpArgs false
/- Which texts are UTF-8: classes. Conditions: see each theorem. -/
namespace Hm
open Go (IntKind)
set_option maxHeartbeats 40000000
set_option maxRecDepth 4000
theorem vs_c5 {T : Tab} {s t : Str} (hp1 : utf t = utf s) (hp2 : t.length ≤ 1073741824) (hne : t ≠ []) (hasc : ¬ (bAt t 0).toNat < 128) (hf : firZ[(bAt t 0).toNat]? = some 4) (c1 : 241 ≤ (bAt t 0).toNat) (c2 : (bAt t 0).toNat ≤ 243) : VStep T s t := by
  unfold VStep
  have hlen : 0 < t.length := List.length_pos_iff.2 hne
  have hc256 : (bAt t 0).toNat < 256 := (bAt t 0).toNat_lt
  have z0 : Int.toNat 0 = 0 := rfl
  have z1 : Int.toNat 1 = 1 := rfl
  have z2 : Int.toNat 2 = 2 := rfl
  have z3 : Int.toNat 3 = 3 := rfl
  have z4 : Int.toNat 4 = 4 := rfl
  have z8 : Int.toNat 8 = 8 := rfl
  have z16 : Int.toNat 16 = 16 := rfl
  have z24 : Int.toNat 24 = 24 := rfl
  have z32 : Int.toNat 32 = 32 := rfl
  have hasc' : ¬ ((bAt t 0).toNat : Int) < 128 := by omega
  have hwt := utf_cons hne
  have d2 : (t.drop 2).length = t.length - 2 := List.length_drop
  have d3 : (t.drop 3).length = t.length - 3 := List.length_drop
  have d4 : (t.drop 4).length = t.length - 4 := List.length_drop
  obtain ⟨rest, hr⟩ := fir_drop hf
  have hr' : (zavs firZ).drop (Int.toNat ((bAt t 0).toNat : Int) * 1) = .int .u8 4 :: rest := by rw [Int.toNat_natCast, Nat.mul_one]; exact hr
  have hwd := wd_four (t := t) 128 191 (by omega) (by omega) (by rw [if_neg (by omega)]) (by rw [if_neg (by omega)])
  repeat' (first | refine WO.cons ?_ | refine WB.cons ?_ | refine WP.one ?_ | ((simp only [z0, z1, z2, z3, z4])) | ((apply W1.tabA; exact rfl; exact rfl; exact rfl; exact hr'; omega; omega; (rw [fir_len]; omega))) | ((apply W1.load1; exact rfl; exact rfl)) | ((apply W1.slcD; exact rfl; exact rfl; exact rfl; omega)) | ((first | apply W1.add64 | apply W1.sub64); (iterate 3 exact rfl); omega; omega) | (apply W1.iadr; (iterate 3 exact rfl); omega; first | assumption | ((first | apply V.get_row | apply get_srow | apply get_ty | apply get_ar | apply get_ob | apply get_sprow | apply get_brow); assumption)) | (apply W1.idxS; (iterate 3 exact rfl); omega; omega) | (apply W1.slcS; (iterate 4 exact rfl); omega) | (apply W1.pickT; exact rfl; exact rfl; (first | with_reducible rfl | assumption | (simp only [bn]; first | omega | assumption | decide)); exact rfl) | (apply W1.pickF; exact rfl; exact rfl; (first | with_reducible rfl | assumption | (simp only [bn]; first | omega | assumption | decide)); exact rfl) | (apply W1.op; (iterate 3 exact rfl)) | (apply W1.no; exact rfl) | ((first | apply W1.knowT | apply W1.knowFn | apply WQ.knowT | apply WQ.knowFn | apply W.condT); exact rfl; (first | with_reducible rfl | assumption | (simp only [bn]; first | omega | assumption | decide))) | ((first | apply W1.knowTn | apply W1.knowF | apply WQ.knowTn | apply WQ.knowF | apply W.condF); exact rfl; (first | with_reducible rfl | assumption | (simp only [bn]; first | omega | assumption | decide))) | (apply WQ.go; exact rfl; exact rfl) | (apply WQ.no; exact rfl) | ((first | apply W1.bothT | apply W1.bothF | apply WQ.bothT | apply WQ.bothF | apply W.cond); exact rfl; all_goals intro hc; all_goals first | (cases hc; done) | ((try simp only [hc]); (try simp only [bm] at hc))) | refine WO.nil ?_ | refine WB.nil ?_ | refine WP.bag rfl ?_ | refine WP.nil ?_ | refine W.seq ?_ | refine W.reg ?_ | refine W.dreg ?_ | refine W.block ?_ | refine W.ret ?_ | refine W.skip ?_ | refine W.exit ?_ | (simp only [srow_len, List.length_map, Qit, Int.toNat_natCast, entry, Opd.eat, cellsOf, TV.ofCells, allAv, Qseq, Qblk, List.map_cons, List.map_nil, putD, kp, Nat.reduceEqDiff, ↓reduceIte, beq_self_eq_true, Nat.reduceBEq]))
  all_goals first
    | (refine Qend.boo rfl rfl ?_; rw [← hp1, hwt, hwd, if_neg (by omega)]; rfl)
    | (have hk : wd t = 4 := by rw [hwd, if_pos (by omega)]
       rw [hk] at hwt
       refine ⟨_, ⟨?_, ?_⟩, ?_, rfl⟩
       · rw [← hp1, hwt]; rfl
       · omega
       · omega)
theorem vs_c6 {T : Tab} {s t : Str} (hp1 : utf t = utf s) (hp2 : t.length ≤ 1073741824) (hne : t ≠ []) (hasc : ¬ (bAt t 0).toNat < 128) (hf : firZ[(bAt t 0).toNat]? = some 68) (c1 : (bAt t 0).toNat = 244) : VStep T s t := by
  unfold VStep
  have hlen : 0 < t.length := List.length_pos_iff.2 hne
  have hc256 : (bAt t 0).toNat < 256 := (bAt t 0).toNat_lt
  have z0 : Int.toNat 0 = 0 := rfl
  have z1 : Int.toNat 1 = 1 := rfl
  have z2 : Int.toNat 2 = 2 := rfl
  have z3 : Int.toNat 3 = 3 := rfl
  have z4 : Int.toNat 4 = 4 := rfl
  have z8 : Int.toNat 8 = 8 := rfl
  have z16 : Int.toNat 16 = 16 := rfl
  have z24 : Int.toNat 24 = 24 := rfl
  have z32 : Int.toNat 32 = 32 := rfl
  have hasc' : ¬ ((bAt t 0).toNat : Int) < 128 := by omega
  have hwt := utf_cons hne
  have d2 : (t.drop 2).length = t.length - 2 := List.length_drop
  have d3 : (t.drop 3).length = t.length - 3 := List.length_drop
  have d4 : (t.drop 4).length = t.length - 4 := List.length_drop
  obtain ⟨rest, hr⟩ := fir_drop hf
  have hr' : (zavs firZ).drop (Int.toNat ((bAt t 0).toNat : Int) * 1) = .int .u8 68 :: rest := by rw [Int.toNat_natCast, Nat.mul_one]; exact hr
  have hwd := wd_four (t := t) 128 143 (by omega) (by omega) (by rw [if_neg (by omega)]) (by rw [if_pos (by omega)])
  repeat' (first | refine WO.cons ?_ | refine WB.cons ?_ | refine WP.one ?_ | ((simp only [z0, z1, z2, z3, z4])) | ((apply W1.tabA; exact rfl; exact rfl; exact rfl; exact hr'; omega; omega; (rw [fir_len]; omega))) | ((apply W1.load1; exact rfl; exact rfl)) | ((apply W1.slcD; exact rfl; exact rfl; exact rfl; omega)) | ((first | apply W1.add64 | apply W1.sub64); (iterate 3 exact rfl); omega; omega) | (apply W1.iadr; (iterate 3 exact rfl); omega; first | assumption | ((first | apply V.get_row | apply get_srow | apply get_ty | apply get_ar | apply get_ob | apply get_sprow | apply get_brow); assumption)) | (apply W1.idxS; (iterate 3 exact rfl); omega; omega) | (apply W1.slcS; (iterate 4 exact rfl); omega) | (apply W1.pickT; exact rfl; exact rfl; (first | with_reducible rfl | assumption | (simp only [bn]; first | omega | assumption | decide)); exact rfl) | (apply W1.pickF; exact rfl; exact rfl; (first | with_reducible rfl | assumption | (simp only [bn]; first | omega | assumption | decide)); exact rfl) | (apply W1.op; (iterate 3 exact rfl)) | (apply W1.no; exact rfl) | ((first | apply W1.knowT | apply W1.knowFn | apply WQ.knowT | apply WQ.knowFn | apply W.condT); exact rfl; (first | with_reducible rfl | assumption | (simp only [bn]; first | omega | assumption | decide))) | ((first | apply W1.knowTn | apply W1.knowF | apply WQ.knowTn | apply WQ.knowF | apply W.condF); exact rfl; (first | with_reducible rfl | assumption | (simp only [bn]; first | omega | assumption | decide))) | (apply WQ.go; exact rfl; exact rfl) | (apply WQ.no; exact rfl) | ((first | apply W1.bothT | apply W1.bothF | apply WQ.bothT | apply WQ.bothF | apply W.cond); exact rfl; all_goals intro hc; all_goals first | (cases hc; done) | ((try simp only [hc]); (try simp only [bm] at hc))) | refine WO.nil ?_ | refine WB.nil ?_ | refine WP.bag rfl ?_ | refine WP.nil ?_ | refine W.seq ?_ | refine W.reg ?_ | refine W.dreg ?_ | refine W.block ?_ | refine W.ret ?_ | refine W.skip ?_ | refine W.exit ?_ | (simp only [srow_len, List.length_map, Qit, Int.toNat_natCast, entry, Opd.eat, cellsOf, TV.ofCells, allAv, Qseq, Qblk, List.map_cons, List.map_nil, putD, kp, Nat.reduceEqDiff, ↓reduceIte, beq_self_eq_true, Nat.reduceBEq]))
  all_goals first
    | (refine Qend.boo rfl rfl ?_; rw [← hp1, hwt, hwd, if_neg (by omega)]; rfl)
    | (have hk : wd t = 4 := by rw [hwd, if_pos (by omega)]
       rw [hk] at hwt
       refine ⟨_, ⟨?_, ?_⟩, ?_, rfl⟩
       · rw [← hp1, hwt]; rfl
       · omega
       · omega)
theorem vs_c7 {T : Tab} {s t : Str} (hp1 : utf t = utf s) (hp2 : t.length ≤ 1073741824) (hne : t ≠ []) (hasc : ¬ (bAt t 0).toNat < 128) (hf : firZ[(bAt t 0).toNat]? = some 241) (c1 : (bAt t 0).toNat < 194 ∨ 244 < (bAt t 0).toNat) : VStep T s t := by
  unfold VStep
  have hlen : 0 < t.length := List.length_pos_iff.2 hne
  have hc256 : (bAt t 0).toNat < 256 := (bAt t 0).toNat_lt
  have z0 : Int.toNat 0 = 0 := rfl
  have z1 : Int.toNat 1 = 1 := rfl
  have z2 : Int.toNat 2 = 2 := rfl
  have z3 : Int.toNat 3 = 3 := rfl
  have z4 : Int.toNat 4 = 4 := rfl
  have z8 : Int.toNat 8 = 8 := rfl
  have z16 : Int.toNat 16 = 16 := rfl
  have z24 : Int.toNat 24 = 24 := rfl
  have z32 : Int.toNat 32 = 32 := rfl
  have hasc' : ¬ ((bAt t 0).toNat : Int) < 128 := by omega
  have hwt := utf_cons hne
  have d2 : (t.drop 2).length = t.length - 2 := List.length_drop
  have d3 : (t.drop 3).length = t.length - 3 := List.length_drop
  have d4 : (t.drop 4).length = t.length - 4 := List.length_drop
  obtain ⟨rest, hr⟩ := fir_drop hf
  have hr' : (zavs firZ).drop (Int.toNat ((bAt t 0).toNat : Int) * 1) = .int .u8 241 :: rest := by rw [Int.toNat_natCast, Nat.mul_one]; exact hr
  have hwd := wd_none (t := t) (by omega) c1
  repeat' (first | refine WO.cons ?_ | refine WB.cons ?_ | refine WP.one ?_ | ((simp only [z0, z1, z2, z3, z4])) | ((apply W1.tabA; exact rfl; exact rfl; exact rfl; exact hr'; omega; omega; (rw [fir_len]; omega))) | ((apply W1.load1; exact rfl; exact rfl)) | ((apply W1.slcD; exact rfl; exact rfl; exact rfl; omega)) | ((first | apply W1.add64 | apply W1.sub64); (iterate 3 exact rfl); omega; omega) | (apply W1.iadr; (iterate 3 exact rfl); omega; first | assumption | ((first | apply V.get_row | apply get_srow | apply get_ty | apply get_ar | apply get_ob | apply get_sprow | apply get_brow); assumption)) | (apply W1.idxS; (iterate 3 exact rfl); omega; omega) | (apply W1.slcS; (iterate 4 exact rfl); omega) | (apply W1.pickT; exact rfl; exact rfl; (first | with_reducible rfl | assumption | (simp only [bn]; first | omega | assumption | decide)); exact rfl) | (apply W1.pickF; exact rfl; exact rfl; (first | with_reducible rfl | assumption | (simp only [bn]; first | omega | assumption | decide)); exact rfl) | (apply W1.op; (iterate 3 exact rfl)) | (apply W1.no; exact rfl) | ((first | apply W1.knowT | apply W1.knowFn | apply WQ.knowT | apply WQ.knowFn | apply W.condT); exact rfl; (first | with_reducible rfl | assumption | (simp only [bn]; first | omega | assumption | decide))) | ((first | apply W1.knowTn | apply W1.knowF | apply WQ.knowTn | apply WQ.knowF | apply W.condF); exact rfl; (first | with_reducible rfl | assumption | (simp only [bn]; first | omega | assumption | decide))) | (apply WQ.go; exact rfl; exact rfl) | (apply WQ.no; exact rfl) | ((first | apply W1.bothT | apply W1.bothF | apply WQ.bothT | apply WQ.bothF | apply W.cond); exact rfl; all_goals intro hc; all_goals first | (cases hc; done) | ((try simp only [hc]); (try simp only [bm] at hc))) | refine WO.nil ?_ | refine WB.nil ?_ | refine WP.bag rfl ?_ | refine WP.nil ?_ | refine W.seq ?_ | refine W.reg ?_ | refine W.dreg ?_ | refine W.block ?_ | refine W.ret ?_ | refine W.skip ?_ | refine W.exit ?_ | (simp only [srow_len, List.length_map, Qit, Int.toNat_natCast, entry, Opd.eat, cellsOf, TV.ofCells, allAv, Qseq, Qblk, List.map_cons, List.map_nil, putD, kp, Nat.reduceEqDiff, ↓reduceIte, beq_self_eq_true, Nat.reduceBEq]))
  all_goals (refine Qend.boo rfl rfl ?_; rw [← hp1, hwt, hwd]; rfl)
end Hm

/- Which texts are UTF-8, as Go's library has it. Conditions: see each theorem. -/
namespace Hm
open Go (IntKind)
set_option maxHeartbeats 4000000
set_option maxRecDepth 4000
theorem validString_ret {T : Tab} (h : Fn T F.unicode_utf8_ValidString unicode_utf8_ValidString.fn) (hw : Fn T F.unicode_utf8_word_string unicode_utf8_word_string.fn) (s : Str) (hb : s.length ≤ 1073741824) :
    Ret T F.unicode_utf8_ValidString [.val (.str s)] (one (.bool (utf s))) := by
  refine Ret.mk h rfl ?_
  repeat' (first | refine WO.cons ?_ | refine WB.cons ?_ | refine WP.one ?_ | ((first | apply W1.add64 | apply W1.sub64); (iterate 3 exact rfl); omega; omega) | (apply W1.iadr; (iterate 3 exact rfl); omega; first | assumption | ((first | apply V.get_row | apply get_srow | apply get_ty | apply get_ar | apply get_ob | apply get_sprow | apply get_brow); assumption)) | (apply W1.idxS; (iterate 3 exact rfl); omega; omega) | (apply W1.slcS; (iterate 4 exact rfl); omega) | (apply W1.pickT; exact rfl; exact rfl; (first | with_reducible rfl | assumption | (simp only [bn]; first | omega | assumption | decide)); exact rfl) | (apply W1.pickF; exact rfl; exact rfl; (first | with_reducible rfl | assumption | (simp only [bn]; first | omega | assumption | decide)); exact rfl) | (apply W1.op; (iterate 3 exact rfl)) | (apply W1.no; exact rfl) | ((first | apply W1.knowT | apply W1.knowFn | apply WQ.knowT | apply WQ.knowFn | apply W.condT); exact rfl; (first | with_reducible rfl | assumption | (simp only [bn]; first | omega | assumption | decide))) | ((first | apply W1.knowTn | apply W1.knowF | apply WQ.knowTn | apply WQ.knowF | apply W.condF); exact rfl; (first | with_reducible rfl | assumption | (simp only [bn]; first | omega | assumption | decide))) | (apply WQ.go; exact rfl; exact rfl) | (apply WQ.no; exact rfl) | ((first | apply W1.bothT | apply W1.bothF | apply WQ.bothT | apply WQ.bothF | apply W.cond); exact rfl; all_goals intro hc; all_goals first | (cases hc; done) | ((try simp only [hc]); (try simp only [bm] at hc))) | refine WO.nil ?_ | refine WB.nil ?_ | refine WP.bag rfl ?_ | refine WP.nil ?_ | refine W.seq ?_ | refine W.reg ?_ | refine W.dreg ?_ | refine W.block ?_ | refine W.ret ?_ | refine W.skip ?_ | refine W.exit ?_ | (simp only [srow_len, List.length_map, Qit, Int.toNat_natCast, entry, Opd.eat, cellsOf, TV.ofCells, allAv, Qseq, Qblk, List.map_cons, List.map_nil, putD, kp, Nat.reduceEqDiff, ↓reduceIte, beq_self_eq_true, Nat.reduceBEq]))
  refine W.iterP (β := Str) (fun t s0 => s0.put 0 (.av (.str t))) (fun t => utf t = utf s ∧ t.length ≤ 1073741824) List.length s ⟨rfl, hb⟩ rfl ?_
  rintro t ⟨hp1, hp2⟩
  show VStep T s t
  by_cases hne : t = []
  · exact vs_nil hp1 hp2 hne
  · by_cases hasc : (bAt t 0).toNat < 128
    · exact vs_asc hp1 hp2 hw hne hasc
    · rcases fir_cases _ (bAt t 0).toNat_lt (by omega) with ⟨hf, c1, c2⟩ | ⟨hf, c1⟩ | ⟨hf, c1, c2, c3⟩ | ⟨hf, c1⟩ | ⟨hf, c1⟩ | ⟨hf, c1, c2⟩ | ⟨hf, c1⟩ | ⟨hf, c1⟩
      · exact vs_c0 hp1 hp2 hne hasc hf c1 c2
      · exact vs_c1 hp1 hp2 hne hasc hf c1
      · exact vs_c2 hp1 hp2 hne hasc hf c1 c2 c3
      · exact vs_c3 hp1 hp2 hne hasc hf c1
      · exact vs_c4 hp1 hp2 hne hasc hf c1
      · exact vs_c5 hp1 hp2 hne hasc hf c1 c2
      · exact vs_c6 hp1 hp2 hne hasc hf c1
      · exact vs_c7 hp1 hp2 hne hasc hf c1
end Hm

/- The contract of the program's test for UTF-8, by name. Conditions: none (a definition). -/
namespace Hm
def ValidOk (T : Tab) : Prop := ∀ s : Str, s.length ≤ 1073741824 → Ret T F.utf_Valid [.val (.str s)] (one (.bool (utf s)))
end Hm

/- Which texts the program says are UTF-8. Conditions: see each theorem. -/
namespace Hm
open Go (IntKind)
set_option maxHeartbeats 4000000
set_option maxRecDepth 4000
theorem validOk {T : Tab} (hu : Fn T F.utf_Valid utf_Valid.fn) (h : Fn T F.unicode_utf8_ValidString unicode_utf8_ValidString.fn) (hw : Fn T F.unicode_utf8_word_string unicode_utf8_word_string.fn) : ValidOk T := by
  intro s hb
  have r := validString_ret h hw s hb
  refine Ret.mk hu rfl ?_
  repeat' (first | refine WO.cons ?_ | refine WB.cons ?_ | refine WP.one ?_ | (first | (apply WQ.call (hm := h.modes); (iterate 4 exact rfl)) | (apply W1.callV (hm := h.modes); (iterate 5 exact rfl); exact (r); exact rfl)) | ((first | apply W1.add64 | apply W1.sub64); (iterate 3 exact rfl); omega; omega) | (apply W1.iadr; (iterate 3 exact rfl); omega; first | assumption | ((first | apply V.get_row | apply get_srow | apply get_ty | apply get_ar | apply get_ob | apply get_sprow | apply get_brow); assumption)) | (apply W1.idxS; (iterate 3 exact rfl); omega; omega) | (apply W1.slcS; (iterate 4 exact rfl); omega) | (apply W1.pickT; exact rfl; exact rfl; (first | with_reducible rfl | assumption | (simp only [bn]; first | omega | assumption | decide)); exact rfl) | (apply W1.pickF; exact rfl; exact rfl; (first | with_reducible rfl | assumption | (simp only [bn]; first | omega | assumption | decide)); exact rfl) | (apply W1.op; (iterate 3 exact rfl)) | (apply W1.no; exact rfl) | ((first | apply W1.knowT | apply W1.knowFn | apply WQ.knowT | apply WQ.knowFn | apply W.condT); exact rfl; (first | with_reducible rfl | assumption | (simp only [bn]; first | omega | assumption | decide))) | ((first | apply W1.knowTn | apply W1.knowF | apply WQ.knowTn | apply WQ.knowF | apply W.condF); exact rfl; (first | with_reducible rfl | assumption | (simp only [bn]; first | omega | assumption | decide))) | (apply WQ.go; exact rfl; exact rfl) | (apply WQ.no; exact rfl) | ((first | apply W1.bothT | apply W1.bothF | apply WQ.bothT | apply WQ.bothF | apply W.cond); exact rfl; all_goals intro hc; all_goals first | (cases hc; done) | ((try simp only [hc]); (try simp only [bm] at hc))) | refine WO.nil ?_ | refine WB.nil ?_ | refine WP.bag rfl ?_ | refine WP.nil ?_ | refine W.seq ?_ | refine W.reg ?_ | refine W.dreg ?_ | refine W.block ?_ | refine W.ret ?_ | refine W.skip ?_ | refine W.exit ?_ | (simp only [srow_len, List.length_map, Qit, Int.toNat_natCast, entry, Opd.eat, cellsOf, TV.ofCells, allAv, Qseq, Qblk, List.map_cons, List.map_nil, putD, kp, Nat.reduceEqDiff, ↓reduceIte, beq_self_eq_true, Nat.reduceBEq]))
  exact Qend.boo rfl rfl rfl
end Hm

/- Which values the program says are well shaped, and the law. Conditions: see each theorem. -/
namespace Hm
open Go (IntKind)
set_option maxHeartbeats 4000000
set_option maxRecDepth 4000
structure VfFns (T : Tab) : Prop where
  a1 : Fn T F.value_Formed value_Formed.fn
  a2 : Fn T F.value_allFormed value_allFormed.fn
  a3 : Fn T F.value_allFormed_S1 value_allFormed_S1.fn
  a4 : Fn T F.value_empty value_empty.fn
  a5 : Fn T F.value_rise value_rise.fn
  a6 : Fn T F.utf_Valid utf_Valid.fn
  a7 : Fn T F.tens_Formed tens_Formed.fn
  a8 : Fn T F.slices_ContainsFunc_LValue_Value slices_ContainsFunc_LValue_Value.fn
  a9 : Fn T F.slices_IndexFunc_LValue_Value slices_IndexFunc_LValue_Value.fn
section
variable {T : Tab}
theorem indexFuncV_ret (h : Fn T F.slices_IndexFunc_LValue_Value slices_IndexFunc_LValue_Value.fn) {p : V → Bool} {g : Nat} (hg : T.modes g = [.val]) (l : List V) (hl : l.length ≤ 1073741824)
    (ih : ∀ x ∈ l, Ret T g [.val x.av] (one (.bool (p x)))) : ∃ n : Int, (0 ≤ n ↔ l.any p = true) ∧ Ret T F.slices_IndexFunc_LValue_Value [.val (.lst 5 (l.map V.row)), .val (.clo g [] [])] (one (.int .i64 n)) := by
  have e1 : (l.map V.row).length = l.length := List.length_map ..
  refine Ret.ex1 (g := fun n => AV.int .i64 n) (R := fun n => (0 ≤ n ↔ l.any p = true)) h rfl ?_
  repeat' (first | refine WO.cons ?_ | refine WB.cons ?_ | refine WP.one ?_ | ((first | apply W1.add64 | apply W1.sub64); (iterate 3 exact rfl); omega; omega) | (apply W1.iadr; (iterate 3 exact rfl); omega; first | assumption | ((first | apply V.get_row | apply get_srow | apply get_ty | apply get_ar | apply get_ob | apply get_sprow | apply get_brow); assumption)) | (apply W1.idxS; (iterate 3 exact rfl); omega; omega) | (apply W1.slcS; (iterate 4 exact rfl); omega) | (apply W1.pickT; exact rfl; exact rfl; (first | with_reducible rfl | assumption | (simp only [bn]; first | omega | assumption | decide)); exact rfl) | (apply W1.pickF; exact rfl; exact rfl; (first | with_reducible rfl | assumption | (simp only [bn]; first | omega | assumption | decide)); exact rfl) | (apply W1.op; (iterate 3 exact rfl)) | (apply W1.no; exact rfl) | ((first | apply W1.knowT | apply W1.knowFn | apply WQ.knowT | apply WQ.knowFn | apply W.condT); exact rfl; (first | with_reducible rfl | assumption | (simp only [bn]; first | omega | assumption | decide))) | ((first | apply W1.knowTn | apply W1.knowF | apply WQ.knowTn | apply WQ.knowF | apply W.condF); exact rfl; (first | with_reducible rfl | assumption | (simp only [bn]; first | omega | assumption | decide))) | (apply WQ.go; exact rfl; exact rfl) | (apply WQ.no; exact rfl) | ((first | apply W1.bothT | apply W1.bothF | apply WQ.bothT | apply WQ.bothF | apply W.cond); exact rfl; all_goals intro hc; all_goals first | (cases hc; done) | ((try simp only [hc]); (try simp only [bm] at hc))) | refine WO.nil ?_ | refine WB.nil ?_ | refine WP.bag rfl ?_ | refine WP.nil ?_ | refine W.seq ?_ | refine W.reg ?_ | refine W.dreg ?_ | refine W.block ?_ | refine W.ret ?_ | refine W.skip ?_ | refine W.exit ?_ | (simp only [srow_len, List.length_map, Qit, Int.toNat_natCast, entry, Opd.eat, cellsOf, TV.ofCells, allAv, Qseq, Qblk, List.map_cons, List.map_nil, putD, kp, Nat.reduceEqDiff, ↓reduceIte, beq_self_eq_true, Nat.reduceBEq]))
  refine W.listP l (fun i (_ : Unit) s => s.put 8 (.av (.int .i64 (i : Int)))) (fun i _ => (l.take i).any p = false) () (by simp) rfl ?_ ?_
  · intro i x u hx hi hp
    have r := ih x (List.mem_of_getElem? hx)
    rw [V.av_eq] at r
    repeat' (first | refine WO.cons ?_ | refine WB.cons ?_ | refine WP.one ?_ | (first | (apply WQ.call (hm := hg); (iterate 4 exact rfl)) | (apply W1.callV (hm := hg); (iterate 5 exact rfl); exact (r); exact rfl)) | ((first | apply W1.add64 | apply W1.sub64); (iterate 3 exact rfl); omega; omega) | (apply W1.iadr; (iterate 3 exact rfl); omega; first | assumption | ((first | apply V.get_row | apply get_srow | apply get_ty | apply get_ar | apply get_ob | apply get_sprow | apply get_brow); assumption)) | (apply W1.idxS; (iterate 3 exact rfl); omega; omega) | (apply W1.slcS; (iterate 4 exact rfl); omega) | (apply W1.pickT; exact rfl; exact rfl; (first | with_reducible rfl | assumption | (simp only [bn]; first | omega | assumption | decide)); exact rfl) | (apply W1.pickF; exact rfl; exact rfl; (first | with_reducible rfl | assumption | (simp only [bn]; first | omega | assumption | decide)); exact rfl) | (apply W1.op; (iterate 3 exact rfl)) | (apply W1.no; exact rfl) | ((first | apply W1.knowT | apply W1.knowFn | apply WQ.knowT | apply WQ.knowFn | apply W.condT); exact rfl; (first | with_reducible rfl | assumption | (simp only [bn]; first | omega | assumption | decide))) | ((first | apply W1.knowTn | apply W1.knowF | apply WQ.knowTn | apply WQ.knowF | apply W.condF); exact rfl; (first | with_reducible rfl | assumption | (simp only [bn]; first | omega | assumption | decide))) | (apply WQ.go; exact rfl; exact rfl) | (apply WQ.no; exact rfl) | ((first | apply W1.bothT | apply W1.bothF | apply WQ.bothT | apply WQ.bothF | apply W.cond); exact rfl; all_goals intro hc; all_goals first | (cases hc; done) | ((try simp only [hc]); (try simp only [bm] at hc))) | refine WO.nil ?_ | refine WB.nil ?_ | refine WP.bag rfl ?_ | refine WP.nil ?_ | refine W.seq ?_ | refine W.reg ?_ | refine W.dreg ?_ | refine W.block ?_ | refine W.ret ?_ | refine W.skip ?_ | refine W.exit ?_ | (simp only [srow_len, List.length_map, Qit, Int.toNat_natCast, entry, Opd.eat, cellsOf, TV.ofCells, allAv, Qseq, Qblk, List.map_cons, List.map_nil, putD, kp, Nat.reduceEqDiff, ↓reduceIte, beq_self_eq_true, Nat.reduceBEq]))
    all_goals clear r
    · refine ⟨_, ?_, Qend.num rfl rfl rfl⟩
      have : l.any p = true := List.any_eq_true.2 ⟨x, List.mem_of_getElem? hx, by assumption⟩
      simp [this]
    · refine ⟨(), ?_, rfl⟩
      rw [List.take_add_one, hx, List.any_append, hp]; simp_all
  · intro u hp
    rw [List.take_length] at hp
    repeat' (first | refine WO.cons ?_ | refine WB.cons ?_ | refine WP.one ?_ | ((first | apply W1.add64 | apply W1.sub64); (iterate 3 exact rfl); omega; omega) | (apply W1.iadr; (iterate 3 exact rfl); omega; first | assumption | ((first | apply V.get_row | apply get_srow | apply get_ty | apply get_ar | apply get_ob | apply get_sprow | apply get_brow); assumption)) | (apply W1.idxS; (iterate 3 exact rfl); omega; omega) | (apply W1.slcS; (iterate 4 exact rfl); omega) | (apply W1.pickT; exact rfl; exact rfl; (first | with_reducible rfl | assumption | (simp only [bn]; first | omega | assumption | decide)); exact rfl) | (apply W1.pickF; exact rfl; exact rfl; (first | with_reducible rfl | assumption | (simp only [bn]; first | omega | assumption | decide)); exact rfl) | (apply W1.op; (iterate 3 exact rfl)) | (apply W1.no; exact rfl) | ((first | apply W1.knowT | apply W1.knowFn | apply WQ.knowT | apply WQ.knowFn | apply W.condT); exact rfl; (first | with_reducible rfl | assumption | (simp only [bn]; first | omega | assumption | decide))) | ((first | apply W1.knowTn | apply W1.knowF | apply WQ.knowTn | apply WQ.knowF | apply W.condF); exact rfl; (first | with_reducible rfl | assumption | (simp only [bn]; first | omega | assumption | decide))) | (apply WQ.go; exact rfl; exact rfl) | (apply WQ.no; exact rfl) | ((first | apply W1.bothT | apply W1.bothF | apply WQ.bothT | apply WQ.bothF | apply W.cond); exact rfl; all_goals intro hc; all_goals first | (cases hc; done) | ((try simp only [hc]); (try simp only [bm] at hc))) | refine WO.nil ?_ | refine WB.nil ?_ | refine WP.bag rfl ?_ | refine WP.nil ?_ | refine W.seq ?_ | refine W.reg ?_ | refine W.dreg ?_ | refine W.block ?_ | refine W.ret ?_ | refine W.skip ?_ | refine W.exit ?_ | (simp only [srow_len, List.length_map, Qit, Int.toNat_natCast, entry, Opd.eat, cellsOf, TV.ofCells, allAv, Qseq, Qblk, List.map_cons, List.map_nil, putD, kp, Nat.reduceEqDiff, ↓reduceIte, beq_self_eq_true, Nat.reduceBEq]))
    refine ⟨_, ?_, Qend.num rfl rfl rfl⟩
    rw [hp]; simp
theorem containsFuncV_ret (h : Fn T F.slices_ContainsFunc_LValue_Value slices_ContainsFunc_LValue_Value.fn) (hi : Fn T F.slices_IndexFunc_LValue_Value slices_IndexFunc_LValue_Value.fn) {p : V → Bool} {g : Nat} (hg : T.modes g = [.val]) (l : List V) (hl : l.length ≤ 1073741824)
    (ih : ∀ x ∈ l, Ret T g [.val x.av] (one (.bool (p x)))) : Ret T F.slices_ContainsFunc_LValue_Value [.val (.lst 5 (l.map V.row)), .val (.clo g [] [])] (one (.bool (l.any p))) := by
  obtain ⟨n, hn, r⟩ := indexFuncV_ret hi hg l hl ih
  refine Ret.mk h rfl ?_
  repeat' (first | refine WO.cons ?_ | refine WB.cons ?_ | refine WP.one ?_ | (first | (apply WQ.call (hm := hi.modes); (iterate 4 exact rfl)) | (apply W1.callV (hm := hi.modes); (iterate 5 exact rfl); exact (r); exact rfl)) | ((first | apply W1.add64 | apply W1.sub64); (iterate 3 exact rfl); omega; omega) | (apply W1.iadr; (iterate 3 exact rfl); omega; first | assumption | ((first | apply V.get_row | apply get_srow | apply get_ty | apply get_ar | apply get_ob | apply get_sprow | apply get_brow); assumption)) | (apply W1.idxS; (iterate 3 exact rfl); omega; omega) | (apply W1.slcS; (iterate 4 exact rfl); omega) | (apply W1.pickT; exact rfl; exact rfl; (first | with_reducible rfl | assumption | (simp only [bn]; first | omega | assumption | decide)); exact rfl) | (apply W1.pickF; exact rfl; exact rfl; (first | with_reducible rfl | assumption | (simp only [bn]; first | omega | assumption | decide)); exact rfl) | (apply W1.op; (iterate 3 exact rfl)) | (apply W1.no; exact rfl) | ((first | apply W1.knowT | apply W1.knowFn | apply WQ.knowT | apply WQ.knowFn | apply W.condT); exact rfl; (first | with_reducible rfl | assumption | (simp only [bn]; first | omega | assumption | decide))) | ((first | apply W1.knowTn | apply W1.knowF | apply WQ.knowTn | apply WQ.knowF | apply W.condF); exact rfl; (first | with_reducible rfl | assumption | (simp only [bn]; first | omega | assumption | decide))) | (apply WQ.go; exact rfl; exact rfl) | (apply WQ.no; exact rfl) | ((first | apply W1.bothT | apply W1.bothF | apply WQ.bothT | apply WQ.bothF | apply W.cond); exact rfl; all_goals intro hc; all_goals first | (cases hc; done) | ((try simp only [hc]); (try simp only [bm] at hc))) | refine WO.nil ?_ | refine WB.nil ?_ | refine WP.bag rfl ?_ | refine WP.nil ?_ | refine W.seq ?_ | refine W.reg ?_ | refine W.dreg ?_ | refine W.block ?_ | refine W.ret ?_ | refine W.skip ?_ | refine W.exit ?_ | (simp only [srow_len, List.length_map, Qit, Int.toNat_natCast, entry, Opd.eat, cellsOf, TV.ofCells, allAv, Qseq, Qblk, List.map_cons, List.map_nil, putD, kp, Nat.reduceEqDiff, ↓reduceIte, beq_self_eq_true, Nat.reduceBEq]))
  refine Qend.boo rfl rfl ?_
  rw [Bool.eq_iff_iff, ← hn]; simp
theorem vrise_ret (h : Fn T F.value_rise value_rise.fn) (hu : Fn T F.utf_Valid utf_Valid.fn) (hv : ValidOk T) (l : List Str) (hb : sbk l ≤ 1073741824) : Ret T F.value_rise [.val (.lst 1 (srow l))] (one (.bool (rise l))) := by
  refine Ret.mk h rfl ?_
  have hl := len_sbk l
  have e1 := srow_len l
  repeat' (first | refine WO.cons ?_ | refine WB.cons ?_ | refine WP.one ?_ | ((first | apply W1.add64 | apply W1.sub64); (iterate 3 exact rfl); omega; omega) | (apply W1.iadr; (iterate 3 exact rfl); omega; first | assumption | ((first | apply V.get_row | apply get_srow | apply get_ty | apply get_ar | apply get_ob | apply get_sprow | apply get_brow); assumption)) | (apply W1.idxS; (iterate 3 exact rfl); omega; omega) | (apply W1.slcS; (iterate 4 exact rfl); omega) | (apply W1.pickT; exact rfl; exact rfl; (first | with_reducible rfl | assumption | (simp only [bn]; first | omega | assumption | decide)); exact rfl) | (apply W1.pickF; exact rfl; exact rfl; (first | with_reducible rfl | assumption | (simp only [bn]; first | omega | assumption | decide)); exact rfl) | (apply W1.op; (iterate 3 exact rfl)) | (apply W1.no; exact rfl) | ((first | apply W1.knowT | apply W1.knowFn | apply WQ.knowT | apply WQ.knowFn | apply W.condT); exact rfl; (first | with_reducible rfl | assumption | (simp only [bn]; first | omega | assumption | decide))) | ((first | apply W1.knowTn | apply W1.knowF | apply WQ.knowTn | apply WQ.knowF | apply W.condF); exact rfl; (first | with_reducible rfl | assumption | (simp only [bn]; first | omega | assumption | decide))) | (apply WQ.go; exact rfl; exact rfl) | (apply WQ.no; exact rfl) | ((first | apply W1.bothT | apply W1.bothF | apply WQ.bothT | apply WQ.bothF | apply W.cond); exact rfl; all_goals intro hc; all_goals first | (cases hc; done) | ((try simp only [hc]); (try simp only [bm] at hc))) | refine WO.nil ?_ | refine WB.nil ?_ | refine WP.bag rfl ?_ | refine WP.nil ?_ | refine W.seq ?_ | refine W.reg ?_ | refine W.dreg ?_ | refine W.block ?_ | refine W.ret ?_ | refine W.skip ?_ | refine W.exit ?_ | (simp only [srow_len, List.length_map, Qit, Int.toNat_natCast, entry, Opd.eat, cellsOf, TV.ofCells, allAv, Qseq, Qblk, List.map_cons, List.map_nil, putD, kp, Nat.reduceEqDiff, ↓reduceIte, beq_self_eq_true, Nat.reduceBEq]))
  refine W.listP l (fun i (_ : Unit) s => s.put 7 (.av (.int .i64 (i : Int)))) (fun i _ => ∀ j < i, riseAt l j = true) () (by simp) rfl ?_ ?_
  · intro i x u hx hi hp
    have hsx := sbk_mem (List.mem_of_getElem? hx)
    have hret := hv x (by omega)
    have hgx : l.getD i [] = x := by simp [List.getD, hx]
    by_cases h0 : i = 0
    · subst h0
      repeat' (first | refine WO.cons ?_ | refine WB.cons ?_ | refine WP.one ?_ | (first | (apply WQ.call (hm := hu.modes); (iterate 4 exact rfl)) | (apply W1.callV (hm := hu.modes); (iterate 5 exact rfl); exact (hret); exact rfl)) | ((first | apply W1.add64 | apply W1.sub64); (iterate 3 exact rfl); omega; omega) | (apply W1.iadr; (iterate 3 exact rfl); omega; first | assumption | ((first | apply V.get_row | apply get_srow | apply get_ty | apply get_ar | apply get_ob | apply get_sprow | apply get_brow); assumption)) | (apply W1.idxS; (iterate 3 exact rfl); omega; omega) | (apply W1.slcS; (iterate 4 exact rfl); omega) | (apply W1.pickT; exact rfl; exact rfl; (first | with_reducible rfl | assumption | (simp only [bn]; first | omega | assumption | decide)); exact rfl) | (apply W1.pickF; exact rfl; exact rfl; (first | with_reducible rfl | assumption | (simp only [bn]; first | omega | assumption | decide)); exact rfl) | (apply W1.op; (iterate 3 exact rfl)) | (apply W1.no; exact rfl) | ((first | apply W1.knowT | apply W1.knowFn | apply WQ.knowT | apply WQ.knowFn | apply W.condT); exact rfl; (first | with_reducible rfl | assumption | (simp only [bn]; first | omega | assumption | decide))) | ((first | apply W1.knowTn | apply W1.knowF | apply WQ.knowTn | apply WQ.knowF | apply W.condF); exact rfl; (first | with_reducible rfl | assumption | (simp only [bn]; first | omega | assumption | decide))) | (apply WQ.go; exact rfl; exact rfl) | (apply WQ.no; exact rfl) | ((first | apply W1.bothT | apply W1.bothF | apply WQ.bothT | apply WQ.bothF | apply W.cond); exact rfl; all_goals intro hc; all_goals first | (cases hc; done) | ((try simp only [hc]); (try simp only [bm] at hc))) | refine WO.nil ?_ | refine WB.nil ?_ | refine WP.bag rfl ?_ | refine WP.nil ?_ | refine W.seq ?_ | refine W.reg ?_ | refine W.dreg ?_ | refine W.block ?_ | refine W.ret ?_ | refine W.skip ?_ | refine W.exit ?_ | (simp only [srow_len, List.length_map, Qit, Int.toNat_natCast, entry, Opd.eat, cellsOf, TV.ofCells, allAv, Qseq, Qblk, List.map_cons, List.map_nil, putD, kp, Nat.reduceEqDiff, ↓reduceIte, beq_self_eq_true, Nat.reduceBEq]))
      all_goals clear hret hv
      all_goals first
        | (refine Qend.boo rfl rfl ?_; rw [rise_false hi (by simp_all [riseAt])]; done)
        | (refine ⟨(), fun j hj => ?_, rfl⟩; obtain rfl : j = 0 := by omega
           simp_all [riseAt]; done)
        | (exfalso; omega)
    · obtain ⟨y, hy⟩ : ∃ y, l[i - 1]? = some y := ⟨l[i - 1]'(by omega), List.getElem?_eq_getElem (by omega)⟩
      have hgy : l.getD (i - 1) [] = y := by simp [List.getD, hy]
      have hry : (srow l)[((i : Int) - 1).toNat]? = some [.str y] := by
        have : ((i : Int) - 1).toNat = i - 1 := by omega
        rw [this]; exact get_srow hy
      repeat' (first | refine WO.cons ?_ | refine WB.cons ?_ | refine WP.one ?_ | (first | (apply WQ.call (hm := hu.modes); (iterate 4 exact rfl)) | (apply W1.callV (hm := hu.modes); (iterate 5 exact rfl); exact (hret); exact rfl)) | ((first | apply W1.add64 | apply W1.sub64); (iterate 3 exact rfl); omega; omega) | (apply W1.iadr; (iterate 3 exact rfl); omega; first | assumption | ((first | apply V.get_row | apply get_srow | apply get_ty | apply get_ar | apply get_ob | apply get_sprow | apply get_brow); assumption)) | (apply W1.idxS; (iterate 3 exact rfl); omega; omega) | (apply W1.slcS; (iterate 4 exact rfl); omega) | (apply W1.pickT; exact rfl; exact rfl; (first | with_reducible rfl | assumption | (simp only [bn]; first | omega | assumption | decide)); exact rfl) | (apply W1.pickF; exact rfl; exact rfl; (first | with_reducible rfl | assumption | (simp only [bn]; first | omega | assumption | decide)); exact rfl) | (apply W1.op; (iterate 3 exact rfl)) | (apply W1.no; exact rfl) | ((first | apply W1.knowT | apply W1.knowFn | apply WQ.knowT | apply WQ.knowFn | apply W.condT); exact rfl; (first | with_reducible rfl | assumption | (simp only [bn]; first | omega | assumption | decide))) | ((first | apply W1.knowTn | apply W1.knowF | apply WQ.knowTn | apply WQ.knowF | apply W.condF); exact rfl; (first | with_reducible rfl | assumption | (simp only [bn]; first | omega | assumption | decide))) | (apply WQ.go; exact rfl; exact rfl) | (apply WQ.no; exact rfl) | ((first | apply W1.bothT | apply W1.bothF | apply WQ.bothT | apply WQ.bothF | apply W.cond); exact rfl; all_goals intro hc; all_goals first | (cases hc; done) | ((try simp only [hc]); (try simp only [bm] at hc))) | refine WO.nil ?_ | refine WB.nil ?_ | refine WP.bag rfl ?_ | refine WP.nil ?_ | refine W.seq ?_ | refine W.reg ?_ | refine W.dreg ?_ | refine W.block ?_ | refine W.ret ?_ | refine W.skip ?_ | refine W.exit ?_ | (simp only [srow_len, List.length_map, Qit, Int.toNat_natCast, entry, Opd.eat, cellsOf, TV.ofCells, allAv, Qseq, Qblk, List.map_cons, List.map_nil, putD, kp, Nat.reduceEqDiff, ↓reduceIte, beq_self_eq_true, Nat.reduceBEq]))
      all_goals clear hret hv
      all_goals first
        | (refine Qend.boo rfl rfl ?_; rw [rise_false hi (by simp_all [riseAt])]; done)
        | (refine ⟨(), fun j hj => ?_, rfl⟩
           by_cases hji : j < i
           · exact hp j hji
           · obtain rfl : j = i := by omega
             simp_all [riseAt])
        | (exfalso; omega)
  · intro u hp
    repeat' (first | refine WO.cons ?_ | refine WB.cons ?_ | refine WP.one ?_ | ((first | apply W1.add64 | apply W1.sub64); (iterate 3 exact rfl); omega; omega) | (apply W1.iadr; (iterate 3 exact rfl); omega; first | assumption | ((first | apply V.get_row | apply get_srow | apply get_ty | apply get_ar | apply get_ob | apply get_sprow | apply get_brow); assumption)) | (apply W1.idxS; (iterate 3 exact rfl); omega; omega) | (apply W1.slcS; (iterate 4 exact rfl); omega) | (apply W1.pickT; exact rfl; exact rfl; (first | with_reducible rfl | assumption | (simp only [bn]; first | omega | assumption | decide)); exact rfl) | (apply W1.pickF; exact rfl; exact rfl; (first | with_reducible rfl | assumption | (simp only [bn]; first | omega | assumption | decide)); exact rfl) | (apply W1.op; (iterate 3 exact rfl)) | (apply W1.no; exact rfl) | ((first | apply W1.knowT | apply W1.knowFn | apply WQ.knowT | apply WQ.knowFn | apply W.condT); exact rfl; (first | with_reducible rfl | assumption | (simp only [bn]; first | omega | assumption | decide))) | ((first | apply W1.knowTn | apply W1.knowF | apply WQ.knowTn | apply WQ.knowF | apply W.condF); exact rfl; (first | with_reducible rfl | assumption | (simp only [bn]; first | omega | assumption | decide))) | (apply WQ.go; exact rfl; exact rfl) | (apply WQ.no; exact rfl) | ((first | apply W1.bothT | apply W1.bothF | apply WQ.bothT | apply WQ.bothF | apply W.cond); exact rfl; all_goals intro hc; all_goals first | (cases hc; done) | ((try simp only [hc]); (try simp only [bm] at hc))) | refine WO.nil ?_ | refine WB.nil ?_ | refine WP.bag rfl ?_ | refine WP.nil ?_ | refine W.seq ?_ | refine W.reg ?_ | refine W.dreg ?_ | refine W.block ?_ | refine W.ret ?_ | refine W.skip ?_ | refine W.exit ?_ | (simp only [srow_len, List.length_map, Qit, Int.toNat_natCast, entry, Opd.eat, cellsOf, TV.ofCells, allAv, Qseq, Qblk, List.map_cons, List.map_nil, putD, kp, Nat.reduceEqDiff, ↓reduceIte, beq_self_eq_true, Nat.reduceBEq]))
    refine Qend.boo rfl rfl ?_
    rw [rise_true hp]
theorem vempty_ret (h : Fn T F.value_empty value_empty.fn) (v : V) (a b c d : Bool) : Ret T F.value_empty [.val v.av, .val (.bool a), .val (.bool b), .val (.bool c), .val (.bool d)]
    (one (.bool ((a || v.num == []) && (b || v.text == []) && (c || decide (v.items.length = 0)) && (d || decide (v.keys.length = 0))))) := by
  have e1 := srow_len v.keys
  have e2 : (v.items.map V.row).length = v.items.length := List.length_map ..
  have z : ∀ n : Nat, ((n : Int) == 0) = decide (n = 0) := fun n => by rw [Bool.eq_iff_iff]; simp
  refine Ret.mk h rfl ?_
  rw [V.av_eq]
  repeat' (first | refine WO.cons ?_ | refine WB.cons ?_ | refine WP.one ?_ | ((first | apply W1.add64 | apply W1.sub64); (iterate 3 exact rfl); omega; omega) | (apply W1.iadr; (iterate 3 exact rfl); omega; first | assumption | ((first | apply V.get_row | apply get_srow | apply get_ty | apply get_ar | apply get_ob | apply get_sprow | apply get_brow); assumption)) | (apply W1.idxS; (iterate 3 exact rfl); omega; omega) | (apply W1.slcS; (iterate 4 exact rfl); omega) | (apply W1.pickT; exact rfl; exact rfl; (first | with_reducible rfl | assumption | (simp only [bn]; first | omega | assumption | decide)); exact rfl) | (apply W1.pickF; exact rfl; exact rfl; (first | with_reducible rfl | assumption | (simp only [bn]; first | omega | assumption | decide)); exact rfl) | (apply W1.op; (iterate 3 exact rfl)) | (apply W1.no; exact rfl) | ((first | apply W1.knowT | apply W1.knowFn | apply WQ.knowT | apply WQ.knowFn | apply W.condT); exact rfl; (first | with_reducible rfl | assumption | (simp only [bn]; first | omega | assumption | decide))) | ((first | apply W1.knowTn | apply W1.knowF | apply WQ.knowTn | apply WQ.knowF | apply W.condF); exact rfl; (first | with_reducible rfl | assumption | (simp only [bn]; first | omega | assumption | decide))) | (apply WQ.go; exact rfl; exact rfl) | (apply WQ.no; exact rfl) | ((first | apply W1.bothT | apply W1.bothF | apply WQ.bothT | apply WQ.bothF | apply W.cond); exact rfl; all_goals intro hc; all_goals first | (cases hc; done) | ((try simp only [hc]); (try simp only [bm] at hc))) | refine WO.nil ?_ | refine WB.nil ?_ | refine WP.bag rfl ?_ | refine WP.nil ?_ | refine W.seq ?_ | refine W.reg ?_ | refine W.dreg ?_ | refine W.block ?_ | refine W.ret ?_ | refine W.skip ?_ | refine W.exit ?_ | (simp only [srow_len, List.length_map, Qit, Int.toNat_natCast, entry, Opd.eat, cellsOf, TV.ofCells, allAv, Qseq, Qblk, List.map_cons, List.map_nil, putD, kp, Nat.reduceEqDiff, ↓reduceIte, beq_self_eq_true, Nat.reduceBEq]))
  all_goals refine Qend.boo rfl rfl ?_
  all_goals clear h
  all_goals first | (simp_all; done) | (rw [Bool.eq_iff_iff]; simp_all; done) | (simp_all [z]; done) | (rw [Bool.eq_iff_iff]; simp_all [z]; done)
theorem vformed_eq (k : Int) (n t : Str) (is : List V) (ks : List Str) : formed (.mk k n t is ks) = (decide (0 ≤ k) && decide (k ≤ 6) && (if k = 3 then number n else decide (n = [])) && (if k = 4 then utf t else decide (t = [])) && (decide (5 ≤ k) || decide (is.length = 0)) && (decide (6 ≤ k) || decide (ks.length = 0)) &&
    (decide (k ≠ 6) || (decide (is.length = ks.length) && rise ks)) && is.all formed) := by
  have q : ∀ a b : Nat, (a == b) = decide (b = a) := fun a b => by rw [Bool.eq_iff_iff, beq_iff_eq, decide_eq_true_eq]; exact eq_comm
  simp only [formed, formedAll_eq]
  rw [Bool.eq_iff_iff]
  simp only [Bool.and_eq_true, Bool.or_eq_true, Bool.not_eq_true', Bool.or_eq_false_iff, Bool.and_eq_false_iff, decide_eq_true_eq, decide_eq_false_iff_not, q]
  grind
theorem valueFormed_ret (f : VfFns T) (hv : ValidOk T) : ∀ (v : V), v.bk ≤ 1073741824 → Ret T F.value_Formed [.val v.av] (one (.bool (formed v))) := by
  intro v
  induction v using V.ind with
  | h v ih =>
  intro hb
  have hbk := V.bk_eq v
  have hk := len_sbk v.keys
  have hl := V.len_bks v.items
  have e1 := srow_len v.keys
  have e2 : (v.items.map V.row).length = v.items.length := List.length_map ..
  have z : ∀ n : Nat, ((n : Int) == 0) = decide (n = 0) := fun n => by rw [Bool.eq_iff_iff]; simp
  have r1 := tensFormed_ret f.a7 v.num (by omega)
  have r2 := hv v.text (by omega)
  have r3 := vrise_ret f.a5 f.a6 hv v.keys (by omega)
  have r0 := vempty_ret f.a4 v
  have rc : ∀ x ∈ v.items, Ret T F.value_allFormed_S1 [.val x.av] (one (.bool (!formed x))) := fun x hx => by
    have r := ih x hx (by have := V.bk_item hx; omega)
    refine Ret.mk f.a3 rfl ?_
    rw [V.av_eq] at *
    repeat' (first | refine WO.cons ?_ | refine WB.cons ?_ | refine WP.one ?_ | (first | (apply WQ.call (hm := f.a1.modes); (iterate 4 exact rfl)) | (apply W1.callV (hm := f.a1.modes); (iterate 5 exact rfl); exact (r); exact rfl)) | ((first | apply W1.add64 | apply W1.sub64); (iterate 3 exact rfl); omega; omega) | (apply W1.iadr; (iterate 3 exact rfl); omega; first | assumption | ((first | apply V.get_row | apply get_srow | apply get_ty | apply get_ar | apply get_ob | apply get_sprow | apply get_brow); assumption)) | (apply W1.idxS; (iterate 3 exact rfl); omega; omega) | (apply W1.slcS; (iterate 4 exact rfl); omega) | (apply W1.pickT; exact rfl; exact rfl; (first | with_reducible rfl | assumption | (simp only [bn]; first | omega | assumption | decide)); exact rfl) | (apply W1.pickF; exact rfl; exact rfl; (first | with_reducible rfl | assumption | (simp only [bn]; first | omega | assumption | decide)); exact rfl) | (apply W1.op; (iterate 3 exact rfl)) | (apply W1.no; exact rfl) | ((first | apply W1.knowT | apply W1.knowFn | apply WQ.knowT | apply WQ.knowFn | apply W.condT); exact rfl; (first | with_reducible rfl | assumption | (simp only [bn]; first | omega | assumption | decide))) | ((first | apply W1.knowTn | apply W1.knowF | apply WQ.knowTn | apply WQ.knowF | apply W.condF); exact rfl; (first | with_reducible rfl | assumption | (simp only [bn]; first | omega | assumption | decide))) | (apply WQ.go; exact rfl; exact rfl) | (apply WQ.no; exact rfl) | ((first | apply W1.bothT | apply W1.bothF | apply WQ.bothT | apply WQ.bothF | apply W.cond); exact rfl; all_goals intro hc; all_goals first | (cases hc; done) | ((try simp only [hc]); (try simp only [bm] at hc))) | refine WO.nil ?_ | refine WB.nil ?_ | refine WP.bag rfl ?_ | refine WP.nil ?_ | refine W.seq ?_ | refine W.reg ?_ | refine W.dreg ?_ | refine W.block ?_ | refine W.ret ?_ | refine W.skip ?_ | refine W.exit ?_ | (simp only [srow_len, List.length_map, Qit, Int.toNat_natCast, entry, Opd.eat, cellsOf, TV.ofCells, allAv, Qseq, Qblk, List.map_cons, List.map_nil, putD, kp, Nat.reduceEqDiff, ↓reduceIte, beq_self_eq_true, Nat.reduceBEq]))
    exact Qend.boo rfl rfl rfl
  have r5 := containsFuncV_ret f.a8 f.a9 (p := fun x => !formed x) f.a3.modes v.items (by omega) rc
  have r4 : Ret T F.value_allFormed [.val (.lst 5 (v.items.map V.row))] (one (.bool (v.items.all formed))) := by
    refine Ret.mk f.a2 rfl ?_
    repeat' (first | refine WO.cons ?_ | refine WB.cons ?_ | refine WP.one ?_ | (first | (apply WQ.call (hm := f.a8.modes); (iterate 4 exact rfl)) | (apply W1.callV (hm := f.a8.modes); (iterate 5 exact rfl); exact (r5); exact rfl)) | ((first | apply W1.add64 | apply W1.sub64); (iterate 3 exact rfl); omega; omega) | (apply W1.iadr; (iterate 3 exact rfl); omega; first | assumption | ((first | apply V.get_row | apply get_srow | apply get_ty | apply get_ar | apply get_ob | apply get_sprow | apply get_brow); assumption)) | (apply W1.idxS; (iterate 3 exact rfl); omega; omega) | (apply W1.slcS; (iterate 4 exact rfl); omega) | (apply W1.pickT; exact rfl; exact rfl; (first | with_reducible rfl | assumption | (simp only [bn]; first | omega | assumption | decide)); exact rfl) | (apply W1.pickF; exact rfl; exact rfl; (first | with_reducible rfl | assumption | (simp only [bn]; first | omega | assumption | decide)); exact rfl) | (apply W1.op; (iterate 3 exact rfl)) | (apply W1.no; exact rfl) | ((first | apply W1.knowT | apply W1.knowFn | apply WQ.knowT | apply WQ.knowFn | apply W.condT); exact rfl; (first | with_reducible rfl | assumption | (simp only [bn]; first | omega | assumption | decide))) | ((first | apply W1.knowTn | apply W1.knowF | apply WQ.knowTn | apply WQ.knowF | apply W.condF); exact rfl; (first | with_reducible rfl | assumption | (simp only [bn]; first | omega | assumption | decide))) | (apply WQ.go; exact rfl; exact rfl) | (apply WQ.no; exact rfl) | ((first | apply W1.bothT | apply W1.bothF | apply WQ.bothT | apply WQ.bothF | apply W.cond); exact rfl; all_goals intro hc; all_goals first | (cases hc; done) | ((try simp only [hc]); (try simp only [bm] at hc))) | refine WO.nil ?_ | refine WB.nil ?_ | refine WP.bag rfl ?_ | refine WP.nil ?_ | refine W.seq ?_ | refine W.reg ?_ | refine W.dreg ?_ | refine W.block ?_ | refine W.ret ?_ | refine W.skip ?_ | refine W.exit ?_ | (simp only [srow_len, List.length_map, Qit, Int.toNat_natCast, entry, Opd.eat, cellsOf, TV.ofCells, allAv, Qseq, Qblk, List.map_cons, List.map_nil, putD, kp, Nat.reduceEqDiff, ↓reduceIte, beq_self_eq_true, Nat.reduceBEq]))
    refine Qend.boo rfl rfl ?_
    rw [List.all_eq_not_any_not]
  clear r5 rc ih hv
  refine Ret.mk f.a1 rfl ?_
  obtain ⟨k, n, t, is, ks⟩ := v
  rw [vformed_eq]
  rw [V.av_eq] at *
  simp only [V.kind, V.num, V.text, V.items, V.keys] at *
  repeat' (first | refine WO.cons ?_ | refine WB.cons ?_ | refine WP.one ?_ | (first | (apply WQ.call (hm := f.a4.modes); (iterate 4 exact rfl)) | (apply W1.callV (hm := f.a4.modes); (iterate 5 exact rfl); exact (r0 _ _ _ _); exact rfl)) | (first | (apply WQ.call (hm := f.a7.modes); (iterate 4 exact rfl)) | (apply W1.callV (hm := f.a7.modes); (iterate 5 exact rfl); exact (r1); exact rfl)) | (first | (apply WQ.call (hm := f.a6.modes); (iterate 4 exact rfl)) | (apply W1.callV (hm := f.a6.modes); (iterate 5 exact rfl); exact (r2); exact rfl)) | (first | (apply WQ.call (hm := f.a5.modes); (iterate 4 exact rfl)) | (apply W1.callV (hm := f.a5.modes); (iterate 5 exact rfl); exact (r3); exact rfl)) | (first | (apply WQ.call (hm := f.a2.modes); (iterate 4 exact rfl)) | (apply W1.callV (hm := f.a2.modes); (iterate 5 exact rfl); exact (r4); exact rfl)) | ((first | apply W1.add64 | apply W1.sub64); (iterate 3 exact rfl); omega; omega) | (apply W1.iadr; (iterate 3 exact rfl); omega; first | assumption | ((first | apply V.get_row | apply get_srow | apply get_ty | apply get_ar | apply get_ob | apply get_sprow | apply get_brow); assumption)) | (apply W1.idxS; (iterate 3 exact rfl); omega; omega) | (apply W1.slcS; (iterate 4 exact rfl); omega) | (apply W1.pickT; exact rfl; exact rfl; (first | with_reducible rfl | assumption | (simp only [bn]; first | omega | assumption | decide)); exact rfl) | (apply W1.pickF; exact rfl; exact rfl; (first | with_reducible rfl | assumption | (simp only [bn]; first | omega | assumption | decide)); exact rfl) | (apply W1.op; (iterate 3 exact rfl)) | (apply W1.no; exact rfl) | ((first | apply W1.knowT | apply W1.knowFn | apply WQ.knowT | apply WQ.knowFn | apply W.condT); exact rfl; (first | with_reducible rfl | assumption | (simp only [bn]; first | omega | assumption | decide))) | ((first | apply W1.knowTn | apply W1.knowF | apply WQ.knowTn | apply WQ.knowF | apply W.condF); exact rfl; (first | with_reducible rfl | assumption | (simp only [bn]; first | omega | assumption | decide))) | (apply WQ.go; exact rfl; exact rfl) | (apply WQ.no; exact rfl) | ((first | apply W1.bothT | apply W1.bothF | apply WQ.bothT | apply WQ.bothF | apply W.cond); exact rfl; all_goals intro hc; all_goals first | (cases hc; done) | ((try simp only [hc]); (try simp only [bm] at hc))) | refine WO.nil ?_ | refine WB.nil ?_ | refine WP.bag rfl ?_ | refine WP.nil ?_ | refine W.seq ?_ | refine W.reg ?_ | refine W.dreg ?_ | refine W.block ?_ | refine W.ret ?_ | refine W.skip ?_ | refine W.exit ?_ | (simp only [srow_len, List.length_map, Qit, Int.toNat_natCast, entry, Opd.eat, cellsOf, TV.ofCells, allAv, Qseq, Qblk, List.map_cons, List.map_nil, putD, kp, Nat.reduceEqDiff, ↓reduceIte, beq_self_eq_true, Nat.reduceBEq]))
  all_goals refine Qend.boo rfl rfl ?_
  all_goals clear r0 r1 r2 r3 r4 hb hbk hk hl e1 e2
  all_goals (try simp only [List.length_map, srow_len, Int.natCast_inj] at *)
  all_goals first
    | (simp_all; done)
    | (simp_all; omega)
    | (rw [Bool.eq_iff_iff]; simp_all; done)
    | (rw [Bool.eq_iff_iff]; simp_all; omega)
    | trace_state
end
end Hm

/- The law which values are well shaped. Conditions: see each theorem. -/
namespace Hm
open Go (IntKind)
set_option maxHeartbeats 4000000
set_option maxRecDepth 4000
section
variable {T : Tab}
theorem ValueFormed_ret (h : Fn T F.hallmarklaw03_ValueFormed hallmarklaw03_ValueFormed.fn) (hl : Fn T F.hallmarklaw03_lives hallmarklaw03_lives.fn) (rl : Ret T F.hallmarklaw03_lives [] (one (.bool true))) (f : VfFns T) (hv : ValidOk T)
    (a8 : Fn T F.hallmarkref03_Formed hallmarkref03_Formed.fn) (a9 : Fn T F.hallmarkref03_All hallmarkref03_All.fn) (b1 : Fn T F.hallmarkref03_Rise hallmarkref03_Rise.fn) (b2 : Fn T F.hallmarkref03_UTF hallmarkref03_UTF.fn) (b3 : Fn T F.hallmarkref03_width hallmarkref03_width.fn)
    (b4 : Fn T F.hallmarkref03_trail hallmarkref03_trail.fn) (b5 : Fn T F.hallmarkref03_Number hallmarkref03_Number.fn) (b6 : Fn T F.hallmarklaw03_small hallmarklaw03_small.fn) (b7 : Fn T F.hallmarkref03_Parts hallmarkref03_Parts.fn)
    (v : V) (hb : v.bk ≤ 1073741824) : Ret T F.hallmarklaw03_ValueFormed [.val v.av] (one (.bool true)) := by
  obtain ⟨sv, -, r1⟩ := small03_ret b6 b7 v hb
  have r2 := refFormed_ret a8 a9 b5 b1 b2 b3 b4 v hb
  have r3 := valueFormed_ret f hv v hb
  refine Ret.mk h rfl ?_
  generalize formed v = fv at *
  rw [V.av_eq] at *
  repeat' (first | refine WO.cons ?_ | refine WB.cons ?_ | refine WP.one ?_ | (first | (apply WQ.call (hm := hl.modes); (iterate 4 exact rfl)) | (apply W1.callV (hm := hl.modes); (iterate 5 exact rfl); exact (rl); exact rfl)) | (first | (apply WQ.call (hm := b6.modes); (iterate 4 exact rfl)) | (apply W1.callV (hm := b6.modes); (iterate 5 exact rfl); exact (r1); exact rfl)) | (first | (apply WQ.call (hm := a8.modes); (iterate 4 exact rfl)) | (apply W1.callV (hm := a8.modes); (iterate 5 exact rfl); exact (r2); exact rfl)) | (first | (apply WQ.call (hm := f.a1.modes); (iterate 4 exact rfl)) | (apply W1.callV (hm := f.a1.modes); (iterate 5 exact rfl); exact (r3); exact rfl)) | ((first | apply W1.add64 | apply W1.sub64); (iterate 3 exact rfl); omega; omega) | (apply W1.iadr; (iterate 3 exact rfl); omega; first | assumption | ((first | apply V.get_row | apply get_srow | apply get_ty | apply get_ar | apply get_ob | apply get_sprow | apply get_brow); assumption)) | (apply W1.idxS; (iterate 3 exact rfl); omega; omega) | (apply W1.slcS; (iterate 4 exact rfl); omega) | (apply W1.pickT; exact rfl; exact rfl; (first | with_reducible rfl | assumption | (simp only [bn]; first | omega | assumption | decide)); exact rfl) | (apply W1.pickF; exact rfl; exact rfl; (first | with_reducible rfl | assumption | (simp only [bn]; first | omega | assumption | decide)); exact rfl) | (apply W1.op; (iterate 3 exact rfl)) | (apply W1.no; exact rfl) | ((first | apply W1.knowT | apply W1.knowFn | apply WQ.knowT | apply WQ.knowFn | apply W.condT); exact rfl; (first | with_reducible rfl | assumption | (simp only [bn]; first | omega | assumption | decide))) | ((first | apply W1.knowTn | apply W1.knowF | apply WQ.knowTn | apply WQ.knowF | apply W.condF); exact rfl; (first | with_reducible rfl | assumption | (simp only [bn]; first | omega | assumption | decide))) | (apply WQ.go; exact rfl; exact rfl) | (apply WQ.no; exact rfl) | ((first | apply W1.bothT | apply W1.bothF | apply WQ.bothT | apply WQ.bothF | apply W.cond); exact rfl; all_goals intro hc; all_goals first | (cases hc; done) | ((try simp only [hc]); (try simp only [bm] at hc))) | refine WO.nil ?_ | refine WB.nil ?_ | refine WP.bag rfl ?_ | refine WP.nil ?_ | refine W.seq ?_ | refine W.reg ?_ | refine W.dreg ?_ | refine W.block ?_ | refine W.ret ?_ | refine W.skip ?_ | refine W.exit ?_ | (simp only [srow_len, List.length_map, Qit, Int.toNat_natCast, entry, Opd.eat, cellsOf, TV.ofCells, allAv, Qseq, Qblk, List.map_cons, List.map_nil, putD, kp, Nat.reduceEqDiff, ↓reduceIte, beq_self_eq_true, Nat.reduceBEq]))
  all_goals clear r1 r2 r3
  all_goals first | refine Qend.boo rfl rfl ?_ | skip
  all_goals first | rfl | (simp_all; done) | (exfalso; simp_all; done) | trace_state
end
end Hm
