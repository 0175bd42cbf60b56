/- What the law answers on the abstract machine. Conditions: see each theorem. -/
import Derived.Test.YtfbhbfganoanfaaDoorVFlds1
set_option linter.unusedVariables false
set_option linter.unusedSimpArgs false
/- Which texts are UTF-8: classes. Conditions: see each theorem. -/
namespace Hm
open Go (IntKind)
set_option maxHeartbeats 40000000
set_option maxRecDepth 4000
theorem vs_c3 {T : Tab} {s t : Str} (hp1 : utf t = utf s) (hp2 : t.length ≤ 1073741824) (hne : t ≠ []) (hasc : ¬ (bAt t 0).toNat < 128) (hf : firZ[(bAt t 0).toNat]? = some 35) (c1 : (bAt t 0).toNat = 237) : VStep T s t := by
  unfold VStep
  have hlen : 0 < t.length := List.length_pos_iff.2 hne
  have hc256 : (bAt t 0).toNat < 256 := (bAt t 0).toNat_lt
  have z0 : Int.toNat 0 = 0 := rfl
  have z1 : Int.toNat 1 = 1 := rfl
  have z2 : Int.toNat 2 = 2 := rfl
  have z3 : Int.toNat 3 = 3 := rfl
  have z4 : Int.toNat 4 = 4 := rfl
  have z8 : Int.toNat 8 = 8 := rfl
  have z16 : Int.toNat 16 = 16 := rfl
  have z24 : Int.toNat 24 = 24 := rfl
  have z32 : Int.toNat 32 = 32 := rfl
  have hasc' : ¬ ((bAt t 0).toNat : Int) < 128 := by omega
  have hwt := utf_cons hne
  have d2 : (t.drop 2).length = t.length - 2 := List.length_drop
  have d3 : (t.drop 3).length = t.length - 3 := List.length_drop
  have d4 : (t.drop 4).length = t.length - 4 := List.length_drop
  obtain ⟨rest, hr⟩ := fir_drop hf
  have hr' : (zavs firZ).drop (Int.toNat ((bAt t 0).toNat : Int) * 1) = .int .u8 35 :: rest := by rw [Int.toNat_natCast, Nat.mul_one]; exact hr
  have hwd := wd_three (t := t) 128 159 (by omega) (by omega) (by rw [if_neg (by omega)]) (by rw [if_pos (by omega)])
  repeat' (first | refine WO.cons ?_ | refine WB.cons ?_ | refine WP.one ?_ | ((simp only [z0, z1, z2, z3, z4])) | ((apply W1.tabA; exact rfl; exact rfl; exact rfl; exact hr'; omega; omega; (rw [fir_len]; omega))) | ((apply W1.load1; exact rfl; exact rfl)) | ((apply W1.slcD; exact rfl; exact rfl; exact rfl; omega)) | ((first | apply W1.add64 | apply W1.sub64); (iterate 3 exact rfl); omega; omega) | (apply W1.iadr; (iterate 3 exact rfl); omega; first | assumption | ((first | apply V.get_row | apply get_srow | apply get_ty | apply get_ar | apply get_ob | apply get_sprow | apply get_brow); assumption)) | (apply W1.idxS; (iterate 3 exact rfl); omega; omega) | (apply W1.slcS; (iterate 4 exact rfl); omega) | (apply W1.pickT; exact rfl; exact rfl; (first | with_reducible rfl | assumption | (simp only [bn]; first | omega | assumption | decide)); exact rfl) | (apply W1.pickF; exact rfl; exact rfl; (first | with_reducible rfl | assumption | (simp only [bn]; first | omega | assumption | decide)); exact rfl) | (apply W1.op; (iterate 3 exact rfl)) | (apply W1.no; exact rfl) | ((first | apply W1.knowT | apply W1.knowFn | apply WQ.knowT | apply WQ.knowFn | apply W.condT); exact rfl; (first | with_reducible rfl | assumption | (simp only [bn]; first | omega | assumption | decide))) | ((first | apply W1.knowTn | apply W1.knowF | apply WQ.knowTn | apply WQ.knowF | apply W.condF); exact rfl; (first | with_reducible rfl | assumption | (simp only [bn]; first | omega | assumption | decide))) | (apply WQ.go; exact rfl; exact rfl) | (apply WQ.no; exact rfl) | ((first | apply W1.bothT | apply W1.bothF | apply WQ.bothT | apply WQ.bothF | apply W.cond); exact rfl; all_goals intro hc; all_goals first | (cases hc; done) | ((try simp only [hc]); (try simp only [bm] at hc))) | refine WO.nil ?_ | refine WB.nil ?_ | refine WP.bag rfl ?_ | refine WP.nil ?_ | refine W.seq ?_ | refine W.reg ?_ | refine W.dreg ?_ | refine W.block ?_ | refine W.ret ?_ | refine W.skip ?_ | refine W.exit ?_ | (simp only [srow_len, List.length_map, Qit, Int.toNat_natCast, entry, Opd.eat, cellsOf, TV.ofCells, allAv, Qseq, Qblk, List.map_cons, List.map_nil, putD, kp, Nat.reduceEqDiff, ↓reduceIte, beq_self_eq_true, Nat.reduceBEq]))
  all_goals first
    | (refine Qend.boo rfl rfl ?_; rw [← hp1, hwt, hwd, if_neg (by omega)]; rfl)
    | (have hk : wd t = 3 := by rw [hwd, if_pos (by omega)]
       rw [hk] at hwt
       refine ⟨_, ⟨?_, ?_⟩, ?_, rfl⟩
       · rw [← hp1, hwt]; rfl
       · omega
       · omega)
theorem vs_c4 {T : Tab} {s t : Str} (hp1 : utf t = utf s) (hp2 : t.length ≤ 1073741824) (hne : t ≠ []) (hasc : ¬ (bAt t 0).toNat < 128) (hf : firZ[(bAt t 0).toNat]? = some 52) (c1 : (bAt t 0).toNat = 240) : VStep T s t := by
  unfold VStep
  have hlen : 0 < t.length := List.length_pos_iff.2 hne
  have hc256 : (bAt t 0).toNat < 256 := (bAt t 0).toNat_lt
  have z0 : Int.toNat 0 = 0 := rfl
  have z1 : Int.toNat 1 = 1 := rfl
  have z2 : Int.toNat 2 = 2 := rfl
  have z3 : Int.toNat 3 = 3 := rfl
  have z4 : Int.toNat 4 = 4 := rfl
  have z8 : Int.toNat 8 = 8 := rfl
  have z16 : Int.toNat 16 = 16 := rfl
  have z24 : Int.toNat 24 = 24 := rfl
  have z32 : Int.toNat 32 = 32 := rfl
  have hasc' : ¬ ((bAt t 0).toNat : Int) < 128 := by omega
  have hwt := utf_cons hne
  have d2 : (t.drop 2).length = t.length - 2 := List.length_drop
  have d3 : (t.drop 3).length = t.length - 3 := List.length_drop
  have d4 : (t.drop 4).length = t.length - 4 := List.length_drop
  obtain ⟨rest, hr⟩ := fir_drop hf
  have hr' : (zavs firZ).drop (Int.toNat ((bAt t 0).toNat : Int) * 1) = .int .u8 52 :: rest := by rw [Int.toNat_natCast, Nat.mul_one]; exact hr
  have hwd := wd_four (t := t) 144 191 (by omega) (by omega) (by rw [if_pos (by omega)]) (by rw [if_neg (by omega)])
  repeat' (first | refine WO.cons ?_ | refine WB.cons ?_ | refine WP.one ?_ | ((simp only [z0, z1, z2, z3, z4])) | ((apply W1.tabA; exact rfl; exact rfl; exact rfl; exact hr'; omega; omega; (rw [fir_len]; omega))) | ((apply W1.load1; exact rfl; exact rfl)) | ((apply W1.slcD; exact rfl; exact rfl; exact rfl; omega)) | ((first | apply W1.add64 | apply W1.sub64); (iterate 3 exact rfl); omega; omega) | (apply W1.iadr; (iterate 3 exact rfl); omega; first | assumption | ((first | apply V.get_row | apply get_srow | apply get_ty | apply get_ar | apply get_ob | apply get_sprow | apply get_brow); assumption)) | (apply W1.idxS; (iterate 3 exact rfl); omega; omega) | (apply W1.slcS; (iterate 4 exact rfl); omega) | (apply W1.pickT; exact rfl; exact rfl; (first | with_reducible rfl | assumption | (simp only [bn]; first | omega | assumption | decide)); exact rfl) | (apply W1.pickF; exact rfl; exact rfl; (first | with_reducible rfl | assumption | (simp only [bn]; first | omega | assumption | decide)); exact rfl) | (apply W1.op; (iterate 3 exact rfl)) | (apply W1.no; exact rfl) | ((first | apply W1.knowT | apply W1.knowFn | apply WQ.knowT | apply WQ.knowFn | apply W.condT); exact rfl; (first | with_reducible rfl | assumption | (simp only [bn]; first | omega | assumption | decide))) | ((first | apply W1.knowTn | apply W1.knowF | apply WQ.knowTn | apply WQ.knowF | apply W.condF); exact rfl; (first | with_reducible rfl | assumption | (simp only [bn]; first | omega | assumption | decide))) | (apply WQ.go; exact rfl; exact rfl) | (apply WQ.no; exact rfl) | ((first | apply W1.bothT | apply W1.bothF | apply WQ.bothT | apply WQ.bothF | apply W.cond); exact rfl; all_goals intro hc; all_goals first | (cases hc; done) | ((try simp only [hc]); (try simp only [bm] at hc))) | refine WO.nil ?_ | refine WB.nil ?_ | refine WP.bag rfl ?_ | refine WP.nil ?_ | refine W.seq ?_ | refine W.reg ?_ | refine W.dreg ?_ | refine W.block ?_ | refine W.ret ?_ | refine W.skip ?_ | refine W.exit ?_ | (simp only [srow_len, List.length_map, Qit, Int.toNat_natCast, entry, Opd.eat, cellsOf, TV.ofCells, allAv, Qseq, Qblk, List.map_cons, List.map_nil, putD, kp, Nat.reduceEqDiff, ↓reduceIte, beq_self_eq_true, Nat.reduceBEq]))
  all_goals first
    | (refine Qend.boo rfl rfl ?_; rw [← hp1, hwt, hwd, if_neg (by omega)]; rfl)
    | (have hk : wd t = 4 := by rw [hwd, if_pos (by omega)]
       rw [hk] at hwt
       refine ⟨_, ⟨?_, ?_⟩, ?_, rfl⟩
       · rw [← hp1, hwt]; rfl
       · omega
       · omega)
end Hm

/- Which texts are UTF-8: classes. Conditions: see each theorem. -/
namespace Hm
open Go (IntKind)
set_option maxHeartbeats 40000000
set_option maxRecDepth 4000
theorem vs_c5 {T : Tab} {s t : Str} (hp1 : utf t = utf s) (hp2 : t.length ≤ 1073741824) (hne : t ≠ []) (hasc : ¬ (bAt t 0).toNat < 128) (hf : firZ[(bAt t 0).toNat]? = some 4) (c1 : 241 ≤ (bAt t 0).toNat) (c2 : (bAt t 0).toNat ≤ 243) : VStep T s t := by
  unfold VStep
  have hlen : 0 < t.length := List.length_pos_iff.2 hne
  have hc256 : (bAt t 0).toNat < 256 := (bAt t 0).toNat_lt
  have z0 : Int.toNat 0 = 0 := rfl
  have z1 : Int.toNat 1 = 1 := rfl
  have z2 : Int.toNat 2 = 2 := rfl
  have z3 : Int.toNat 3 = 3 := rfl
  have z4 : Int.toNat 4 = 4 := rfl
  have z8 : Int.toNat 8 = 8 := rfl
  have z16 : Int.toNat 16 = 16 := rfl
  have z24 : Int.toNat 24 = 24 := rfl
  have z32 : Int.toNat 32 = 32 := rfl
  have hasc' : ¬ ((bAt t 0).toNat : Int) < 128 := by omega
  have hwt := utf_cons hne
  have d2 : (t.drop 2).length = t.length - 2 := List.length_drop
  have d3 : (t.drop 3).length = t.length - 3 := List.length_drop
  have d4 : (t.drop 4).length = t.length - 4 := List.length_drop
  obtain ⟨rest, hr⟩ := fir_drop hf
  have hr' : (zavs firZ).drop (Int.toNat ((bAt t 0).toNat : Int) * 1) = .int .u8 4 :: rest := by rw [Int.toNat_natCast, Nat.mul_one]; exact hr
  have hwd := wd_four (t := t) 128 191 (by omega) (by omega) (by rw [if_neg (by omega)]) (by rw [if_neg (by omega)])
  repeat' (first | refine WO.cons ?_ | refine WB.cons ?_ | refine WP.one ?_ | ((simp only [z0, z1, z2, z3, z4])) | ((apply W1.tabA; exact rfl; exact rfl; exact rfl; exact hr'; omega; omega; (rw [fir_len]; omega))) | ((apply W1.load1; exact rfl; exact rfl)) | ((apply W1.slcD; exact rfl; exact rfl; exact rfl; omega)) | ((first | apply W1.add64 | apply W1.sub64); (iterate 3 exact rfl); omega; omega) | (apply W1.iadr; (iterate 3 exact rfl); omega; first | assumption | ((first | apply V.get_row | apply get_srow | apply get_ty | apply get_ar | apply get_ob | apply get_sprow | apply get_brow); assumption)) | (apply W1.idxS; (iterate 3 exact rfl); omega; omega) | (apply W1.slcS; (iterate 4 exact rfl); omega) | (apply W1.pickT; exact rfl; exact rfl; (first | with_reducible rfl | assumption | (simp only [bn]; first | omega | assumption | decide)); exact rfl) | (apply W1.pickF; exact rfl; exact rfl; (first | with_reducible rfl | assumption | (simp only [bn]; first | omega | assumption | decide)); exact rfl) | (apply W1.op; (iterate 3 exact rfl)) | (apply W1.no; exact rfl) | ((first | apply W1.knowT | apply W1.knowFn | apply WQ.knowT | apply WQ.knowFn | apply W.condT); exact rfl; (first | with_reducible rfl | assumption | (simp only [bn]; first | omega | assumption | decide))) | ((first | apply W1.knowTn | apply W1.knowF | apply WQ.knowTn | apply WQ.knowF | apply W.condF); exact rfl; (first | with_reducible rfl | assumption | (simp only [bn]; first | omega | assumption | decide))) | (apply WQ.go; exact rfl; exact rfl) | (apply WQ.no; exact rfl) | ((first | apply W1.bothT | apply W1.bothF | apply WQ.bothT | apply WQ.bothF | apply W.cond); exact rfl; all_goals intro hc; all_goals first | (cases hc; done) | ((try simp only [hc]); (try simp only [bm] at hc))) | refine WO.nil ?_ | refine WB.nil ?_ | refine WP.bag rfl ?_ | refine WP.nil ?_ | refine W.seq ?_ | refine W.reg ?_ | refine W.dreg ?_ | refine W.block ?_ | refine W.ret ?_ | refine W.skip ?_ | refine W.exit ?_ | (simp only [srow_len, List.length_map, Qit, Int.toNat_natCast, entry, Opd.eat, cellsOf, TV.ofCells, allAv, Qseq, Qblk, List.map_cons, List.map_nil, putD, kp, Nat.reduceEqDiff, ↓reduceIte, beq_self_eq_true, Nat.reduceBEq]))
  all_goals first
    | (refine Qend.boo rfl rfl ?_; rw [← hp1, hwt, hwd, if_neg (by omega)]; rfl)
    | (have hk : wd t = 4 := by rw [hwd, if_pos (by omega)]
       rw [hk] at hwt
       refine ⟨_, ⟨?_, ?_⟩, ?_, rfl⟩
       · rw [← hp1, hwt]; rfl
       · omega
       · omega)
theorem vs_c6 {T : Tab} {s t : Str} (hp1 : utf t = utf s) (hp2 : t.length ≤ 1073741824) (hne : t ≠ []) (hasc : ¬ (bAt t 0).toNat < 128) (hf : firZ[(bAt t 0).toNat]? = some 68) (c1 : (bAt t 0).toNat = 244) : VStep T s t := by
  unfold VStep
  have hlen : 0 < t.length := List.length_pos_iff.2 hne
  have hc256 : (bAt t 0).toNat < 256 := (bAt t 0).toNat_lt
  have z0 : Int.toNat 0 = 0 := rfl
  have z1 : Int.toNat 1 = 1 := rfl
  have z2 : Int.toNat 2 = 2 := rfl
  have z3 : Int.toNat 3 = 3 := rfl
  have z4 : Int.toNat 4 = 4 := rfl
  have z8 : Int.toNat 8 = 8 := rfl
  have z16 : Int.toNat 16 = 16 := rfl
  have z24 : Int.toNat 24 = 24 := rfl
  have z32 : Int.toNat 32 = 32 := rfl
  have hasc' : ¬ ((bAt t 0).toNat : Int) < 128 := by omega
  have hwt := utf_cons hne
  have d2 : (t.drop 2).length = t.length - 2 := List.length_drop
  have d3 : (t.drop 3).length = t.length - 3 := List.length_drop
  have d4 : (t.drop 4).length = t.length - 4 := List.length_drop
  obtain ⟨rest, hr⟩ := fir_drop hf
  have hr' : (zavs firZ).drop (Int.toNat ((bAt t 0).toNat : Int) * 1) = .int .u8 68 :: rest := by rw [Int.toNat_natCast, Nat.mul_one]; exact hr
  have hwd := wd_four (t := t) 128 143 (by omega) (by omega) (by rw [if_neg (by omega)]) (by rw [if_pos (by omega)])
  repeat' (first | refine WO.cons ?_ | refine WB.cons ?_ | refine WP.one ?_ | ((simp only [z0, z1, z2, z3, z4])) | ((apply W1.tabA; exact rfl; exact rfl; exact rfl; exact hr'; omega; omega; (rw [fir_len]; omega))) | ((apply W1.load1; exact rfl; exact rfl)) | ((apply W1.slcD; exact rfl; exact rfl; exact rfl; omega)) | ((first | apply W1.add64 | apply W1.sub64); (iterate 3 exact rfl); omega; omega) | (apply W1.iadr; (iterate 3 exact rfl); omega; first | assumption | ((first | apply V.get_row | apply get_srow | apply get_ty | apply get_ar | apply get_ob | apply get_sprow | apply get_brow); assumption)) | (apply W1.idxS; (iterate 3 exact rfl); omega; omega) | (apply W1.slcS; (iterate 4 exact rfl); omega) | (apply W1.pickT; exact rfl; exact rfl; (first | with_reducible rfl | assumption | (simp only [bn]; first | omega | assumption | decide)); exact rfl) | (apply W1.pickF; exact rfl; exact rfl; (first | with_reducible rfl | assumption | (simp only [bn]; first | omega | assumption | decide)); exact rfl) | (apply W1.op; (iterate 3 exact rfl)) | (apply W1.no; exact rfl) | ((first | apply W1.knowT | apply W1.knowFn | apply WQ.knowT | apply WQ.knowFn | apply W.condT); exact rfl; (first | with_reducible rfl | assumption | (simp only [bn]; first | omega | assumption | decide))) | ((first | apply W1.knowTn | apply W1.knowF | apply WQ.knowTn | apply WQ.knowF | apply W.condF); exact rfl; (first | with_reducible rfl | assumption | (simp only [bn]; first | omega | assumption | decide))) | (apply WQ.go; exact rfl; exact rfl) | (apply WQ.no; exact rfl) | ((first | apply W1.bothT | apply W1.bothF | apply WQ.bothT | apply WQ.bothF | apply W.cond); exact rfl; all_goals intro hc; all_goals first | (cases hc; done) | ((try simp only [hc]); (try simp only [bm] at hc))) | refine WO.nil ?_ | refine WB.nil ?_ | refine WP.bag rfl ?_ | refine WP.nil ?_ | refine W.seq ?_ | refine W.reg ?_ | refine W.dreg ?_ | refine W.block ?_ | refine W.ret ?_ | refine W.skip ?_ | refine W.exit ?_ | (simp only [srow_len, List.length_map, Qit, Int.toNat_natCast, entry, Opd.eat, cellsOf, TV.ofCells, allAv, Qseq, Qblk, List.map_cons, List.map_nil, putD, kp, Nat.reduceEqDiff, ↓reduceIte, beq_self_eq_true, Nat.reduceBEq]))
  all_goals first
    | (refine Qend.boo rfl rfl ?_; rw [← hp1, hwt, hwd, if_neg (by omega)]; rfl)
    | (have hk : wd t = 4 := by rw [hwd, if_pos (by omega)]
       rw [hk] at hwt
       refine ⟨_, ⟨?_, ?_⟩, ?_, rfl⟩
       · rw [← hp1, hwt]; rfl
       · omega
       · omega)
theorem vs_c7 {T : Tab} {s t : Str} (hp1 : utf t = utf s) (hp2 : t.length ≤ 1073741824) (hne : t ≠ []) (hasc : ¬ (bAt t 0).toNat < 128) (hf : firZ[(bAt t 0).toNat]? = some 241) (c1 : (bAt t 0).toNat < 194 ∨ 244 < (bAt t 0).toNat) : VStep T s t := by
  unfold VStep
  have hlen : 0 < t.length := List.length_pos_iff.2 hne
  have hc256 : (bAt t 0).toNat < 256 := (bAt t 0).toNat_lt
  have z0 : Int.toNat 0 = 0 := rfl
  have z1 : Int.toNat 1 = 1 := rfl
  have z2 : Int.toNat 2 = 2 := rfl
  have z3 : Int.toNat 3 = 3 := rfl
  have z4 : Int.toNat 4 = 4 := rfl
  have z8 : Int.toNat 8 = 8 := rfl
  have z16 : Int.toNat 16 = 16 := rfl
  have z24 : Int.toNat 24 = 24 := rfl
  have z32 : Int.toNat 32 = 32 := rfl
  have hasc' : ¬ ((bAt t 0).toNat : Int) < 128 := by omega
  have hwt := utf_cons hne
  have d2 : (t.drop 2).length = t.length - 2 := List.length_drop
  have d3 : (t.drop 3).length = t.length - 3 := List.length_drop
  have d4 : (t.drop 4).length = t.length - 4 := List.length_drop
  obtain ⟨rest, hr⟩ := fir_drop hf
  have hr' : (zavs firZ).drop (Int.toNat ((bAt t 0).toNat : Int) * 1) = .int .u8 241 :: rest := by rw [Int.toNat_natCast, Nat.mul_one]; exact hr
  have hwd := wd_none (t := t) (by omega) c1
  repeat' (first | refine WO.cons ?_ | refine WB.cons ?_ | refine WP.one ?_ | ((simp only [z0, z1, z2, z3, z4])) | ((apply W1.tabA; exact rfl; exact rfl; exact rfl; exact hr'; omega; omega; (rw [fir_len]; omega))) | ((apply W1.load1; exact rfl; exact rfl)) | ((apply W1.slcD; exact rfl; exact rfl; exact rfl; omega)) | ((first | apply W1.add64 | apply W1.sub64); (iterate 3 exact rfl); omega; omega) | (apply W1.iadr; (iterate 3 exact rfl); omega; first | assumption | ((first | apply V.get_row | apply get_srow | apply get_ty | apply get_ar | apply get_ob | apply get_sprow | apply get_brow); assumption)) | (apply W1.idxS; (iterate 3 exact rfl); omega; omega) | (apply W1.slcS; (iterate 4 exact rfl); omega) | (apply W1.pickT; exact rfl; exact rfl; (first | with_reducible rfl | assumption | (simp only [bn]; first | omega | assumption | decide)); exact rfl) | (apply W1.pickF; exact rfl; exact rfl; (first | with_reducible rfl | assumption | (simp only [bn]; first | omega | assumption | decide)); exact rfl) | (apply W1.op; (iterate 3 exact rfl)) | (apply W1.no; exact rfl) | ((first | apply W1.knowT | apply W1.knowFn | apply WQ.knowT | apply WQ.knowFn | apply W.condT); exact rfl; (first | with_reducible rfl | assumption | (simp only [bn]; first | omega | assumption | decide))) | ((first | apply W1.knowTn | apply W1.knowF | apply WQ.knowTn | apply WQ.knowF | apply W.condF); exact rfl; (first | with_reducible rfl | assumption | (simp only [bn]; first | omega | assumption | decide))) | (apply WQ.go; exact rfl; exact rfl) | (apply WQ.no; exact rfl) | ((first | apply W1.bothT | apply W1.bothF | apply WQ.bothT | apply WQ.bothF | apply W.cond); exact rfl; all_goals intro hc; all_goals first | (cases hc; done) | ((try simp only [hc]); (try simp only [bm] at hc))) | refine WO.nil ?_ | refine WB.nil ?_ | refine WP.bag rfl ?_ | refine WP.nil ?_ | refine W.seq ?_ | refine W.reg ?_ | refine W.dreg ?_ | refine W.block ?_ | refine W.ret ?_ | refine W.skip ?_ | refine W.exit ?_ | (simp only [srow_len, List.length_map, Qit, Int.toNat_natCast, entry, Opd.eat, cellsOf, TV.ofCells, allAv, Qseq, Qblk, List.map_cons, List.map_nil, putD, kp, Nat.reduceEqDiff, ↓reduceIte, beq_self_eq_true, Nat.reduceBEq]))
  all_goals (refine Qend.boo rfl rfl ?_; rw [← hp1, hwt, hwd]; rfl)
end Hm

/- Which texts are UTF-8, as Go's library has it. Conditions: see each theorem. -/
namespace Hm
open Go (IntKind)
set_option maxHeartbeats 4000000
set_option maxRecDepth 4000
theorem validString_ret {T : Tab} (h : Fn T F.unicode_utf8_ValidString unicode_utf8_ValidString.fn) (hw : Fn T F.unicode_utf8_word_string unicode_utf8_word_string.fn) (s : Str) (hb : s.length ≤ 1073741824) :
    Ret T F.unicode_utf8_ValidString [.val (.str s)] (one (.bool (utf s))) := by
  refine Ret.mk h rfl ?_
  repeat' (first | refine WO.cons ?_ | refine WB.cons ?_ | refine WP.one ?_ | ((first | apply W1.add64 | apply W1.sub64); (iterate 3 exact rfl); omega; omega) | (apply W1.iadr; (iterate 3 exact rfl); omega; first | assumption | ((first | apply V.get_row | apply get_srow | apply get_ty | apply get_ar | apply get_ob | apply get_sprow | apply get_brow); assumption)) | (apply W1.idxS; (iterate 3 exact rfl); omega; omega) | (apply W1.slcS; (iterate 4 exact rfl); omega) | (apply W1.pickT; exact rfl; exact rfl; (first | with_reducible rfl | assumption | (simp only [bn]; first | omega | assumption | decide)); exact rfl) | (apply W1.pickF; exact rfl; exact rfl; (first | with_reducible rfl | assumption | (simp only [bn]; first | omega | assumption | decide)); exact rfl) | (apply W1.op; (iterate 3 exact rfl)) | (apply W1.no; exact rfl) | ((first | apply W1.knowT | apply W1.knowFn | apply WQ.knowT | apply WQ.knowFn | apply W.condT); exact rfl; (first | with_reducible rfl | assumption | (simp only [bn]; first | omega | assumption | decide))) | ((first | apply W1.knowTn | apply W1.knowF | apply WQ.knowTn | apply WQ.knowF | apply W.condF); exact rfl; (first | with_reducible rfl | assumption | (simp only [bn]; first | omega | assumption | decide))) | (apply WQ.go; exact rfl; exact rfl) | (apply WQ.no; exact rfl) | ((first | apply W1.bothT | apply W1.bothF | apply WQ.bothT | apply WQ.bothF | apply W.cond); exact rfl; all_goals intro hc; all_goals first | (cases hc; done) | ((try simp only [hc]); (try simp only [bm] at hc))) | refine WO.nil ?_ | refine WB.nil ?_ | refine WP.bag rfl ?_ | refine WP.nil ?_ | refine W.seq ?_ | refine W.reg ?_ | refine W.dreg ?_ | refine W.block ?_ | refine W.ret ?_ | refine W.skip ?_ | refine W.exit ?_ | (simp only [srow_len, List.length_map, Qit, Int.toNat_natCast, entry, Opd.eat, cellsOf, TV.ofCells, allAv, Qseq, Qblk, List.map_cons, List.map_nil, putD, kp, Nat.reduceEqDiff, ↓reduceIte, beq_self_eq_true, Nat.reduceBEq]))
  refine W.iterP (β := Str) (fun t s0 => s0.put 0 (.av (.str t))) (fun t => utf t = utf s ∧ t.length ≤ 1073741824) List.length s ⟨rfl, hb⟩ rfl ?_
  rintro t ⟨hp1, hp2⟩
  show VStep T s t
  by_cases hne : t = []
  · exact vs_nil hp1 hp2 hne
  · by_cases hasc : (bAt t 0).toNat < 128
    · exact vs_asc hp1 hp2 hw hne hasc
    · rcases fir_cases _ (bAt t 0).toNat_lt (by omega) with ⟨hf, c1, c2⟩ | ⟨hf, c1⟩ | ⟨hf, c1, c2, c3⟩ | ⟨hf, c1⟩ | ⟨hf, c1⟩ | ⟨hf, c1, c2⟩ | ⟨hf, c1⟩ | ⟨hf, c1⟩
      · exact vs_c0 hp1 hp2 hne hasc hf c1 c2
      · exact vs_c1 hp1 hp2 hne hasc hf c1
      · exact vs_c2 hp1 hp2 hne hasc hf c1 c2 c3
      · exact vs_c3 hp1 hp2 hne hasc hf c1
      · exact vs_c4 hp1 hp2 hne hasc hf c1
      · exact vs_c5 hp1 hp2 hne hasc hf c1 c2
      · exact vs_c6 hp1 hp2 hne hasc hf c1
      · exact vs_c7 hp1 hp2 hne hasc hf c1
end Hm

/- The contract of the program's test for UTF-8, by name. Conditions: none (a definition). -/
namespace Hm
def ValidOk (T : Tab) : Prop := ∀ s : Str, s.length ≤ 1073741824 → Ret T F.utf_Valid [.val (.str s)] (one (.bool (utf s)))
end Hm

/- Which texts the program says are UTF-8. Conditions: see each theorem. -/
namespace Hm
open Go (IntKind)
set_option maxHeartbeats 4000000
set_option maxRecDepth 4000
theorem validOk {T : Tab} (hu : Fn T F.utf_Valid utf_Valid.fn) (h : Fn T F.unicode_utf8_ValidString unicode_utf8_ValidString.fn) (hw : Fn T F.unicode_utf8_word_string unicode_utf8_word_string.fn) : ValidOk T := by
  intro s hb
  have r := validString_ret h hw s hb
  refine Ret.mk hu rfl ?_
  repeat' (first | refine WO.cons ?_ | refine WB.cons ?_ | refine WP.one ?_ | (first | (apply WQ.call (hm := h.modes); (iterate 4 exact rfl)) | (apply W1.callV (hm := h.modes); (iterate 5 exact rfl); exact (r); exact rfl)) | ((first | apply W1.add64 | apply W1.sub64); (iterate 3 exact rfl); omega; omega) | (apply W1.iadr; (iterate 3 exact rfl); omega; first | assumption | ((first | apply V.get_row | apply get_srow | apply get_ty | apply get_ar | apply get_ob | apply get_sprow | apply get_brow); assumption)) | (apply W1.idxS; (iterate 3 exact rfl); omega; omega) | (apply W1.slcS; (iterate 4 exact rfl); omega) | (apply W1.pickT; exact rfl; exact rfl; (first | with_reducible rfl | assumption | (simp only [bn]; first | omega | assumption | decide)); exact rfl) | (apply W1.pickF; exact rfl; exact rfl; (first | with_reducible rfl | assumption | (simp only [bn]; first | omega | assumption | decide)); exact rfl) | (apply W1.op; (iterate 3 exact rfl)) | (apply W1.no; exact rfl) | ((first | apply W1.knowT | apply W1.knowFn | apply WQ.knowT | apply WQ.knowFn | apply W.condT); exact rfl; (first | with_reducible rfl | assumption | (simp only [bn]; first | omega | assumption | decide))) | ((first | apply W1.knowTn | apply W1.knowF | apply WQ.knowTn | apply WQ.knowF | apply W.condF); exact rfl; (first | with_reducible rfl | assumption | (simp only [bn]; first | omega | assumption | decide))) | (apply WQ.go; exact rfl; exact rfl) | (apply WQ.no; exact rfl) | ((first | apply W1.bothT | apply W1.bothF | apply WQ.bothT | apply WQ.bothF | apply W.cond); exact rfl; all_goals intro hc; all_goals first | (cases hc; done) | ((try simp only [hc]); (try simp only [bm] at hc))) | refine WO.nil ?_ | refine WB.nil ?_ | refine WP.bag rfl ?_ | refine WP.nil ?_ | refine W.seq ?_ | refine W.reg ?_ | refine W.dreg ?_ | refine W.block ?_ | refine W.ret ?_ | refine W.skip ?_ | refine W.exit ?_ | (simp only [srow_len, List.length_map, Qit, Int.toNat_natCast, entry, Opd.eat, cellsOf, TV.ofCells, allAv, Qseq, Qblk, List.map_cons, List.map_nil, putD, kp, Nat.reduceEqDiff, ↓reduceIte, beq_self_eq_true, Nat.reduceBEq]))
  exact Qend.boo rfl rfl rfl
end Hm

/- Which values the program says are well shaped, and the law. Conditions: see each theorem. -/
namespace Hm
open Go (IntKind)
set_option maxHeartbeats 4000000
set_option maxRecDepth 4000
structure VfFns (T : Tab) : Prop where
  a1 : Fn T F.value_Formed value_Formed.fn
  a2 : Fn T F.value_allFormed value_allFormed.fn
  a3 : Fn T F.value_allFormed_S1 value_allFormed_S1.fn
  a4 : Fn T F.value_empty value_empty.fn
  a5 : Fn T F.value_rise value_rise.fn
  a6 : Fn T F.utf_Valid utf_Valid.fn
  a7 : Fn T F.tens_Formed tens_Formed.fn
  a8 : Fn T F.slices_ContainsFunc_LValue_Value slices_ContainsFunc_LValue_Value.fn
  a9 : Fn T F.slices_IndexFunc_LValue_Value slices_IndexFunc_LValue_Value.fn
section
variable {T : Tab}
theorem indexFuncV_ret (h : Fn T F.slices_IndexFunc_LValue_Value slices_IndexFunc_LValue_Value.fn) {p : V → Bool} {g : Nat} (hg : T.modes g = [.val]) (l : List V) (hl : l.length ≤ 1073741824)
    (ih : ∀ x ∈ l, Ret T g [.val x.av] (one (.bool (p x)))) : ∃ n : Int, (0 ≤ n ↔ l.any p = true) ∧ Ret T F.slices_IndexFunc_LValue_Value [.val (.lst 5 (l.map V.row)), .val (.clo g [] [])] (one (.int .i64 n)) := by
  have e1 : (l.map V.row).length = l.length := List.length_map ..
  refine Ret.ex1 (g := fun n => AV.int .i64 n) (R := fun n => (0 ≤ n ↔ l.any p = true)) h rfl ?_
  repeat' (first | refine WO.cons ?_ | refine WB.cons ?_ | refine WP.one ?_ | ((first | apply W1.add64 | apply W1.sub64); (iterate 3 exact rfl); omega; omega) | (apply W1.iadr; (iterate 3 exact rfl); omega; first | assumption | ((first | apply V.get_row | apply get_srow | apply get_ty | apply get_ar | apply get_ob | apply get_sprow | apply get_brow); assumption)) | (apply W1.idxS; (iterate 3 exact rfl); omega; omega) | (apply W1.slcS; (iterate 4 exact rfl); omega) | (apply W1.pickT; exact rfl; exact rfl; (first | with_reducible rfl | assumption | (simp only [bn]; first | omega | assumption | decide)); exact rfl) | (apply W1.pickF; exact rfl; exact rfl; (first | with_reducible rfl | assumption | (simp only [bn]; first | omega | assumption | decide)); exact rfl) | (apply W1.op; (iterate 3 exact rfl)) | (apply W1.no; exact rfl) | ((first | apply W1.knowT | apply W1.knowFn | apply WQ.knowT | apply WQ.knowFn | apply W.condT); exact rfl; (first | with_reducible rfl | assumption | (simp only [bn]; first | omega | assumption | decide))) | ((first | apply W1.knowTn | apply W1.knowF | apply WQ.knowTn | apply WQ.knowF | apply W.condF); exact rfl; (first | with_reducible rfl | assumption | (simp only [bn]; first | omega | assumption | decide))) | (apply WQ.go; exact rfl; exact rfl) | (apply WQ.no; exact rfl) | ((first | apply W1.bothT | apply W1.bothF | apply WQ.bothT | apply WQ.bothF | apply W.cond); exact rfl; all_goals intro hc; all_goals first | (cases hc; done) | ((try simp only [hc]); (try simp only [bm] at hc))) | refine WO.nil ?_ | refine WB.nil ?_ | refine WP.bag rfl ?_ | refine WP.nil ?_ | refine W.seq ?_ | refine W.reg ?_ | refine W.dreg ?_ | refine W.block ?_ | refine W.ret ?_ | refine W.skip ?_ | refine W.exit ?_ | (simp only [srow_len, List.length_map, Qit, Int.toNat_natCast, entry, Opd.eat, cellsOf, TV.ofCells, allAv, Qseq, Qblk, List.map_cons, List.map_nil, putD, kp, Nat.reduceEqDiff, ↓reduceIte, beq_self_eq_true, Nat.reduceBEq]))
  refine W.listP l (fun i (_ : Unit) s => s.put 8 (.av (.int .i64 (i : Int)))) (fun i _ => (l.take i).any p = false) () (by simp) rfl ?_ ?_
  · intro i x u hx hi hp
    have r := ih x (List.mem_of_getElem? hx)
    rw [V.av_eq] at r
    repeat' (first | refine WO.cons ?_ | refine WB.cons ?_ | refine WP.one ?_ | (first | (apply WQ.call (hm := hg); (iterate 4 exact rfl)) | (apply W1.callV (hm := hg); (iterate 5 exact rfl); exact (r); exact rfl)) | ((first | apply W1.add64 | apply W1.sub64); (iterate 3 exact rfl); omega; omega) | (apply W1.iadr; (iterate 3 exact rfl); omega; first | assumption | ((first | apply V.get_row | apply get_srow | apply get_ty | apply get_ar | apply get_ob | apply get_sprow | apply get_brow); assumption)) | (apply W1.idxS; (iterate 3 exact rfl); omega; omega) | (apply W1.slcS; (iterate 4 exact rfl); omega) | (apply W1.pickT; exact rfl; exact rfl; (first | with_reducible rfl | assumption | (simp only [bn]; first | omega | assumption | decide)); exact rfl) | (apply W1.pickF; exact rfl; exact rfl; (first | with_reducible rfl | assumption | (simp only [bn]; first | omega | assumption | decide)); exact rfl) | (apply W1.op; (iterate 3 exact rfl)) | (apply W1.no; exact rfl) | ((first | apply W1.knowT | apply W1.knowFn | apply WQ.knowT | apply WQ.knowFn | apply W.condT); exact rfl; (first | with_reducible rfl | assumption | (simp only [bn]; first | omega | assumption | decide))) | ((first | apply W1.knowTn | apply W1.knowF | apply WQ.knowTn | apply WQ.knowF | apply W.condF); exact rfl; (first | with_reducible rfl | assumption | (simp only [bn]; first | omega | assumption | decide))) | (apply WQ.go; exact rfl; exact rfl) | (apply WQ.no; exact rfl) | ((first | apply W1.bothT | apply W1.bothF | apply WQ.bothT | apply WQ.bothF | apply W.cond); exact rfl; all_goals intro hc; all_goals first | (cases hc; done) | ((try simp only [hc]); (try simp only [bm] at hc))) | refine WO.nil ?_ | refine WB.nil ?_ | refine WP.bag rfl ?_ | refine WP.nil ?_ | refine W.seq ?_ | refine W.reg ?_ | refine W.dreg ?_ | refine W.block ?_ | refine W.ret ?_ | refine W.skip ?_ | refine W.exit ?_ | (simp only [srow_len, List.length_map, Qit, Int.toNat_natCast, entry, Opd.eat, cellsOf, TV.ofCells, allAv, Qseq, Qblk, List.map_cons, List.map_nil, putD, kp, Nat.reduceEqDiff, ↓reduceIte, beq_self_eq_true, Nat.reduceBEq]))
    all_goals clear r
    · refine ⟨_, ?_, Qend.num rfl rfl rfl⟩
      have : l.any p = true := List.any_eq_true.2 ⟨x, List.mem_of_getElem? hx, by assumption⟩
      simp [this]
    · refine ⟨(), ?_, rfl⟩
      rw [List.take_add_one, hx, List.any_append, hp]; simp_all
  · intro u hp
    rw [List.take_length] at hp
    repeat' (first | refine WO.cons ?_ | refine WB.cons ?_ | refine WP.one ?_ | ((first | apply W1.add64 | apply W1.sub64); (iterate 3 exact rfl); omega; omega) | (apply W1.iadr; (iterate 3 exact rfl); omega; first | assumption | ((first | apply V.get_row | apply get_srow | apply get_ty | apply get_ar | apply get_ob | apply get_sprow | apply get_brow); assumption)) | (apply W1.idxS; (iterate 3 exact rfl); omega; omega) | (apply W1.slcS; (iterate 4 exact rfl); omega) | (apply W1.pickT; exact rfl; exact rfl; (first | with_reducible rfl | assumption | (simp only [bn]; first | omega | assumption | decide)); exact rfl) | (apply W1.pickF; exact rfl; exact rfl; (first | with_reducible rfl | assumption | (simp only [bn]; first | omega | assumption | decide)); exact rfl) | (apply W1.op; (iterate 3 exact rfl)) | (apply W1.no; exact rfl) | ((first | apply W1.knowT | apply W1.knowFn | apply WQ.knowT | apply WQ.knowFn | apply W.condT); exact rfl; (first | with_reducible rfl | assumption | (simp only [bn]; first | omega | assumption | decide))) | ((first | apply W1.knowTn | apply W1.knowF | apply WQ.knowTn | apply WQ.knowF | apply W.condF); exact rfl; (first | with_reducible rfl | assumption | (simp only [bn]; first | omega | assumption | decide))) | (apply WQ.go; exact rfl; exact rfl) | (apply WQ.no; exact rfl) | ((first | apply W1.bothT | apply W1.bothF | apply WQ.bothT | apply WQ.bothF | apply W.cond); exact rfl; all_goals intro hc; all_goals first | (cases hc; done) | ((try simp only [hc]); (try simp only [bm] at hc))) | refine WO.nil ?_ | refine WB.nil ?_ | refine WP.bag rfl ?_ | refine WP.nil ?_ | refine W.seq ?_ | refine W.reg ?_ | refine W.dreg ?_ | refine W.block ?_ | refine W.ret ?_ | refine W.skip ?_ | refine W.exit ?_ | (simp only [srow_len, List.length_map, Qit, Int.toNat_natCast, entry, Opd.eat, cellsOf, TV.ofCells, allAv, Qseq, Qblk, List.map_cons, List.map_nil, putD, kp, Nat.reduceEqDiff, ↓reduceIte, beq_self_eq_true, Nat.reduceBEq]))
    refine ⟨_, ?_, Qend.num rfl rfl rfl⟩
    rw [hp]; simp
theorem containsFuncV_ret (h : Fn T F.slices_ContainsFunc_LValue_Value slices_ContainsFunc_LValue_Value.fn) (hi : Fn T F.slices_IndexFunc_LValue_Value slices_IndexFunc_LValue_Value.fn) {p : V → Bool} {g : Nat} (hg : T.modes g = [.val]) (l : List V) (hl : l.length ≤ 1073741824)
    (ih : ∀ x ∈ l, Ret T g [.val x.av] (one (.bool (p x)))) : Ret T F.slices_ContainsFunc_LValue_Value [.val (.lst 5 (l.map V.row)), .val (.clo g [] [])] (one (.bool (l.any p))) := by
  obtain ⟨n, hn, r⟩ := indexFuncV_ret hi hg l hl ih
  refine Ret.mk h rfl ?_
  repeat' (first | refine WO.cons ?_ | refine WB.cons ?_ | refine WP.one ?_ | (first | (apply WQ.call (hm := hi.modes); (iterate 4 exact rfl)) | (apply W1.callV (hm := hi.modes); (iterate 5 exact rfl); exact (r); exact rfl)) | ((first | apply W1.add64 | apply W1.sub64); (iterate 3 exact rfl); omega; omega) | (apply W1.iadr; (iterate 3 exact rfl); omega; first | assumption | ((first | apply V.get_row | apply get_srow | apply get_ty | apply get_ar | apply get_ob | apply get_sprow | apply get_brow); assumption)) | (apply W1.idxS; (iterate 3 exact rfl); omega; omega) | (apply W1.slcS; (iterate 4 exact rfl); omega) | (apply W1.pickT; exact rfl; exact rfl; (first | with_reducible rfl | assumption | (simp only [bn]; first | omega | assumption | decide)); exact rfl) | (apply W1.pickF; exact rfl; exact rfl; (first | with_reducible rfl | assumption | (simp only [bn]; first | omega | assumption | decide)); exact rfl) | (apply W1.op; (iterate 3 exact rfl)) | (apply W1.no; exact rfl) | ((first | apply W1.knowT | apply W1.knowFn | apply WQ.knowT | apply WQ.knowFn | apply W.condT); exact rfl; (first | with_reducible rfl | assumption | (simp only [bn]; first | omega | assumption | decide))) | ((first | apply W1.knowTn | apply W1.knowF | apply WQ.knowTn | apply WQ.knowF | apply W.condF); exact rfl; (first | with_reducible rfl | assumption | (simp only [bn]; first | omega | assumption | decide))) | (apply WQ.go; exact rfl; exact rfl) | (apply WQ.no; exact rfl) | ((first | apply W1.bothT | apply W1.bothF | apply WQ.bothT | apply WQ.bothF | apply W.cond); exact rfl; all_goals intro hc; all_goals first | (cases hc; done) | ((try simp only [hc]); (try simp only [bm] at hc))) | refine WO.nil ?_ | refine WB.nil ?_ | refine WP.bag rfl ?_ | refine WP.nil ?_ | refine W.seq ?_ | refine W.reg ?_ | refine W.dreg ?_ | refine W.block ?_ | refine W.ret ?_ | refine W.skip ?_ | refine W.exit ?_ | (simp only [srow_len, List.length_map, Qit, Int.toNat_natCast, entry, Opd.eat, cellsOf, TV.ofCells, allAv, Qseq, Qblk, List.map_cons, List.map_nil, putD, kp, Nat.reduceEqDiff, ↓reduceIte, beq_self_eq_true, Nat.reduceBEq]))
  refine Qend.boo rfl rfl ?_
  rw [Bool.eq_iff_iff, ← hn]; simp
theorem vrise_ret (h : Fn T F.value_rise value_rise.fn) (hu : Fn T F.utf_Valid utf_Valid.fn) (hv : ValidOk T) (l : List Str) (hb : sbk l ≤ 1073741824) : Ret T F.value_rise [.val (.lst 1 (srow l))] (one (.bool (rise l))) := by
  refine Ret.mk h rfl ?_
  have hl := len_sbk l
  have e1 := srow_len l
  repeat' (first | refine WO.cons ?_ | refine WB.cons ?_ | refine WP.one ?_ | ((first | apply W1.add64 | apply W1.sub64); (iterate 3 exact rfl); omega; omega) | (apply W1.iadr; (iterate 3 exact rfl); omega; first | assumption | ((first | apply V.get_row | apply get_srow | apply get_ty | apply get_ar | apply get_ob | apply get_sprow | apply get_brow); assumption)) | (apply W1.idxS; (iterate 3 exact rfl); omega; omega) | (apply W1.slcS; (iterate 4 exact rfl); omega) | (apply W1.pickT; exact rfl; exact rfl; (first | with_reducible rfl | assumption | (simp only [bn]; first | omega | assumption | decide)); exact rfl) | (apply W1.pickF; exact rfl; exact rfl; (first | with_reducible rfl | assumption | (simp only [bn]; first | omega | assumption | decide)); exact rfl) | (apply W1.op; (iterate 3 exact rfl)) | (apply W1.no; exact rfl) | ((first | apply W1.knowT | apply W1.knowFn | apply WQ.knowT | apply WQ.knowFn | apply W.condT); exact rfl; (first | with_reducible rfl | assumption | (simp only [bn]; first | omega | assumption | decide))) | ((first | apply W1.knowTn | apply W1.knowF | apply WQ.knowTn | apply WQ.knowF | apply W.condF); exact rfl; (first | with_reducible rfl | assumption | (simp only [bn]; first | omega | assumption | decide))) | (apply WQ.go; exact rfl; exact rfl) | (apply WQ.no; exact rfl) | ((first | apply W1.bothT | apply W1.bothF | apply WQ.bothT | apply WQ.bothF | apply W.cond); exact rfl; all_goals intro hc; all_goals first | (cases hc; done) | ((try simp only [hc]); (try simp only [bm] at hc))) | refine WO.nil ?_ | refine WB.nil ?_ | refine WP.bag rfl ?_ | refine WP.nil ?_ | refine W.seq ?_ | refine W.reg ?_ | refine W.dreg ?_ | refine W.block ?_ | refine W.ret ?_ | refine W.skip ?_ | refine W.exit ?_ | (simp only [srow_len, List.length_map, Qit, Int.toNat_natCast, entry, Opd.eat, cellsOf, TV.ofCells, allAv, Qseq, Qblk, List.map_cons, List.map_nil, putD, kp, Nat.reduceEqDiff, ↓reduceIte, beq_self_eq_true, Nat.reduceBEq]))
  refine W.listP l (fun i (_ : Unit) s => s.put 7 (.av (.int .i64 (i : Int)))) (fun i _ => ∀ j < i, riseAt l j = true) () (by simp) rfl ?_ ?_
  · intro i x u hx hi hp
    have hsx := sbk_mem (List.mem_of_getElem? hx)
    have hret := hv x (by omega)
    have hgx : l.getD i [] = x := by simp [List.getD, hx]
    by_cases h0 : i = 0
    · subst h0
      repeat' (first | refine WO.cons ?_ | refine WB.cons ?_ | refine WP.one ?_ | (first | (apply WQ.call (hm := hu.modes); (iterate 4 exact rfl)) | (apply W1.callV (hm := hu.modes); (iterate 5 exact rfl); exact (hret); exact rfl)) | ((first | apply W1.add64 | apply W1.sub64); (iterate 3 exact rfl); omega; omega) | (apply W1.iadr; (iterate 3 exact rfl); omega; first | assumption | ((first | apply V.get_row | apply get_srow | apply get_ty | apply get_ar | apply get_ob | apply get_sprow | apply get_brow); assumption)) | (apply W1.idxS; (iterate 3 exact rfl); omega; omega) | (apply W1.slcS; (iterate 4 exact rfl); omega) | (apply W1.pickT; exact rfl; exact rfl; (first | with_reducible rfl | assumption | (simp only [bn]; first | omega | assumption | decide)); exact rfl) | (apply W1.pickF; exact rfl; exact rfl; (first | with_reducible rfl | assumption | (simp only [bn]; first | omega | assumption | decide)); exact rfl) | (apply W1.op; (iterate 3 exact rfl)) | (apply W1.no; exact rfl) | ((first | apply W1.knowT | apply W1.knowFn | apply WQ.knowT | apply WQ.knowFn | apply W.condT); exact rfl; (first | with_reducible rfl | assumption | (simp only [bn]; first | omega | assumption | decide))) | ((first | apply W1.knowTn | apply W1.knowF | apply WQ.knowTn | apply WQ.knowF | apply W.condF); exact rfl; (first | with_reducible rfl | assumption | (simp only [bn]; first | omega | assumption | decide))) | (apply WQ.go; exact rfl; exact rfl) | (apply WQ.no; exact rfl) | ((first | apply W1.bothT | apply W1.bothF | apply WQ.bothT | apply WQ.bothF | apply W.cond); exact rfl; all_goals intro hc; all_goals first | (cases hc; done) | ((try simp only [hc]); (try simp only [bm] at hc))) | refine WO.nil ?_ | refine WB.nil ?_ | refine WP.bag rfl ?_ | refine WP.nil ?_ | refine W.seq ?_ | refine W.reg ?_ | refine W.dreg ?_ | refine W.block ?_ | refine W.ret ?_ | refine W.skip ?_ | refine W.exit ?_ | (simp only [srow_len, List.length_map, Qit, Int.toNat_natCast, entry, Opd.eat, cellsOf, TV.ofCells, allAv, Qseq, Qblk, List.map_cons, List.map_nil, putD, kp, Nat.reduceEqDiff, ↓reduceIte, beq_self_eq_true, Nat.reduceBEq]))
      all_goals clear hret hv
      all_goals first
        | (refine Qend.boo rfl rfl ?_; rw [rise_false hi (by simp_all [riseAt])]; done)
        | (refine ⟨(), fun j hj => ?_, rfl⟩; obtain rfl : j = 0 := by omega
           simp_all [riseAt]; done)
        | (exfalso; omega)
    · obtain ⟨y, hy⟩ : ∃ y, l[i - 1]? = some y := ⟨l[i - 1]'(by omega), List.getElem?_eq_getElem (by omega)⟩
      have hgy : l.getD (i - 1) [] = y := by simp [List.getD, hy]
      have hry : (srow l)[((i : Int) - 1).toNat]? = some [.str y] := by
        have : ((i : Int) - 1).toNat = i - 1 := by omega
        rw [this]; exact get_srow hy
      repeat' (first | refine WO.cons ?_ | refine WB.cons ?_ | refine WP.one ?_ | (first | (apply WQ.call (hm := hu.modes); (iterate 4 exact rfl)) | (apply W1.callV (hm := hu.modes); (iterate 5 exact rfl); exact (hret); exact rfl)) | ((first | apply W1.add64 | apply W1.sub64); (iterate 3 exact rfl); omega; omega) | (apply W1.iadr; (iterate 3 exact rfl); omega; first | assumption | ((first | apply V.get_row | apply get_srow | apply get_ty | apply get_ar | apply get_ob | apply get_sprow | apply get_brow); assumption)) | (apply W1.idxS; (iterate 3 exact rfl); omega; omega) | (apply W1.slcS; (iterate 4 exact rfl); omega) | (apply W1.pickT; exact rfl; exact rfl; (first | with_reducible rfl | assumption | (simp only [bn]; first | omega | assumption | decide)); exact rfl) | (apply W1.pickF; exact rfl; exact rfl; (first | with_reducible rfl | assumption | (simp only [bn]; first | omega | assumption | decide)); exact rfl) | (apply W1.op; (iterate 3 exact rfl)) | (apply W1.no; exact rfl) | ((first | apply W1.knowT | apply W1.knowFn | apply WQ.knowT | apply WQ.knowFn | apply W.condT); exact rfl; (first | with_reducible rfl | assumption | (simp only [bn]; first | omega | assumption | decide))) | ((first | apply W1.knowTn | apply W1.knowF | apply WQ.knowTn | apply WQ.knowF | apply W.condF); exact rfl; (first | with_reducible rfl | assumption | (simp only [bn]; first | omega | assumption | decide))) | (apply WQ.go; exact rfl; exact rfl) | (apply WQ.no; exact rfl) | ((first | apply W1.bothT | apply W1.bothF | apply WQ.bothT | apply WQ.bothF | apply W.cond); exact rfl; all_goals intro hc; all_goals first | (cases hc; done) | ((try simp only [hc]); (try simp only [bm] at hc))) | refine WO.nil ?_ | refine WB.nil ?_ | refine WP.bag rfl ?_ | refine WP.nil ?_ | refine W.seq ?_ | refine W.reg ?_ | refine W.dreg ?_ | refine W.block ?_ | refine W.ret ?_ | refine W.skip ?_ | refine W.exit ?_ | (simp only [srow_len, List.length_map, Qit, Int.toNat_natCast, entry, Opd.eat, cellsOf, TV.ofCells, allAv, Qseq, Qblk, List.map_cons, List.map_nil, putD, kp, Nat.reduceEqDiff, ↓reduceIte, beq_self_eq_true, Nat.reduceBEq]))
      all_goals clear hret hv
      all_goals first
        | (refine Qend.boo rfl rfl ?_; rw [rise_false hi (by simp_all [riseAt])]; done)
        | (refine ⟨(), fun j hj => ?_, rfl⟩
           by_cases hji : j < i
           · exact hp j hji
           · obtain rfl : j = i := by omega
             simp_all [riseAt])
        | (exfalso; omega)
  · intro u hp
    repeat' (first | refine WO.cons ?_ | refine WB.cons ?_ | refine WP.one ?_ | ((first | apply W1.add64 | apply W1.sub64); (iterate 3 exact rfl); omega; omega) | (apply W1.iadr; (iterate 3 exact rfl); omega; first | assumption | ((first | apply V.get_row | apply get_srow | apply get_ty | apply get_ar | apply get_ob | apply get_sprow | apply get_brow); assumption)) | (apply W1.idxS; (iterate 3 exact rfl); omega; omega) | (apply W1.slcS; (iterate 4 exact rfl); omega) | (apply W1.pickT; exact rfl; exact rfl; (first | with_reducible rfl | assumption | (simp only [bn]; first | omega | assumption | decide)); exact rfl) | (apply W1.pickF; exact rfl; exact rfl; (first | with_reducible rfl | assumption | (simp only [bn]; first | omega | assumption | decide)); exact rfl) | (apply W1.op; (iterate 3 exact rfl)) | (apply W1.no; exact rfl) | ((first | apply W1.knowT | apply W1.knowFn | apply WQ.knowT | apply WQ.knowFn | apply W.condT); exact rfl; (first | with_reducible rfl | assumption | (simp only [bn]; first | omega | assumption | decide))) | ((first | apply W1.knowTn | apply W1.knowF | apply WQ.knowTn | apply WQ.knowF | apply W.condF); exact rfl; (first | with_reducible rfl | assumption | (simp only [bn]; first | omega | assumption | decide))) | (apply WQ.go; exact rfl; exact rfl) | (apply WQ.no; exact rfl) | ((first | apply W1.bothT | apply W1.bothF | apply WQ.bothT | apply WQ.bothF | apply W.cond); exact rfl; all_goals intro hc; all_goals first | (cases hc; done) | ((try simp only [hc]); (try simp only [bm] at hc))) | refine WO.nil ?_ | refine WB.nil ?_ | refine WP.bag rfl ?_ | refine WP.nil ?_ | refine W.seq ?_ | refine W.reg ?_ | refine W.dreg ?_ | refine W.block ?_ | refine W.ret ?_ | refine W.skip ?_ | refine W.exit ?_ | (simp only [srow_len, List.length_map, Qit, Int.toNat_natCast, entry, Opd.eat, cellsOf, TV.ofCells, allAv, Qseq, Qblk, List.map_cons, List.map_nil, putD, kp, Nat.reduceEqDiff, ↓reduceIte, beq_self_eq_true, Nat.reduceBEq]))
    refine Qend.boo rfl rfl ?_
    rw [rise_true hp]
theorem vempty_ret (h : Fn T F.value_empty value_empty.fn) (v : V) (a b c d : Bool) : Ret T F.value_empty [.val v.av, .val (.bool a), .val (.bool b), .val (.bool c), .val (.bool d)]
    (one (.bool ((a || v.num == []) && (b || v.text == []) && (c || decide (v.items.length = 0)) && (d || decide (v.keys.length = 0))))) := by
  have e1 := srow_len v.keys
  have e2 : (v.items.map V.row).length = v.items.length := List.length_map ..
  have z : ∀ n : Nat, ((n : Int) == 0) = decide (n = 0) := fun n => by rw [Bool.eq_iff_iff]; simp
  refine Ret.mk h rfl ?_
  rw [V.av_eq]
  repeat' (first | refine WO.cons ?_ | refine WB.cons ?_ | refine WP.one ?_ | ((first | apply W1.add64 | apply W1.sub64); (iterate 3 exact rfl); omega; omega) | (apply W1.iadr; (iterate 3 exact rfl); omega; first | assumption | ((first | apply V.get_row | apply get_srow | apply get_ty | apply get_ar | apply get_ob | apply get_sprow | apply get_brow); assumption)) | (apply W1.idxS; (iterate 3 exact rfl); omega; omega) | (apply W1.slcS; (iterate 4 exact rfl); omega) | (apply W1.pickT; exact rfl; exact rfl; (first | with_reducible rfl | assumption | (simp only [bn]; first | omega | assumption | decide)); exact rfl) | (apply W1.pickF; exact rfl; exact rfl; (first | with_reducible rfl | assumption | (simp only [bn]; first | omega | assumption | decide)); exact rfl) | (apply W1.op; (iterate 3 exact rfl)) | (apply W1.no; exact rfl) | ((first | apply W1.knowT | apply W1.knowFn | apply WQ.knowT | apply WQ.knowFn | apply W.condT); exact rfl; (first | with_reducible rfl | assumption | (simp only [bn]; first | omega | assumption | decide))) | ((first | apply W1.knowTn | apply W1.knowF | apply WQ.knowTn | apply WQ.knowF | apply W.condF); exact rfl; (first | with_reducible rfl | assumption | (simp only [bn]; first | omega | assumption | decide))) | (apply WQ.go; exact rfl; exact rfl) | (apply WQ.no; exact rfl) | ((first | apply W1.bothT | apply W1.bothF | apply WQ.bothT | apply WQ.bothF | apply W.cond); exact rfl; all_goals intro hc; all_goals first | (cases hc; done) | ((try simp only [hc]); (try simp only [bm] at hc))) | refine WO.nil ?_ | refine WB.nil ?_ | refine WP.bag rfl ?_ | refine WP.nil ?_ | refine W.seq ?_ | refine W.reg ?_ | refine W.dreg ?_ | refine W.block ?_ | refine W.ret ?_ | refine W.skip ?_ | refine W.exit ?_ | (simp only [srow_len, List.length_map, Qit, Int.toNat_natCast, entry, Opd.eat, cellsOf, TV.ofCells, allAv, Qseq, Qblk, List.map_cons, List.map_nil, putD, kp, Nat.reduceEqDiff, ↓reduceIte, beq_self_eq_true, Nat.reduceBEq]))
  all_goals refine Qend.boo rfl rfl ?_
  all_goals clear h
  all_goals first | (simp_all; done) | (rw [Bool.eq_iff_iff]; simp_all; done) | (simp_all [z]; done) | (rw [Bool.eq_iff_iff]; simp_all [z]; done)
theorem vformed_eq (k : Int) (n t : Str) (is : List V) (ks : List Str) : formed (.mk k n t is ks) = (decide (0 ≤ k) && decide (k ≤ 6) && (if k = 3 then number n else decide (n = [])) && (if k = 4 then utf t else decide (t = [])) && (decide (5 ≤ k) || decide (is.length = 0)) && (decide (6 ≤ k) || decide (ks.length = 0)) &&
    (decide (k ≠ 6) || (decide (is.length = ks.length) && rise ks)) && is.all formed) := by
  have q : ∀ a b : Nat, (a == b) = decide (b = a) := fun a b => by rw [Bool.eq_iff_iff, beq_iff_eq, decide_eq_true_eq]; exact eq_comm
  simp only [formed, formedAll_eq]
  rw [Bool.eq_iff_iff]
  simp only [Bool.and_eq_true, Bool.or_eq_true, Bool.not_eq_true', Bool.or_eq_false_iff, Bool.and_eq_false_iff, decide_eq_true_eq, decide_eq_false_iff_not, q]
  grind
theorem valueFormed_ret (f : VfFns T) (hv : ValidOk T) : ∀ (v : V), v.bk ≤ 1073741824 → Ret T F.value_Formed [.val v.av] (one (.bool (formed v))) := by
  intro v
  induction v using V.ind with
  | h v ih =>
  intro hb
  have hbk := V.bk_eq v
  have hk := len_sbk v.keys
  have hl := V.len_bks v.items
  have e1 := srow_len v.keys
  have e2 : (v.items.map V.row).length = v.items.length := List.length_map ..
  have z : ∀ n : Nat, ((n : Int) == 0) = decide (n = 0) := fun n => by rw [Bool.eq_iff_iff]; simp
  have r1 := tensFormed_ret f.a7 v.num (by omega)
  have r2 := hv v.text (by omega)
  have r3 := vrise_ret f.a5 f.a6 hv v.keys (by omega)
  have r0 := vempty_ret f.a4 v
  have rc : ∀ x ∈ v.items, Ret T F.value_allFormed_S1 [.val x.av] (one (.bool (!formed x))) := fun x hx => by
    have r := ih x hx (by have := V.bk_item hx; omega)
    refine Ret.mk f.a3 rfl ?_
    rw [V.av_eq] at *
    repeat' (first | refine WO.cons ?_ | refine WB.cons ?_ | refine WP.one ?_ | (first | (apply WQ.call (hm := f.a1.modes); (iterate 4 exact rfl)) | (apply W1.callV (hm := f.a1.modes); (iterate 5 exact rfl); exact (r); exact rfl)) | ((first | apply W1.add64 | apply W1.sub64); (iterate 3 exact rfl); omega; omega) | (apply W1.iadr; (iterate 3 exact rfl); omega; first | assumption | ((first | apply V.get_row | apply get_srow | apply get_ty | apply get_ar | apply get_ob | apply get_sprow | apply get_brow); assumption)) | (apply W1.idxS; (iterate 3 exact rfl); omega; omega) | (apply W1.slcS; (iterate 4 exact rfl); omega) | (apply W1.pickT; exact rfl; exact rfl; (first | with_reducible rfl | assumption | (simp only [bn]; first | omega | assumption | decide)); exact rfl) | (apply W1.pickF; exact rfl; exact rfl; (first | with_reducible rfl | assumption | (simp only [bn]; first | omega | assumption | decide)); exact rfl) | (apply W1.op; (iterate 3 exact rfl)) | (apply W1.no; exact rfl) | ((first | apply W1.knowT | apply W1.knowFn | apply WQ.knowT | apply WQ.knowFn | apply W.condT); exact rfl; (first | with_reducible rfl | assumption | (simp only [bn]; first | omega | assumption | decide))) | ((first | apply W1.knowTn | apply W1.knowF | apply WQ.knowTn | apply WQ.knowF | apply W.condF); exact rfl; (first | with_reducible rfl | assumption | (simp only [bn]; first | omega | assumption | decide))) | (apply WQ.go; exact rfl; exact rfl) | (apply WQ.no; exact rfl) | ((first | apply W1.bothT | apply W1.bothF | apply WQ.bothT | apply WQ.bothF | apply W.cond); exact rfl; all_goals intro hc; all_goals first | (cases hc; done) | ((try simp only [hc]); (try simp only [bm] at hc))) | refine WO.nil ?_ | refine WB.nil ?_ | refine WP.bag rfl ?_ | refine WP.nil ?_ | refine W.seq ?_ | refine W.reg ?_ | refine W.dreg ?_ | refine W.block ?_ | refine W.ret ?_ | refine W.skip ?_ | refine W.exit ?_ | (simp only [srow_len, List.length_map, Qit, Int.toNat_natCast, entry, Opd.eat, cellsOf, TV.ofCells, allAv, Qseq, Qblk, List.map_cons, List.map_nil, putD, kp, Nat.reduceEqDiff, ↓reduceIte, beq_self_eq_true, Nat.reduceBEq]))
    exact Qend.boo rfl rfl rfl
  have r5 := containsFuncV_ret f.a8 f.a9 (p := fun x => !formed x) f.a3.modes v.items (by omega) rc
  have r4 : Ret T F.value_allFormed [.val (.lst 5 (v.items.map V.row))] (one (.bool (v.items.all formed))) := by
    refine Ret.mk f.a2 rfl ?_
    repeat' (first | refine WO.cons ?_ | refine WB.cons ?_ | refine WP.one ?_ | (first | (apply WQ.call (hm := f.a8.modes); (iterate 4 exact rfl)) | (apply W1.callV (hm := f.a8.modes); (iterate 5 exact rfl); exact (r5); exact rfl)) | ((first | apply W1.add64 | apply W1.sub64); (iterate 3 exact rfl); omega; omega) | (apply W1.iadr; (iterate 3 exact rfl); omega; first | assumption | ((first | apply V.get_row | apply get_srow | apply get_ty | apply get_ar | apply get_ob | apply get_sprow | apply get_brow); assumption)) | (apply W1.idxS; (iterate 3 exact rfl); omega; omega) | (apply W1.slcS; (iterate 4 exact rfl); omega) | (apply W1.pickT; exact rfl; exact rfl; (first | with_reducible rfl | assumption | (simp only [bn]; first | omega | assumption | decide)); exact rfl) | (apply W1.pickF; exact rfl; exact rfl; (first | with_reducible rfl | assumption | (simp only [bn]; first | omega | assumption | decide)); exact rfl) | (apply W1.op; (iterate 3 exact rfl)) | (apply W1.no; exact rfl) | ((first | apply W1.knowT | apply W1.knowFn | apply WQ.knowT | apply WQ.knowFn | apply W.condT); exact rfl; (first | with_reducible rfl | assumption | (simp only [bn]; first | omega | assumption | decide))) | ((first | apply W1.knowTn | apply W1.knowF | apply WQ.knowTn | apply WQ.knowF | apply W.condF); exact rfl; (first | with_reducible rfl | assumption | (simp only [bn]; first | omega | assumption | decide))) | (apply WQ.go; exact rfl; exact rfl) | (apply WQ.no; exact rfl) | ((first | apply W1.bothT | apply W1.bothF | apply WQ.bothT | apply WQ.bothF | apply W.cond); exact rfl; all_goals intro hc; all_goals first | (cases hc; done) | ((try simp only [hc]); (try simp only [bm] at hc))) | refine WO.nil ?_ | refine WB.nil ?_ | refine WP.bag rfl ?_ | refine WP.nil ?_ | refine W.seq ?_ | refine W.reg ?_ | refine W.dreg ?_ | refine W.block ?_ | refine W.ret ?_ | refine W.skip ?_ | refine W.exit ?_ | (simp only [srow_len, List.length_map, Qit, Int.toNat_natCast, entry, Opd.eat, cellsOf, TV.ofCells, allAv, Qseq, Qblk, List.map_cons, List.map_nil, putD, kp, Nat.reduceEqDiff, ↓reduceIte, beq_self_eq_true, Nat.reduceBEq]))
    refine Qend.boo rfl rfl ?_
    rw [List.all_eq_not_any_not]
  clear r5 rc ih hv
  refine Ret.mk f.a1 rfl ?_
  obtain ⟨k, n, t, is, ks⟩ := v
  rw [vformed_eq]
  rw [V.av_eq] at *
  simp only [V.kind, V.num, V.text, V.items, V.keys] at *
  repeat' (first | refine WO.cons ?_ | refine WB.cons ?_ | refine WP.one ?_ | (first | (apply WQ.call (hm := f.a4.modes); (iterate 4 exact rfl)) | (apply W1.callV (hm := f.a4.modes); (iterate 5 exact rfl); exact (r0 _ _ _ _); exact rfl)) | (first | (apply WQ.call (hm := f.a7.modes); (iterate 4 exact rfl)) | (apply W1.callV (hm := f.a7.modes); (iterate 5 exact rfl); exact (r1); exact rfl)) | (first | (apply WQ.call (hm := f.a6.modes); (iterate 4 exact rfl)) | (apply W1.callV (hm := f.a6.modes); (iterate 5 exact rfl); exact (r2); exact rfl)) | (first | (apply WQ.call (hm := f.a5.modes); (iterate 4 exact rfl)) | (apply W1.callV (hm := f.a5.modes); (iterate 5 exact rfl); exact (r3); exact rfl)) | (first | (apply WQ.call (hm := f.a2.modes); (iterate 4 exact rfl)) | (apply W1.callV (hm := f.a2.modes); (iterate 5 exact rfl); exact (r4); exact rfl)) | ((first | apply W1.add64 | apply W1.sub64); (iterate 3 exact rfl); omega; omega) | (apply W1.iadr; (iterate 3 exact rfl); omega; first | assumption | ((first | apply V.get_row | apply get_srow | apply get_ty | apply get_ar | apply get_ob | apply get_sprow | apply get_brow); assumption)) | (apply W1.idxS; (iterate 3 exact rfl); omega; omega) | (apply W1.slcS; (iterate 4 exact rfl); omega) | (apply W1.pickT; exact rfl; exact rfl; (first | with_reducible rfl | assumption | (simp only [bn]; first | omega | assumption | decide)); exact rfl) | (apply W1.pickF; exact rfl; exact rfl; (first | with_reducible rfl | assumption | (simp only [bn]; first | omega | assumption | decide)); exact rfl) | (apply W1.op; (iterate 3 exact rfl)) | (apply W1.no; exact rfl) | ((first | apply W1.knowT | apply W1.knowFn | apply WQ.knowT | apply WQ.knowFn | apply W.condT); exact rfl; (first | with_reducible rfl | assumption | (simp only [bn]; first | omega | assumption | decide))) | ((first | apply W1.knowTn | apply W1.knowF | apply WQ.knowTn | apply WQ.knowF | apply W.condF); exact rfl; (first | with_reducible rfl | assumption | (simp only [bn]; first | omega | assumption | decide))) | (apply WQ.go; exact rfl; exact rfl) | (apply WQ.no; exact rfl) | ((first | apply W1.bothT | apply W1.bothF | apply WQ.bothT | apply WQ.bothF | apply W.cond); exact rfl; all_goals intro hc; all_goals first | (cases hc; done) | ((try simp only [hc]); (try simp only [bm] at hc))) | refine WO.nil ?_ | refine WB.nil ?_ | refine WP.bag rfl ?_ | refine WP.nil ?_ | refine W.seq ?_ | refine W.reg ?_ | refine W.dreg ?_ | refine W.block ?_ | refine W.ret ?_ | refine W.skip ?_ | refine W.exit ?_ | (simp only [srow_len, List.length_map, Qit, Int.toNat_natCast, entry, Opd.eat, cellsOf, TV.ofCells, allAv, Qseq, Qblk, List.map_cons, List.map_nil, putD, kp, Nat.reduceEqDiff, ↓reduceIte, beq_self_eq_true, Nat.reduceBEq]))
  all_goals refine Qend.boo rfl rfl ?_
  all_goals clear r0 r1 r2 r3 r4 hb hbk hk hl e1 e2
  all_goals (try simp only [List.length_map, srow_len, Int.natCast_inj] at *)
  all_goals first
    | (simp_all; done)
    | (simp_all; omega)
    | (rw [Bool.eq_iff_iff]; simp_all; done)
    | (rw [Bool.eq_iff_iff]; simp_all; omega)
    | trace_state
end
end Hm

/- Objects as lists of fields in order. Conditions: none (definitions and plain lemmas). -/
namespace Hm
abbrev Fld := Str × V
def insA : List Fld → Str → V → List Fld
  | [], k, x => [(k, x)]
  | f :: r, k, x => if binA.bLess f.1 k = true then f :: insA r k x else if f.1 = k then (k, x) :: r else (k, x) :: f :: r
def lookF : List Fld → Str → Option V
  | [], _ => none
  | f :: r, k => if f.1 = k then some f.2 else lookF r k
def lookLast : List Fld → Str → Option V
  | [], _ => none
  | f :: r, k => (lookLast r k).or (if f.1 = k then some f.2 else none)
def AscF (m : List Fld) : Prop := m.Pairwise fun a b => binA.bLess a.1 b.1 = true
def posF : List Fld → Str → Nat
  | [], _ => 0
  | f :: r, k => if binA.bLess f.1 k = true then posF r k + 1 else 0
def mergeF (a b : List Fld) : List Fld := b.foldl (fun m f => insA m f.1 f.2) a
theorem look_ins (k : Str) (x : V) (k' : Str) : ∀ m : List Fld, lookF (insA m k x) k' = if k' = k then some x else lookF m k'
  | [] => by simp only [insA, lookF, eq_comm]
  | f :: r => by
    have ih := look_ins k x k' r
    simp only [insA]
    by_cases h1 : binA.bLess f.1 k = true
    · have hne : f.1 ≠ k := fun e => by rw [e, bLess_irrefl] at h1; cases h1
      rw [if_pos h1, lookF, lookF, ih]
      by_cases h2 : k' = k
      · subst h2; rw [if_neg hne, if_pos rfl, if_pos rfl]
      · rw [if_neg h2, if_neg h2]
    · rw [if_neg h1]
      by_cases h2 : f.1 = k
      · subst h2
        rw [if_pos rfl, lookF, lookF]
        by_cases h3 : k' = f.1
        · rw [if_pos h3.symm, if_pos h3]
        · rw [if_neg (Ne.symm h3), if_neg h3, if_neg (Ne.symm h3)]
      · rw [if_neg h2, lookF]
        by_cases h3 : k' = k
        · rw [if_pos h3.symm, if_pos h3]
        · rw [if_neg (Ne.symm h3), if_neg h3]
theorem mem_ins {k : Str} {x : V} {f : Fld} : ∀ {m : List Fld}, f ∈ insA m k x → f = (k, x) ∨ f ∈ m
  | [], h => by simpa [insA] using h
  | g :: r, h => by
    simp only [insA] at h
    split at h
    · rcases List.mem_cons.1 h with h | h
      · exact .inr (by simp [h])
      · rcases mem_ins h with h | h
        · exact .inl h
        · exact .inr (List.mem_cons_of_mem _ h)
    · split at h
      · rcases List.mem_cons.1 h with h | h
        · exact .inl h
        · exact .inr (List.mem_cons_of_mem _ h)
      · rcases List.mem_cons.1 h with h | h
        · exact .inl h
        · exact .inr h
theorem asc_ins (k : Str) (x : V) : ∀ {m : List Fld}, AscF m → AscF (insA m k x)
  | [], _ => by simp [insA, AscF]
  | g :: r, h => by
    obtain ⟨h1, h2⟩ := List.pairwise_cons.1 h
    simp only [insA]
    split
    · rename_i hl
      refine List.pairwise_cons.2 ⟨fun f hf => ?_, asc_ins k x h2⟩
      rcases mem_ins hf with rfl | hf
      · exact hl
      · exact h1 f hf
    · split
      · rename_i he
        subst he
        exact List.pairwise_cons.2 ⟨h1, h2⟩
      · rename_i hl he
        have hk : binA.bLess k g.1 = true := by
          rcases bLess_tri g.1 k with h | h | h
          · exact absurd h hl
          · exact absurd h he
          · exact h
        refine List.pairwise_cons.2 ⟨fun f hf => ?_, h⟩
        rcases List.mem_cons.1 hf with rfl | hf
        · exact hk
        · exact bLess_trans _ _ _ hk (h1 f hf)
theorem look_none {m : List Fld} {k : Str} (h : ∀ f ∈ m, binA.bLess k f.1 = true) : lookF m k = none := by
  induction m with
  | nil => rfl
  | cons f r ih =>
    have hne : f.1 ≠ k := fun e => by have := h f (by simp); rw [e, bLess_irrefl] at this; cases this
    rw [lookF, if_neg hne, ih fun g hg => h g (by simp [hg])]
theorem asc_ext : ∀ {m n : List Fld}, AscF m → AscF n → (∀ k, lookF m k = lookF n k) → m = n
  | [], [], _, _, _ => rfl
  | [], g :: s, _, _, h => by have := h g.1; simp [lookF] at this
  | f :: r, [], _, _, h => by have := h f.1; simp [lookF] at this
  | f :: r, g :: s, hm, hn, h => by
    obtain ⟨h1, h2⟩ := List.pairwise_cons.1 hm
    obtain ⟨h3, h4⟩ := List.pairwise_cons.1 hn
    have hk : f.1 = g.1 := by
      rcases bLess_tri f.1 g.1 with hl | hl | hl
      · have e := h f.1
        rw [look_none (m := g :: s) (fun x hx => by
          rcases List.mem_cons.1 hx with rfl | hx
          · exact hl
          · exact bLess_trans _ _ _ hl (h3 x hx))] at e
        simp [lookF] at e
      · exact hl
      · have e := h g.1
        rw [look_none (m := f :: r) (fun x hx => by
          rcases List.mem_cons.1 hx with rfl | hx
          · exact hl
          · exact bLess_trans _ _ _ hl (h1 x hx))] at e
        simp [lookF] at e
    have hv : f.2 = g.2 := by
      have e := h f.1
      rw [lookF, lookF, if_pos rfl, if_pos hk.symm] at e
      exact Option.some.inj e
    have ht : r = s := asc_ext h2 h4 fun k => by
      by_cases hf : f.1 = k
      · subst hf
        rw [look_none h1, look_none (fun x hx => by rw [hk]; exact h3 x hx)]
      · have e := h k
        rw [lookF, lookF, if_neg hf, if_neg (by rw [← hk]; exact hf)] at e
        exact e
    obtain ⟨a, b⟩ := f
    obtain ⟨c, d⟩ := g
    simp only at hk hv
    subst hk; subst hv; subst ht; rfl
theorem asc_merge {b : List Fld} : ∀ {a : List Fld}, AscF a → AscF (mergeF a b) := by
  induction b with
  | nil => intro a h; exact h
  | cons f r ih => intro a h; exact ih (asc_ins _ _ h)
theorem look_merge {b : List Fld} : ∀ (a : List Fld) (k : Str), lookF (mergeF a b) k = (lookLast b k).or (lookF a k) := by
  induction b with
  | nil => intro a k; rfl
  | cons f r ih =>
    intro a k
    show lookF (mergeF (insA a f.1 f.2) r) k = _
    rw [ih, look_ins, lookLast]
    cases lookLast r k with
    | some v => rfl
    | none =>
      simp only [Option.none_or]
      by_cases h : f.1 = k
      · rw [if_pos h, if_pos h.symm]; rfl
      · rw [if_neg h, if_neg (Ne.symm h)]; rfl
theorem lookLast_asc : ∀ {b : List Fld}, AscF b → ∀ k, lookLast b k = lookF b k
  | [], _, _ => rfl
  | f :: r, h, k => by
    obtain ⟨h1, h2⟩ := List.pairwise_cons.1 h
    rw [lookLast, lookF, lookLast_asc h2]
    by_cases hk : f.1 = k
    · subst hk; simp [look_none h1]
    · rw [if_neg hk, if_neg hk]; cases lookF r k <;> rfl
theorem merge_assoc {a b c : List Fld} (ha : AscF a) (hb : AscF b) (hc : AscF c) : mergeF a (mergeF b c) = mergeF (mergeF a b) c :=
  asc_ext (asc_merge ha) (asc_merge (asc_merge ha)) fun k => by
    rw [look_merge, look_merge, look_merge, lookLast_asc (asc_merge hb), look_merge, lookLast_asc hb]
    cases lookLast c k <;> rfl
theorem merge_nil (a : List Fld) : mergeF a [] = a := rfl
theorem nil_merge {a : List Fld} (ha : AscF a) : mergeF [] a = a :=
  asc_ext (asc_merge List.Pairwise.nil) ha fun k => by
    rw [look_merge, lookLast_asc ha]; cases lookF a k <;> rfl
theorem merge_append (a b c : List Fld) : mergeF a (b ++ c) = mergeF (mergeF a b) c := List.foldl_append
theorem posF_le (m : List Fld) (k : Str) : posF m k ≤ m.length := by
  induction m with
  | nil => exact Nat.le_refl _
  | cons f r ih => simp only [posF, List.length_cons]; split <;> omega
theorem posF_spec (k : Str) : ∀ {m : List Fld}, AscF m → ∀ i y, (m.map (·.1))[i]? = some y → (binA.bLess y k = true ↔ i < posF m k)
  | [], _, i, y, h => by simp at h
  | f :: r, hm, i, y, h => by
    obtain ⟨h1, h2⟩ := List.pairwise_cons.1 hm
    simp only [posF]
    by_cases hf : binA.bLess f.1 k = true
    · rw [if_pos hf]
      cases i with
      | zero => simp at h; subst h; simp [hf]
      | succ i =>
        simp only [List.map_cons, List.getElem?_cons_succ] at h
        rw [posF_spec k h2 i y h]; omega
    · rw [if_neg hf]
      refine ⟨fun hy => ?_, fun h => by omega⟩
      cases i with
      | zero => simp at h; subst h; exact absurd hy hf
      | succ i =>
        simp only [List.map_cons, List.getElem?_cons_succ] at h
        obtain ⟨g, hg, rfl⟩ := List.mem_map.1 (List.mem_of_getElem? h)
        exact absurd (bLess_trans _ _ _ (h1 g hg) hy) hf
theorem insA_eq (k : Str) (x : V) : ∀ m : List Fld, insA m k x = if (m.map (·.1))[posF m k]? = some k then m.set (posF m k) (k, x) else m.take (posF m k) ++ (k, x) :: m.drop (posF m k)
  | [] => by simp [insA, posF]
  | f :: r => by
    by_cases h1 : binA.bLess f.1 k = true
    · have hp : posF (f :: r) k = posF r k + 1 := by rw [posF, if_pos h1]
      have ih := insA_eq k x r
      simp only [hp, List.map_cons, List.getElem?_cons_succ, List.set_cons_succ, List.take_succ_cons, List.drop_succ_cons, List.cons_append]
      rw [insA, if_pos h1, ih]
      split <;> rfl
    · have hp : posF (f :: r) k = 0 := by rw [posF, if_neg h1]
      simp only [hp, List.map_cons, List.getElem?_cons_zero, Option.some.injEq, List.set_cons_zero, List.take_zero, List.drop_zero, List.nil_append]
      rw [insA, if_neg h1]
theorem set_keys {m : List Fld} {p : Nat} {k : Str} (x : V) (h : (m.map (·.1))[p]? = some k) : (m.set p (k, x)).map (·.1) = m.map (·.1) := by
  rw [List.map_set]
  exact List.ext_getElem? fun i => by
    rw [List.getElem?_set]
    split
    · rename_i e; subst e; split
      · exact h.symm
      · rename_i hl; rw [List.getElem?_eq_none (by omega)] 
    · rfl
/-- How much a list of fields weighs. -/
def szF : List Fld → Nat
  | [] => 0
  | f :: r => (f.1.length + 1 + f.2.bk) + szF r
theorem sz_ins (k : Str) (x : V) : ∀ m : List Fld, szF (insA m k x) ≤ szF m + (k.length + 1 + x.bk)
  | [] => by simp [insA, szF]
  | f :: r => by
    have ih := sz_ins k x r
    simp only [insA]
    split
    · simp only [szF]; omega
    · split
      · simp only [szF]; omega
      · simp only [szF]; omega
theorem sz_merge (b : List Fld) : ∀ a : List Fld, szF (mergeF a b) ≤ szF a + szF b := by
  induction b with
  | nil => intro a; exact Nat.le_refl _
  | cons f r ih => intro a; have h := ih (insA a f.1 f.2); have := sz_ins f.1 f.2 a; show szF (mergeF (insA a f.1 f.2) r) ≤ _; simp only [szF]; omega
theorem sz_eq (m : List Fld) : szF m = sbk (m.map (·.1)) + V.bks (m.map (·.2)) := by
  induction m with
  | nil => rfl
  | cons f r ih => simp only [szF, List.map_cons, sbk, V.bks, ih]; omega
theorem len_sz (m : List Fld) : m.length ≤ szF m := by
  induction m with
  | nil => exact Nat.le_refl _
  | cons f r ih => simp only [szF, List.length_cons]; omega
theorem szF_take (m : List Fld) (i : Nat) : szF (m.take i) ≤ szF m := by
  induction m generalizing i with
  | nil => simp [szF]
  | cons f r ih =>
    cases i with
    | zero => simp [szF]
    | succ i => simp only [List.take_succ_cons, szF]; have := ih i; omega
theorem szF_mem {m : List Fld} {f : Fld} (h : f ∈ m) : f.1.length + 1 + f.2.bk ≤ szF m := by
  induction m with
  | nil => cases h
  | cons g r ih =>
    simp only [szF]
    rcases List.mem_cons.1 h with rfl | h
    · omega
    · have := ih h; omega
theorem szF_append (a b : List Fld) : szF (a ++ b) = szF a + szF b := by
  induction a with
  | nil => simp [szF]
  | cons f r ih => simp only [List.cons_append, szF, ih]; omega
/-- An object of fields. -/
def objF (m : List Fld) : V := .mk 6 [] [] (m.map (·.2)) (m.map (·.1))
theorem objF_bk (m : List Fld) : (objF m).bk = 5 + szF m := by
  rw [objF, V.bk_eq, sz_eq]; simp only [V.num, V.text, V.items, V.keys, List.length_nil]; omega
theorem mergeF_take_succ {a b : List Fld} {i : Nat} {f : Fld} (h : b[i]? = some f) : mergeF a (b.take (i + 1)) = insA (mergeF a (b.take i)) f.1 f.2 := by
  rw [List.take_add_one, h, merge_append]; rfl
end Hm

/- Whether two values are alike. Conditions: see each theorem. -/
namespace Hm
open Go (IntKind)
set_option maxHeartbeats 4000000
set_option maxRecDepth 4000
noncomputable def sameV (a b : V) : Bool := @decide (a = b) (Classical.propDecidable _)
theorem sameV_self (a : V) : sameV a a = true := by simp [sameV]
theorem sameV_eq {a b : V} (h : sameV a b = true) : a = b := by simpa [sameV] using h
theorem sameV_ne {a b : V} (h : ¬ a = b) : sameV a b = false := by simpa [sameV] using h
theorem likeE_ret {T : Tab} (h : Fn T F.hallmarkref03_Like hallmarkref03_Like.fn) : ∀ (a : V), a.bk ≤ 1073741824 → ∀ b : V, b.bk ≤ 1073741824 → Ret T F.hallmarkref03_Like [.val a.av, .val b.av] (one (.bool (sameV a b))) := by
  intro a
  induction a using V.ind with
  | h a ih =>
  intro hla b hlb
  have k1 := V.bk_eq a
  have k2 := V.bk_eq b
  have n1 := len_sbk a.keys
  have n2 := len_sbk b.keys
  have n3 := V.len_bks a.items
  have n4 := V.len_bks b.items
  have e1 := srow_len a.keys
  have e2 := srow_len b.keys
  have e3 : (a.items.map V.row).length = a.items.length := List.length_map ..
  have e4 : (b.items.map V.row).length = b.items.length := List.length_map ..
  have ih' : ∀ x ∈ a.items, ∀ y ∈ b.items, Ret T F.hallmarkref03_Like [.val x.av, .val y.av] (one (.bool (sameV x y))) := fun x hx y hy =>
    ih x hx (by have := V.bk_item hx; omega) y (by have := V.bk_item hy; omega)
  have hs := sameV_self a
  have no : ∀ {p : Prop}, (a = b → ¬ p) → p → (false = sameV a b) := fun hp h => (sameV_ne fun h0 => hp h0 h).symm
  refine Ret.mk h rfl ?_
  clear ih
  obtain ⟨k, n, t, is, ks⟩ := a
  obtain ⟨k', n', t', is', ks'⟩ := b
  rw [V.av_eq, V.av_eq]
  simp only [V.kind, V.num, V.text, V.items, V.keys] at *
  have key : k = k' → n = n' → t = t' → ks.length = ks'.length → is.length = is'.length → W T (.block 0 (.loop [2, 3, 5] hallmarkref03_Like.l1))
      ⟨lstE [(2, .plc ⟨.box 2, [], 0⟩), (3, .plc ⟨.box 3, [], 0⟩), (5, .av (.int .i64 0))], lstB [(2, some [.av (.int .i64 k), .av (.str n), .av (.str t), .av (.lst 5 (is.map V.row)), .av (.lst 1 (srow ks))]), (3, some [.av (.int .i64 k'), .av (.str n'), .av (.str t'), .av (.lst 5 (is'.map V.row)), .av (.lst 1 (srow ks'))]), (5, none)]⟩
      (Qseq T (.seq (.seq (.reg hallmarkref03_Like.r8 [2, 3, 6]) (.block 2 (.loop [2, 3, 6] hallmarkref03_Like.l2))) (.seq (.reg hallmarkref03_Like.r13 [4]) (.ret)))
        (Qend hallmarkref03_Like.fn [.val (.agg [.int .i64 k, .str n, .str t, .lst 5 (is.map V.row), .lst 1 (srow ks)]), .val (.agg [.int .i64 k', .str n', .str t', .lst 5 (is'.map V.row), .lst 1 (srow ks')])] (one (.bool (sameV (V.mk k n t is ks) (V.mk k' n' t' is' ks')))))) := by
    intro q1 q2 q3 q4 q5
    subst q1; subst q2; subst q3
    refine W.block ?_
    refine W.listP ks (fun i (_ : Unit) s => s.put 5 (.av (.int .i64 (i : Int)))) (fun i _ => ks.take i = ks'.take i) () rfl rfl ?_ ?_
    · intro i x u hx hi hp
      obtain ⟨y, hy⟩ : ∃ y, ks'[i]? = some y := ⟨ks'[i]'(by omega), List.getElem?_eq_getElem (by omega)⟩
      have hxy : x = y → ks.take (i + 1) = ks'.take (i + 1) := fun e => by rw [List.take_add_one, List.take_add_one, hp, hx, hy, e]
      repeat' (first | refine WO.cons ?_ | refine WB.cons ?_ | refine WP.one ?_ | ((first | apply W1.add64 | apply W1.sub64); (iterate 3 exact rfl); omega; omega) | (apply W1.iadr; (iterate 3 exact rfl); omega; first | assumption | ((first | apply V.get_row | apply get_srow | apply get_ty | apply get_ar | apply get_ob | apply get_sprow | apply get_brow); assumption)) | (apply W1.idxS; (iterate 3 exact rfl); omega; omega) | (apply W1.slcS; (iterate 4 exact rfl); omega) | (apply W1.pickT; exact rfl; exact rfl; (first | with_reducible rfl | assumption | (simp only [bn]; first | omega | assumption | decide)); exact rfl) | (apply W1.pickF; exact rfl; exact rfl; (first | with_reducible rfl | assumption | (simp only [bn]; first | omega | assumption | decide)); exact rfl) | (apply W1.op; (iterate 3 exact rfl)) | (apply W1.no; exact rfl) | ((first | apply W1.knowT | apply W1.knowFn | apply WQ.knowT | apply WQ.knowFn | apply W.condT); exact rfl; (first | with_reducible rfl | assumption | (simp only [bn]; first | omega | assumption | decide))) | ((first | apply W1.knowTn | apply W1.knowF | apply WQ.knowTn | apply WQ.knowF | apply W.condF); exact rfl; (first | with_reducible rfl | assumption | (simp only [bn]; first | omega | assumption | decide))) | (apply WQ.go; exact rfl; exact rfl) | (apply WQ.no; exact rfl) | ((first | apply W1.bothT | apply W1.bothF | apply WQ.bothT | apply WQ.bothF | apply W.cond); exact rfl; all_goals intro hc; all_goals first | (cases hc; done) | ((try simp only [hc]); (try simp only [bm] at hc))) | refine WO.nil ?_ | refine WB.nil ?_ | refine WP.bag rfl ?_ | refine WP.nil ?_ | refine W.seq ?_ | refine W.reg ?_ | refine W.dreg ?_ | refine W.block ?_ | refine W.ret ?_ | refine W.skip ?_ | refine W.exit ?_ | (simp only [srow_len, List.length_map, Qit, Int.toNat_natCast, entry, Opd.eat, cellsOf, TV.ofCells, allAv, Qseq, Qblk, List.map_cons, List.map_nil, putD, kp, Nat.reduceEqDiff, ↓reduceIte, beq_self_eq_true, Nat.reduceBEq]))
      · refine Qend.boo rfl rfl (no (p := x ≠ y) (fun e hne => ?_) (by simp_all))
        cases e; rw [hx] at hy; cases hy; exact hne rfl
      · exact ⟨(), hxy (by simp_all), rfl⟩
    · intro u hp
      rw [List.take_length, q4, List.take_length] at hp
      subst hp
      repeat' (first | refine WO.cons ?_ | refine WB.cons ?_ | refine WP.one ?_ | ((first | apply W1.add64 | apply W1.sub64); (iterate 3 exact rfl); omega; omega) | (apply W1.iadr; (iterate 3 exact rfl); omega; first | assumption | ((first | apply V.get_row | apply get_srow | apply get_ty | apply get_ar | apply get_ob | apply get_sprow | apply get_brow); assumption)) | (apply W1.idxS; (iterate 3 exact rfl); omega; omega) | (apply W1.slcS; (iterate 4 exact rfl); omega) | (apply W1.pickT; exact rfl; exact rfl; (first | with_reducible rfl | assumption | (simp only [bn]; first | omega | assumption | decide)); exact rfl) | (apply W1.pickF; exact rfl; exact rfl; (first | with_reducible rfl | assumption | (simp only [bn]; first | omega | assumption | decide)); exact rfl) | (apply W1.op; (iterate 3 exact rfl)) | (apply W1.no; exact rfl) | ((first | apply W1.knowT | apply W1.knowFn | apply WQ.knowT | apply WQ.knowFn | apply W.condT); exact rfl; (first | with_reducible rfl | assumption | (simp only [bn]; first | omega | assumption | decide))) | ((first | apply W1.knowTn | apply W1.knowF | apply WQ.knowTn | apply WQ.knowF | apply W.condF); exact rfl; (first | with_reducible rfl | assumption | (simp only [bn]; first | omega | assumption | decide))) | (apply WQ.go; exact rfl; exact rfl) | (apply WQ.no; exact rfl) | ((first | apply W1.bothT | apply W1.bothF | apply WQ.bothT | apply WQ.bothF | apply W.cond); exact rfl; all_goals intro hc; all_goals first | (cases hc; done) | ((try simp only [hc]); (try simp only [bm] at hc))) | refine WO.nil ?_ | refine WB.nil ?_ | refine WP.bag rfl ?_ | refine WP.nil ?_ | refine W.seq ?_ | refine W.reg ?_ | refine W.dreg ?_ | refine W.block ?_ | refine W.ret ?_ | refine W.skip ?_ | refine W.exit ?_ | (simp only [srow_len, List.length_map, Qit, Int.toNat_natCast, entry, Opd.eat, cellsOf, TV.ofCells, allAv, Qseq, Qblk, List.map_cons, List.map_nil, putD, kp, Nat.reduceEqDiff, ↓reduceIte, beq_self_eq_true, Nat.reduceBEq]))
      refine W.listP is (fun i (_ : Unit) s => s.put 6 (.av (.int .i64 (i : Int)))) (fun i _ => is.take i = is'.take i) () rfl rfl ?_ ?_
      · intro i x u hx hi hp
        obtain ⟨y, hy⟩ : ∃ y, is'[i]? = some y := ⟨is'[i]'(by omega), List.getElem?_eq_getElem (by omega)⟩
        have r := ih' x (List.mem_of_getElem? hx) y (List.mem_of_getElem? hy)
        have hxy : x = y → is.take (i + 1) = is'.take (i + 1) := fun e => by rw [List.take_add_one, List.take_add_one, hp, hx, hy, e]
        have hvx := sameV_self x
        have hvz := fun h => sameV_eq (a := x) (b := y) h
        rw [V.av_eq, V.av_eq] at r
        repeat' (first | refine WO.cons ?_ | refine WB.cons ?_ | refine WP.one ?_ | (first | (apply WQ.call (hm := h.modes); (iterate 4 exact rfl)) | (apply W1.callV (hm := h.modes); (iterate 5 exact rfl); exact (r); exact rfl)) | ((first | apply W1.add64 | apply W1.sub64); (iterate 3 exact rfl); omega; omega) | (apply W1.iadr; (iterate 3 exact rfl); omega; first | assumption | ((first | apply V.get_row | apply get_srow | apply get_ty | apply get_ar | apply get_ob | apply get_sprow | apply get_brow); assumption)) | (apply W1.idxS; (iterate 3 exact rfl); omega; omega) | (apply W1.slcS; (iterate 4 exact rfl); omega) | (apply W1.pickT; exact rfl; exact rfl; (first | with_reducible rfl | assumption | (simp only [bn]; first | omega | assumption | decide)); exact rfl) | (apply W1.pickF; exact rfl; exact rfl; (first | with_reducible rfl | assumption | (simp only [bn]; first | omega | assumption | decide)); exact rfl) | (apply W1.op; (iterate 3 exact rfl)) | (apply W1.no; exact rfl) | ((first | apply W1.knowT | apply W1.knowFn | apply WQ.knowT | apply WQ.knowFn | apply W.condT); exact rfl; (first | with_reducible rfl | assumption | (simp only [bn]; first | omega | assumption | decide))) | ((first | apply W1.knowTn | apply W1.knowF | apply WQ.knowTn | apply WQ.knowF | apply W.condF); exact rfl; (first | with_reducible rfl | assumption | (simp only [bn]; first | omega | assumption | decide))) | (apply WQ.go; exact rfl; exact rfl) | (apply WQ.no; exact rfl) | ((first | apply W1.bothT | apply W1.bothF | apply WQ.bothT | apply WQ.bothF | apply W.cond); exact rfl; all_goals intro hc; all_goals first | (cases hc; done) | ((try simp only [hc]); (try simp only [bm] at hc))) | refine WO.nil ?_ | refine WB.nil ?_ | refine WP.bag rfl ?_ | refine WP.nil ?_ | refine W.seq ?_ | refine W.reg ?_ | refine W.dreg ?_ | refine W.block ?_ | refine W.ret ?_ | refine W.skip ?_ | refine W.exit ?_ | (simp only [srow_len, List.length_map, Qit, Int.toNat_natCast, entry, Opd.eat, cellsOf, TV.ofCells, allAv, Qseq, Qblk, List.map_cons, List.map_nil, putD, kp, Nat.reduceEqDiff, ↓reduceIte, beq_self_eq_true, Nat.reduceBEq]))
        · refine Qend.boo rfl rfl (no (p := sameV x y = false) (fun e hne => ?_) (by simp_all))
          cases e; rw [hx] at hy; cases hy; rw [hvx] at hne; cases hne
        · exact ⟨(), hxy (hvz (by simp_all)), rfl⟩
      · intro u hp
        rw [List.take_length, q5, List.take_length] at hp
        subst hp
        repeat' (first | refine WO.cons ?_ | refine WB.cons ?_ | refine WP.one ?_ | ((first | apply W1.add64 | apply W1.sub64); (iterate 3 exact rfl); omega; omega) | (apply W1.iadr; (iterate 3 exact rfl); omega; first | assumption | ((first | apply V.get_row | apply get_srow | apply get_ty | apply get_ar | apply get_ob | apply get_sprow | apply get_brow); assumption)) | (apply W1.idxS; (iterate 3 exact rfl); omega; omega) | (apply W1.slcS; (iterate 4 exact rfl); omega) | (apply W1.pickT; exact rfl; exact rfl; (first | with_reducible rfl | assumption | (simp only [bn]; first | omega | assumption | decide)); exact rfl) | (apply W1.pickF; exact rfl; exact rfl; (first | with_reducible rfl | assumption | (simp only [bn]; first | omega | assumption | decide)); exact rfl) | (apply W1.op; (iterate 3 exact rfl)) | (apply W1.no; exact rfl) | ((first | apply W1.knowT | apply W1.knowFn | apply WQ.knowT | apply WQ.knowFn | apply W.condT); exact rfl; (first | with_reducible rfl | assumption | (simp only [bn]; first | omega | assumption | decide))) | ((first | apply W1.knowTn | apply W1.knowF | apply WQ.knowTn | apply WQ.knowF | apply W.condF); exact rfl; (first | with_reducible rfl | assumption | (simp only [bn]; first | omega | assumption | decide))) | (apply WQ.go; exact rfl; exact rfl) | (apply WQ.no; exact rfl) | ((first | apply W1.bothT | apply W1.bothF | apply WQ.bothT | apply WQ.bothF | apply W.cond); exact rfl; all_goals intro hc; all_goals first | (cases hc; done) | ((try simp only [hc]); (try simp only [bm] at hc))) | refine WO.nil ?_ | refine WB.nil ?_ | refine WP.bag rfl ?_ | refine WP.nil ?_ | refine W.seq ?_ | refine W.reg ?_ | refine W.dreg ?_ | refine W.block ?_ | refine W.ret ?_ | refine W.skip ?_ | refine W.exit ?_ | (simp only [srow_len, List.length_map, Qit, Int.toNat_natCast, entry, Opd.eat, cellsOf, TV.ofCells, allAv, Qseq, Qblk, List.map_cons, List.map_nil, putD, kp, Nat.reduceEqDiff, ↓reduceIte, beq_self_eq_true, Nat.reduceBEq]))
        exact Qend.boo rfl rfl (by simp [hs])
  repeat' (first | refine WO.cons ?_ | refine WB.cons ?_ | refine WP.one ?_ | (refine key ?_ ?_ ?_ ?_ ?_) | ((first | apply W1.add64 | apply W1.sub64); (iterate 3 exact rfl); omega; omega) | (apply W1.iadr; (iterate 3 exact rfl); omega; first | assumption | ((first | apply V.get_row | apply get_srow | apply get_ty | apply get_ar | apply get_ob | apply get_sprow | apply get_brow); assumption)) | (apply W1.idxS; (iterate 3 exact rfl); omega; omega) | (apply W1.slcS; (iterate 4 exact rfl); omega) | (apply W1.pickT; exact rfl; exact rfl; (first | with_reducible rfl | assumption | (simp only [bn]; first | omega | assumption | decide)); exact rfl) | (apply W1.pickF; exact rfl; exact rfl; (first | with_reducible rfl | assumption | (simp only [bn]; first | omega | assumption | decide)); exact rfl) | (apply W1.op; (iterate 3 exact rfl)) | (apply W1.no; exact rfl) | ((first | apply W1.knowT | apply W1.knowFn | apply WQ.knowT | apply WQ.knowFn | apply W.condT); exact rfl; (first | with_reducible rfl | assumption | (simp only [bn]; first | omega | assumption | decide))) | ((first | apply W1.knowTn | apply W1.knowF | apply WQ.knowTn | apply WQ.knowF | apply W.condF); exact rfl; (first | with_reducible rfl | assumption | (simp only [bn]; first | omega | assumption | decide))) | (apply WQ.go; exact rfl; exact rfl) | (apply WQ.no; exact rfl) | ((first | apply W1.bothT | apply W1.bothF | apply WQ.bothT | apply WQ.bothF | apply W.cond); exact rfl; all_goals intro hc; all_goals first | (cases hc; done) | ((try simp only [hc]); (try simp only [bm] at hc))) | refine WO.nil ?_ | refine WB.nil ?_ | refine WP.bag rfl ?_ | refine WP.nil ?_ | refine W.seq ?_ | refine W.reg ?_ | refine W.dreg ?_ | refine W.block ?_ | refine W.ret ?_ | refine W.skip ?_ | refine W.exit ?_ | (simp only [srow_len, List.length_map, Qit, Int.toNat_natCast, entry, Opd.eat, cellsOf, TV.ofCells, allAv, Qseq, Qblk, List.map_cons, List.map_nil, putD, kp, Nat.reduceEqDiff, ↓reduceIte, beq_self_eq_true, Nat.reduceBEq]))
  all_goals first
    | assumption
    | omega
    | (show (_ : Str) = _; simp_all; done)
    | skip
  all_goals refine Qend.boo rfl rfl ?_
  all_goals refine (sameV_ne ?_).symm
  all_goals intro e
  all_goals simp only [V.mk.injEq] at e
  all_goals obtain ⟨q1, q2, q3, q4, q5⟩ := e
  all_goals first
    | contradiction
    | (rw [q4] at *; simp_all; done)
    | (rw [q5] at *; simp_all; done)
end Hm

/- Values in memory of their own. Conditions: see each theorem. -/
namespace Hm
open Go (IntKind)
set_option maxHeartbeats 4000000
set_option maxRecDepth 4000
def crow (l : List (List AV)) : List (List Cell) := l.map fun r => r.map .av
mutual
def twC : V → List Cell
  | .mk k n t is ks => [.av (.int .i64 k), .av (.str n), .av (.str t), .own 5 (twCs is), .own 1 (crow (srow ks))]
def twCs : List V → List (List Cell)
  | [] => []
  | v :: r => twC v :: twCs r
end
theorem twCs_eq (l : List V) : twCs l = l.map twC := by
  induction l with
  | nil => rfl
  | cons x l ih => simp only [twCs, List.map_cons, ih]
theorem twC_eq (v : V) : twC v = [.av (.int .i64 v.kind), .av (.str v.num), .av (.str v.text), .own 5 (v.items.map twC), .own 1 (crow (srow v.keys))] := by
  cases v with
  | mk k n t is ks => simp only [twC, V.kind, V.num, V.text, V.items, V.keys, twCs_eq]
theorem sealRow_av (r : List AV) : sealRow (r.map .av) = r := by
  induction r with
  | nil => rfl
  | cons x r ih => simp only [List.map_cons, sealRow, Cell.shut, ih]
theorem seal_crow (l : List (List AV)) : sealRows (crow l) = l := by
  induction l with
  | nil => rfl
  | cons x r ih => simp only [crow, List.map_cons, sealRows, sealRow_av] at *; rw [ih]
theorem sealRows_len (l : List (List Cell)) : (sealRows l).length = l.length := by
  induction l with
  | nil => rfl
  | cons x r ih => simp only [sealRows, List.length_cons, ih]
theorem sealRows_mp (l : List (List Cell)) : sealRows l = l.map sealRow := by
  induction l with
  | nil => rfl
  | cons x r ih => simp only [sealRows, List.map_cons, ih]
theorem seal_twC (v : V) : sealRow (twC v) = v.row := by
  induction v using V.ind with
  | h v ih =>
  rw [twC_eq, V.row_eq]
  have : sealRows (v.items.map twC) = v.items.map V.row := by
    generalize v.items = l at ih
    induction l with
    | nil => rfl
    | cons x r ih2 => simp only [List.map_cons, sealRows, ih x (by simp), ih2 (fun y hy => ih y (by simp [hy]))]
  simp only [sealRow, Cell.shut, this, seal_crow]
theorem seal_twCs (l : List V) : sealRows (l.map twC) = l.map V.row := by
  induction l with
  | nil => rfl
  | cons x r ih2 => simp only [List.map_cons, sealRows, seal_twC, ih2]
theorem crow_len (l : List (List AV)) : (crow l).length = l.length := by simp [crow]
/-- What Twin reaches. -/
structure TwFns (T : Tab) : Prop where
  a1 : Fn T F.value_Twin value_Twin.fn
  m1 : T.modes F.slices_Clone_Lstring_string = [.val]
  p1 : T.prim F.slices_Clone_Lstring_string = some (pClone 1)
  m2 : T.modes F.slices_Clone_LValue_Value = [.val]
  p2 : T.prim F.slices_Clone_LValue_Value = some (pClone 5)
theorem clone_prim {T : Tab} {f k : Nat} (hp : T.prim f = some (pClone k)) (rows : List (List AV)) (hl : rows.length ≤ limit) : Ret T f [.val (.lst k rows)] ⟨[([.own k (crow rows)], false)], []⟩ :=
  Ret.prim hp (by simp only [pClone]; rw [if_pos ⟨trivial, hl⟩]; rfl)
/-- The list of items while it is gone through. -/
def twR (l : List V) (i : Nat) : List (List Cell) := (l.take i).map twC ++ crow ((l.drop i).map V.row)
theorem twR_len (l : List V) (i : Nat) : (twR l i).length = l.length := by simp [twR, crow]; omega
theorem twR_get {l : List V} {i : Nat} {x : V} (h : l[i]? = some x) : (twR l i)[i]? = some (x.row.map .av) := by
  have hl : i < l.length := (List.getElem?_eq_some_iff.1 h).1
  rw [twR, crow, List.getElem?_append_right (by simp; omega), List.getElem?_map, List.getElem?_map, List.getElem?_drop, List.length_map, List.length_take, Nat.min_eq_left (by omega)]
  simp [h]
theorem twR_set {l : List V} {i : Nat} {x : V} (h : l[i]? = some x) : (twR l i).set i (twC x) = twR l (i + 1) := by
  have hl : i < l.length := (List.getElem?_eq_some_iff.1 h).1
  have e1 : ((l.take i).map twC).length = i := by rw [List.length_map, List.length_take]; omega
  rw [List.getElem?_eq_getElem hl] at h
  rw [twR, twR, crow, crow, List.set_append_right _ _ (by omega), e1, Nat.sub_self, List.drop_eq_getElem_cons hl, List.map_cons, List.map_cons, List.set_cons_zero, List.take_succ_eq_append_getElem hl, List.map_append, List.append_assoc]
  simp at h
  simp [h]
theorem twR_all (l : List V) : twR l l.length = l.map twC := by simp [twR, crow]
theorem valueTwin_ret {T : Tab} (f : TwFns T) : ∀ v : V, v.bk ≤ 1073741824 → Ret T F.value_Twin [.val v.av] ⟨[(twC v, true)], []⟩ := by
  intro v
  induction v using V.ind with
  | h v ih =>
  intro hb
  have hbk := V.bk_eq v
  have hk := len_sbk v.keys
  have hl := V.len_bks v.items
  have c1 := clone_prim f.p1 (srow v.keys) (by rw [srow_len]; show _ ≤ 4294967296; omega)
  have c2 := clone_prim f.p2 (v.items.map V.row) (by rw [List.length_map]; show _ ≤ 4294967296; omega)
  have lr := sealRows_len (crow (v.items.map V.row))
  rw [crow_len, List.length_map] at lr
  refine Ret.mk f.a1 rfl ?_
  rw [V.av_eq, twC_eq]
  repeat' (first | refine WO.cons ?_ | refine WB.cons ?_ | refine WP.one ?_ | (first | (apply WQ.call (hm := f.m1); (iterate 4 exact rfl)) | (apply W1.callV (hm := f.m1); (iterate 5 exact rfl); exact (c1); exact rfl)) | (first | (apply WQ.call (hm := f.m2); (iterate 4 exact rfl)) | (apply W1.callV (hm := f.m2); (iterate 5 exact rfl); exact (c2); exact rfl)) | ((first | apply W1.add64 | apply W1.sub64); (iterate 3 exact rfl); omega; omega) | (apply W1.iadr; (iterate 3 exact rfl); omega; first | assumption | ((first | apply V.get_row | apply get_srow | apply get_ty | apply get_ar | apply get_ob | apply get_sprow | apply get_brow); assumption)) | (apply W1.idxS; (iterate 3 exact rfl); omega; omega) | (apply W1.slcS; (iterate 4 exact rfl); omega) | (apply W1.pickT; exact rfl; exact rfl; (first | with_reducible rfl | assumption | (simp only [bn]; first | omega | assumption | decide)); exact rfl) | (apply W1.pickF; exact rfl; exact rfl; (first | with_reducible rfl | assumption | (simp only [bn]; first | omega | assumption | decide)); exact rfl) | (apply W1.op; (iterate 3 exact rfl)) | (apply W1.no; exact rfl) | ((first | apply W1.knowT | apply W1.knowFn | apply WQ.knowT | apply WQ.knowFn | apply W.condT); exact rfl; (first | with_reducible rfl | assumption | (simp only [bn]; first | omega | assumption | decide))) | ((first | apply W1.knowTn | apply W1.knowF | apply WQ.knowTn | apply WQ.knowF | apply W.condF); exact rfl; (first | with_reducible rfl | assumption | (simp only [bn]; first | omega | assumption | decide))) | (apply WQ.go; exact rfl; exact rfl) | (apply WQ.no; exact rfl) | ((first | apply W1.bothT | apply W1.bothF | apply WQ.bothT | apply WQ.bothF | apply W.cond); exact rfl; all_goals intro hc; all_goals first | (cases hc; done) | ((try simp only [hc]); (try simp only [bm] at hc))) | refine WO.nil ?_ | refine WB.nil ?_ | refine WP.bag rfl ?_ | refine WP.nil ?_ | refine W.seq ?_ | refine W.reg ?_ | refine W.dreg ?_ | refine W.block ?_ | refine W.ret ?_ | refine W.skip ?_ | refine W.exit ?_ | (simp only [srow_len, List.length_map, Qit, Int.toNat_natCast, entry, Opd.eat, cellsOf, TV.ofCells, allAv, Qseq, Qblk, List.map_cons, List.map_nil, putD, kp, Nat.reduceEqDiff, ↓reduceIte, beq_self_eq_true, Nat.reduceBEq]))
  refine W.list v.items (fun i (_ : Unit) => ⟨lstE [(1, .plc ⟨.box 1, [], 0⟩), (2, .plc ⟨.box 2, [], 0⟩), (14, .av (.int .i64 ((sealRows (crow (v.items.map V.row))).length : Nat))), (15, .av (.int .i64 (i : Int)))],
    lstB [(1, some [.av (.int .i64 v.kind), .av (.str v.num), .av (.str v.text), .own 5 (twR v.items i), .own 1 (crow (srow v.keys))]), (2, some [.av (.int .i64 0), .av (.str []), .av (.str []), .own 5 [], .own 1 []]), (14, none), (15, none)]⟩) (fun _ _ => True) () rfl trivial ?_ ?_
  · intro i x u hx hi _
    have r := ih x (List.mem_of_getElem? hx) (by have := V.bk_item (List.mem_of_getElem? hx); omega)
    have g1 := twR_len v.items i
    have g2 := twR_get hx
    have g3 := twR_set hx
    have g4 : (x.row.map Cell.av).length = 5 := by rw [V.row_eq]; rfl
    have g5 : x.row.length = 5 := by rw [V.row_eq]; rfl
    rw [twC_eq] at r g3
    repeat' (first | refine WO.cons ?_ | refine WB.cons ?_ | refine WP.one ?_ | ((apply W1.iadrO; exact rfl; exact rfl; exact rfl; exact rfl; exact rfl; omega; (rw [g1]; omega))) | ((apply W1.loadP (vs := x.row); exact rfl; exact rfl; exact rfl; exact rfl; exact g2; exact g5)) | ((apply W1.storeP (cs' := [.av (.int .i64 v.kind), .av (.str v.num), .av (.str v.text), .own 5 (twR v.items (i + 1)), .own 1 (crow (srow v.keys))]); exact rfl; exact rfl; exact rfl; exact rfl; exact rfl; exact g2; exact rfl; exact g4; (rw [← g3]; rfl))) | (first | (apply WQ.call (hm := f.a1.modes); (iterate 4 exact rfl)) | (apply W1.callV (hm := f.a1.modes); (iterate 5 exact rfl); exact (r); exact rfl)) | ((first | apply W1.add64 | apply W1.sub64); (iterate 3 exact rfl); omega; omega) | (apply W1.iadr; (iterate 3 exact rfl); omega; first | assumption | ((first | apply V.get_row | apply get_srow | apply get_ty | apply get_ar | apply get_ob | apply get_sprow | apply get_brow); assumption)) | (apply W1.idxS; (iterate 3 exact rfl); omega; omega) | (apply W1.slcS; (iterate 4 exact rfl); omega) | (apply W1.pickT; exact rfl; exact rfl; (first | with_reducible rfl | assumption | (simp only [bn]; first | omega | assumption | decide)); exact rfl) | (apply W1.pickF; exact rfl; exact rfl; (first | with_reducible rfl | assumption | (simp only [bn]; first | omega | assumption | decide)); exact rfl) | (apply W1.op; (iterate 3 exact rfl)) | (apply W1.no; exact rfl) | ((first | apply W1.knowT | apply W1.knowFn | apply WQ.knowT | apply WQ.knowFn | apply W.condT); exact rfl; (first | with_reducible rfl | assumption | (simp only [bn]; first | omega | assumption | decide))) | ((first | apply W1.knowTn | apply W1.knowF | apply WQ.knowTn | apply WQ.knowF | apply W.condF); exact rfl; (first | with_reducible rfl | assumption | (simp only [bn]; first | omega | assumption | decide))) | (apply WQ.go; exact rfl; exact rfl) | (apply WQ.no; exact rfl) | ((first | apply W1.bothT | apply W1.bothF | apply WQ.bothT | apply WQ.bothF | apply W.cond); exact rfl; all_goals intro hc; all_goals first | (cases hc; done) | ((try simp only [hc]); (try simp only [bm] at hc))) | refine WO.nil ?_ | refine WB.nil ?_ | refine WP.bag rfl ?_ | refine WP.nil ?_ | refine W.seq ?_ | refine W.reg ?_ | refine W.dreg ?_ | refine W.block ?_ | refine W.ret ?_ | refine W.skip ?_ | refine W.exit ?_ | (simp only [srow_len, List.length_map, Qit, Int.toNat_natCast, entry, Opd.eat, cellsOf, TV.ofCells, allAv, Qseq, Qblk, List.map_cons, List.map_nil, putD, kp, Nat.reduceEqDiff, ↓reduceIte, beq_self_eq_true, Nat.reduceBEq]))
    exact ⟨(), trivial, rfl⟩
  · intro u _
    repeat' (first | refine WO.cons ?_ | refine WB.cons ?_ | refine WP.one ?_ | ((first | apply W1.add64 | apply W1.sub64); (iterate 3 exact rfl); omega; omega) | (apply W1.iadr; (iterate 3 exact rfl); omega; first | assumption | ((first | apply V.get_row | apply get_srow | apply get_ty | apply get_ar | apply get_ob | apply get_sprow | apply get_brow); assumption)) | (apply W1.idxS; (iterate 3 exact rfl); omega; omega) | (apply W1.slcS; (iterate 4 exact rfl); omega) | (apply W1.pickT; exact rfl; exact rfl; (first | with_reducible rfl | assumption | (simp only [bn]; first | omega | assumption | decide)); exact rfl) | (apply W1.pickF; exact rfl; exact rfl; (first | with_reducible rfl | assumption | (simp only [bn]; first | omega | assumption | decide)); exact rfl) | (apply W1.op; (iterate 3 exact rfl)) | (apply W1.no; exact rfl) | ((first | apply W1.knowT | apply W1.knowFn | apply WQ.knowT | apply WQ.knowFn | apply W.condT); exact rfl; (first | with_reducible rfl | assumption | (simp only [bn]; first | omega | assumption | decide))) | ((first | apply W1.knowTn | apply W1.knowF | apply WQ.knowTn | apply WQ.knowF | apply W.condF); exact rfl; (first | with_reducible rfl | assumption | (simp only [bn]; first | omega | assumption | decide))) | (apply WQ.go; exact rfl; exact rfl) | (apply WQ.no; exact rfl) | ((first | apply W1.bothT | apply W1.bothF | apply WQ.bothT | apply WQ.bothF | apply W.cond); exact rfl; all_goals intro hc; all_goals first | (cases hc; done) | ((try simp only [hc]); (try simp only [bm] at hc))) | refine WO.nil ?_ | refine WB.nil ?_ | refine WP.bag rfl ?_ | refine WP.nil ?_ | refine W.seq ?_ | refine W.reg ?_ | refine W.dreg ?_ | refine W.block ?_ | refine W.ret ?_ | refine W.skip ?_ | refine W.exit ?_ | (simp only [srow_len, List.length_map, Qit, Int.toNat_natCast, entry, Opd.eat, cellsOf, TV.ofCells, allAv, Qseq, Qblk, List.map_cons, List.map_nil, putD, kp, Nat.reduceEqDiff, ↓reduceIte, beq_self_eq_true, Nat.reduceBEq]))
    exact ⟨.inr rfl, by rw [← twR_all]; rfl, rfl⟩
end Hm

/- The search in a sorted list. Conditions: see each theorem. -/
namespace Hm
open Go (IntKind)
set_option maxHeartbeats 4000000
set_option maxRecDepth 4000
theorem isNaNs_ret {T : Tab} (h : Fn T F.slices_isNaN_string slices_isNaN_string.fn) (a : Str) : Ret T F.slices_isNaN_string [.val (.str a)] (one (.bool false)) := by
  refine Ret.mk h rfl ?_
  repeat' (first | refine WO.cons ?_ | refine WB.cons ?_ | refine WP.one ?_ | ((first | apply W1.add64 | apply W1.sub64); (iterate 3 exact rfl); omega; omega) | (apply W1.iadr; (iterate 3 exact rfl); omega; first | assumption | ((first | apply V.get_row | apply get_srow | apply get_ty | apply get_ar | apply get_ob | apply get_sprow | apply get_brow); assumption)) | (apply W1.idxS; (iterate 3 exact rfl); omega; omega) | (apply W1.slcS; (iterate 4 exact rfl); omega) | (apply W1.pickT; exact rfl; exact rfl; (first | with_reducible rfl | assumption | (simp only [bn]; first | omega | assumption | decide)); exact rfl) | (apply W1.pickF; exact rfl; exact rfl; (first | with_reducible rfl | assumption | (simp only [bn]; first | omega | assumption | decide)); exact rfl) | (apply W1.op; (iterate 3 exact rfl)) | (apply W1.no; exact rfl) | ((first | apply W1.knowT | apply W1.knowFn | apply WQ.knowT | apply WQ.knowFn | apply W.condT); exact rfl; (first | with_reducible rfl | assumption | (simp only [bn]; first | omega | assumption | decide))) | ((first | apply W1.knowTn | apply W1.knowF | apply WQ.knowTn | apply WQ.knowF | apply W.condF); exact rfl; (first | with_reducible rfl | assumption | (simp only [bn]; first | omega | assumption | decide))) | (apply WQ.go; exact rfl; exact rfl) | (apply WQ.no; exact rfl) | ((first | apply W1.bothT | apply W1.bothF | apply WQ.bothT | apply WQ.bothF | apply W.cond); exact rfl; all_goals intro hc; all_goals first | (cases hc; done) | ((try simp only [hc]); (try simp only [bm] at hc))) | refine WO.nil ?_ | refine WB.nil ?_ | refine WP.bag rfl ?_ | refine WP.nil ?_ | refine W.seq ?_ | refine W.reg ?_ | refine W.dreg ?_ | refine W.block ?_ | refine W.ret ?_ | refine W.skip ?_ | refine W.exit ?_ | (simp only [srow_len, List.length_map, Qit, Int.toNat_natCast, entry, Opd.eat, cellsOf, TV.ofCells, allAv, Qseq, Qblk, List.map_cons, List.map_nil, putD, kp, Nat.reduceEqDiff, ↓reduceIte, beq_self_eq_true, Nat.reduceBEq]))
  exact Qend.boo rfl rfl (by simp)
theorem lessS_ret {T : Tab} (h : Fn T F.cmp_Less_string cmp_Less_string.fn) (h2 : Fn T F.cmp_isNaN_string cmp_isNaN_string.fn) (a b : Str) : Ret T F.cmp_Less_string [.val (.str a), .val (.str b)] (one (.bool (binA.bLess a b))) := by
  have r : ∀ a, Ret T F.cmp_isNaN_string [.val (.str a)] (one (.bool false)) := fun a => by
    refine Ret.mk h2 rfl ?_
    repeat' (first | refine WO.cons ?_ | refine WB.cons ?_ | refine WP.one ?_ | ((first | apply W1.add64 | apply W1.sub64); (iterate 3 exact rfl); omega; omega) | (apply W1.iadr; (iterate 3 exact rfl); omega; first | assumption | ((first | apply V.get_row | apply get_srow | apply get_ty | apply get_ar | apply get_ob | apply get_sprow | apply get_brow); assumption)) | (apply W1.idxS; (iterate 3 exact rfl); omega; omega) | (apply W1.slcS; (iterate 4 exact rfl); omega) | (apply W1.pickT; exact rfl; exact rfl; (first | with_reducible rfl | assumption | (simp only [bn]; first | omega | assumption | decide)); exact rfl) | (apply W1.pickF; exact rfl; exact rfl; (first | with_reducible rfl | assumption | (simp only [bn]; first | omega | assumption | decide)); exact rfl) | (apply W1.op; (iterate 3 exact rfl)) | (apply W1.no; exact rfl) | ((first | apply W1.knowT | apply W1.knowFn | apply WQ.knowT | apply WQ.knowFn | apply W.condT); exact rfl; (first | with_reducible rfl | assumption | (simp only [bn]; first | omega | assumption | decide))) | ((first | apply W1.knowTn | apply W1.knowF | apply WQ.knowTn | apply WQ.knowF | apply W.condF); exact rfl; (first | with_reducible rfl | assumption | (simp only [bn]; first | omega | assumption | decide))) | (apply WQ.go; exact rfl; exact rfl) | (apply WQ.no; exact rfl) | ((first | apply W1.bothT | apply W1.bothF | apply WQ.bothT | apply WQ.bothF | apply W.cond); exact rfl; all_goals intro hc; all_goals first | (cases hc; done) | ((try simp only [hc]); (try simp only [bm] at hc))) | refine WO.nil ?_ | refine WB.nil ?_ | refine WP.bag rfl ?_ | refine WP.nil ?_ | refine W.seq ?_ | refine W.reg ?_ | refine W.dreg ?_ | refine W.block ?_ | refine W.ret ?_ | refine W.skip ?_ | refine W.exit ?_ | (simp only [srow_len, List.length_map, Qit, Int.toNat_natCast, entry, Opd.eat, cellsOf, TV.ofCells, allAv, Qseq, Qblk, List.map_cons, List.map_nil, putD, kp, Nat.reduceEqDiff, ↓reduceIte, beq_self_eq_true, Nat.reduceBEq]))
    exact Qend.boo rfl rfl (by simp)
  refine Ret.mk h rfl ?_
  repeat' (first | refine WO.cons ?_ | refine WB.cons ?_ | refine WP.one ?_ | (first | (apply WQ.call (hm := h2.modes); (iterate 4 exact rfl)) | (apply W1.callV (hm := h2.modes); (iterate 5 exact rfl); exact (r _); exact rfl)) | ((first | apply W1.add64 | apply W1.sub64); (iterate 3 exact rfl); omega; omega) | (apply W1.iadr; (iterate 3 exact rfl); omega; first | assumption | ((first | apply V.get_row | apply get_srow | apply get_ty | apply get_ar | apply get_ob | apply get_sprow | apply get_brow); assumption)) | (apply W1.idxS; (iterate 3 exact rfl); omega; omega) | (apply W1.slcS; (iterate 4 exact rfl); omega) | (apply W1.pickT; exact rfl; exact rfl; (first | with_reducible rfl | assumption | (simp only [bn]; first | omega | assumption | decide)); exact rfl) | (apply W1.pickF; exact rfl; exact rfl; (first | with_reducible rfl | assumption | (simp only [bn]; first | omega | assumption | decide)); exact rfl) | (apply W1.op; (iterate 3 exact rfl)) | (apply W1.no; exact rfl) | ((first | apply W1.knowT | apply W1.knowFn | apply WQ.knowT | apply WQ.knowFn | apply W.condT); exact rfl; (first | with_reducible rfl | assumption | (simp only [bn]; first | omega | assumption | decide))) | ((first | apply W1.knowTn | apply W1.knowF | apply WQ.knowTn | apply WQ.knowF | apply W.condF); exact rfl; (first | with_reducible rfl | assumption | (simp only [bn]; first | omega | assumption | decide))) | (apply WQ.go; exact rfl; exact rfl) | (apply WQ.no; exact rfl) | ((first | apply W1.bothT | apply W1.bothF | apply WQ.bothT | apply WQ.bothF | apply W.cond); exact rfl; all_goals intro hc; all_goals first | (cases hc; done) | ((try simp only [hc]); (try simp only [bm] at hc))) | refine WO.nil ?_ | refine WB.nil ?_ | refine WP.bag rfl ?_ | refine WP.nil ?_ | refine W.seq ?_ | refine W.reg ?_ | refine W.dreg ?_ | refine W.block ?_ | refine W.ret ?_ | refine W.skip ?_ | refine W.exit ?_ | (simp only [srow_len, List.length_map, Qit, Int.toNat_natCast, entry, Opd.eat, cellsOf, TV.ofCells, allAv, Qseq, Qblk, List.map_cons, List.map_nil, putD, kp, Nat.reduceEqDiff, ↓reduceIte, beq_self_eq_true, Nat.reduceBEq]))
  all_goals first | (refine Qend.boo rfl rfl ?_; simp_all; done) | (exfalso; simp_all; done)
theorem binSearch_ret {T : Tab} (h : Fn T F.slices_BinarySearch_Lstring_string slices_BinarySearch_Lstring_string.fn) (hl : Fn T F.cmp_Less_string cmp_Less_string.fn) (h2 : Fn T F.cmp_isNaN_string cmp_isNaN_string.fn)
    (h3 : Fn T F.slices_isNaN_string slices_isNaN_string.fn) (l : List Str) (hb : l.length ≤ 1073741824) (k : Str) (p : Nat) (hp : p ≤ l.length) (hs : ∀ i x, l[i]? = some x → (binA.bLess x k = true ↔ i < p)) :
    Ret T F.slices_BinarySearch_Lstring_string [.val (.lst 1 (srow l)), .val (.str k)] (two (.int .i64 (p : Nat)) (.bool (decide (l[p]? = some k)))) := by
  have e1 := srow_len l
  refine Ret.mk h rfl ?_
  repeat' (first | refine WO.cons ?_ | refine WB.cons ?_ | refine WP.one ?_ | ((first | apply W1.add64 | apply W1.sub64); (iterate 3 exact rfl); omega; omega) | (apply W1.iadr; (iterate 3 exact rfl); omega; first | assumption | ((first | apply V.get_row | apply get_srow | apply get_ty | apply get_ar | apply get_ob | apply get_sprow | apply get_brow); assumption)) | (apply W1.idxS; (iterate 3 exact rfl); omega; omega) | (apply W1.slcS; (iterate 4 exact rfl); omega) | (apply W1.pickT; exact rfl; exact rfl; (first | with_reducible rfl | assumption | (simp only [bn]; first | omega | assumption | decide)); exact rfl) | (apply W1.pickF; exact rfl; exact rfl; (first | with_reducible rfl | assumption | (simp only [bn]; first | omega | assumption | decide)); exact rfl) | (apply W1.op; (iterate 3 exact rfl)) | (apply W1.no; exact rfl) | ((first | apply W1.knowT | apply W1.knowFn | apply WQ.knowT | apply WQ.knowFn | apply W.condT); exact rfl; (first | with_reducible rfl | assumption | (simp only [bn]; first | omega | assumption | decide))) | ((first | apply W1.knowTn | apply W1.knowF | apply WQ.knowTn | apply WQ.knowF | apply W.condF); exact rfl; (first | with_reducible rfl | assumption | (simp only [bn]; first | omega | assumption | decide))) | (apply WQ.go; exact rfl; exact rfl) | (apply WQ.no; exact rfl) | ((first | apply W1.bothT | apply W1.bothF | apply WQ.bothT | apply WQ.bothF | apply W.cond); exact rfl; all_goals intro hc; all_goals first | (cases hc; done) | ((try simp only [hc]); (try simp only [bm] at hc))) | refine WO.nil ?_ | refine WB.nil ?_ | refine WP.bag rfl ?_ | refine WP.nil ?_ | refine W.seq ?_ | refine W.reg ?_ | refine W.dreg ?_ | refine W.block ?_ | refine W.ret ?_ | refine W.skip ?_ | refine W.exit ?_ | (simp only [srow_len, List.length_map, Qit, Int.toNat_natCast, entry, Opd.eat, cellsOf, TV.ofCells, allAv, Qseq, Qblk, List.map_cons, List.map_nil, putD, kp, Nat.reduceEqDiff, ↓reduceIte, beq_self_eq_true, Nat.reduceBEq]))
  refine W.iterP (β := Nat × Nat) (fun b s => (s.put 7 (.av (.int .i64 (b.1 : Int)))).put 8 (.av (.int .i64 (b.2 : Int)))) (fun b => b.1 ≤ p ∧ p ≤ b.2 ∧ b.2 ≤ l.length) (fun b => b.2 - b.1) (0, l.length) ⟨by omega, hp, by omega⟩ ?_ ?_
  · rfl
  · rintro ⟨i, j⟩ ⟨q1, q2, q3⟩
    simp only at q1 q2 q3
    by_cases hij : i < j
    · obtain ⟨x, hx⟩ : ∃ x, l[(i + j) / 2]? = some x := ⟨l[(i + j) / 2]'(by omega), List.getElem?_eq_getElem (by omega)⟩
      have hh : (srow l)[(((i : Int) + (j : Int)) / 2).toNat]? = some [.str x] := by
        rw [show (((i : Int) + (j : Int)) / 2).toNat = (i + j) / 2 by omega]; exact get_srow hx
      have hc1 : (((i + j) / 2 + 1 : Nat) : Int) = ((i : Int) + (j : Int)) / 2 + 1 := by omega
      have hc2 : (((i + j) / 2 : Nat) : Int) = ((i : Int) + (j : Int)) / 2 := by omega
      have r := lessS_ret hl h2 x k
      have hsx := hs _ x hx
      repeat' (first | refine WO.cons ?_ | refine WB.cons ?_ | refine WP.one ?_ | ((apply W1.toU64; exact rfl; exact rfl; omega; omega)) | ((apply W1.half; exact rfl; exact rfl)) | ((apply W1.toI64; exact rfl; exact rfl; omega; omega)) | (first | (apply WQ.call (hm := hl.modes); (iterate 4 exact rfl)) | (apply W1.callV (hm := hl.modes); (iterate 5 exact rfl); exact (r); exact rfl)) | ((first | apply W1.add64 | apply W1.sub64); (iterate 3 exact rfl); omega; omega) | (apply W1.iadr; (iterate 3 exact rfl); omega; first | assumption | ((first | apply V.get_row | apply get_srow | apply get_ty | apply get_ar | apply get_ob | apply get_sprow | apply get_brow); assumption)) | (apply W1.idxS; (iterate 3 exact rfl); omega; omega) | (apply W1.slcS; (iterate 4 exact rfl); omega) | (apply W1.pickT; exact rfl; exact rfl; (first | with_reducible rfl | assumption | (simp only [bn]; first | omega | assumption | decide)); exact rfl) | (apply W1.pickF; exact rfl; exact rfl; (first | with_reducible rfl | assumption | (simp only [bn]; first | omega | assumption | decide)); exact rfl) | (apply W1.op; (iterate 3 exact rfl)) | (apply W1.no; exact rfl) | ((first | apply W1.knowT | apply W1.knowFn | apply WQ.knowT | apply WQ.knowFn | apply W.condT); exact rfl; (first | with_reducible rfl | assumption | (simp only [bn]; first | omega | assumption | decide))) | ((first | apply W1.knowTn | apply W1.knowF | apply WQ.knowTn | apply WQ.knowF | apply W.condF); exact rfl; (first | with_reducible rfl | assumption | (simp only [bn]; first | omega | assumption | decide))) | (apply WQ.go; exact rfl; exact rfl) | (apply WQ.no; exact rfl) | ((first | apply W1.bothT | apply W1.bothF | apply WQ.bothT | apply WQ.bothF | apply W.cond); exact rfl; all_goals intro hc; all_goals first | (cases hc; done) | ((try simp only [hc]); (try simp only [bm] at hc))) | refine WO.nil ?_ | refine WB.nil ?_ | refine WP.bag rfl ?_ | refine WP.nil ?_ | refine W.seq ?_ | refine W.reg ?_ | refine W.dreg ?_ | refine W.block ?_ | refine W.ret ?_ | refine W.skip ?_ | refine W.exit ?_ | (simp only [srow_len, List.length_map, Qit, Int.toNat_natCast, entry, Opd.eat, cellsOf, TV.ofCells, allAv, Qseq, Qblk, List.map_cons, List.map_nil, putD, kp, Nat.reduceEqDiff, ↓reduceIte, beq_self_eq_true, Nat.reduceBEq]))
      all_goals first
        | (refine ⟨((i + j) / 2 + 1, j), ⟨?_, ?_, ?_⟩, ?_, ?_⟩
           · show (i + j) / 2 + 1 ≤ p
             have := hsx.1 (by assumption); omega
           · exact q2
           · exact q3
           · show j - ((i + j) / 2 + 1) < j - i; omega
           · dsimp only; rw [hc1])
        | (refine ⟨(i, (i + j) / 2), ⟨?_, ?_, ?_⟩, ?_, ?_⟩
           · exact q1
           · show p ≤ (i + j) / 2
             have : ¬ (i + j) / 2 < p := fun hlt => by have := hsx.2 hlt; simp_all
             omega
           · show (i + j) / 2 ≤ l.length; omega
           · show (i + j) / 2 - i < j - i; omega
           · dsimp only; rw [hc2])
        | trace_state
    · obtain rfl : i = p := by omega
      obtain rfl : i = j := by omega
      by_cases hin : i < l.length
      · obtain ⟨x, hx⟩ : ∃ x, l[i]? = some x := ⟨l[i]'(by omega), List.getElem?_eq_getElem (by omega)⟩
        have r1 := isNaNs_ret h3 x
        have r2 := isNaNs_ret h3 k
        have hq : decide (l[i]? = some k) = (x == k) := by rw [hx, Bool.eq_iff_iff]; simp
        rw [hq]
        repeat' (first | refine WO.cons ?_ | refine WB.cons ?_ | refine WP.one ?_ | (first | (apply WQ.call (hm := h3.modes); (iterate 4 exact rfl)) | (apply W1.callV (hm := h3.modes); (iterate 5 exact rfl); exact (r1); exact rfl)) | (first | (apply WQ.call (hm := h3.modes); (iterate 4 exact rfl)) | (apply W1.callV (hm := h3.modes); (iterate 5 exact rfl); exact (r2); exact rfl)) | ((first | apply W1.add64 | apply W1.sub64); (iterate 3 exact rfl); omega; omega) | (apply W1.iadr; (iterate 3 exact rfl); omega; first | assumption | ((first | apply V.get_row | apply get_srow | apply get_ty | apply get_ar | apply get_ob | apply get_sprow | apply get_brow); assumption)) | (apply W1.idxS; (iterate 3 exact rfl); omega; omega) | (apply W1.slcS; (iterate 4 exact rfl); omega) | (apply W1.pickT; exact rfl; exact rfl; (first | with_reducible rfl | assumption | (simp only [bn]; first | omega | assumption | decide)); exact rfl) | (apply W1.pickF; exact rfl; exact rfl; (first | with_reducible rfl | assumption | (simp only [bn]; first | omega | assumption | decide)); exact rfl) | (apply W1.op; (iterate 3 exact rfl)) | (apply W1.no; exact rfl) | ((first | apply W1.knowT | apply W1.knowFn | apply WQ.knowT | apply WQ.knowFn | apply W.condT); exact rfl; (first | with_reducible rfl | assumption | (simp only [bn]; first | omega | assumption | decide))) | ((first | apply W1.knowTn | apply W1.knowF | apply WQ.knowTn | apply WQ.knowF | apply W.condF); exact rfl; (first | with_reducible rfl | assumption | (simp only [bn]; first | omega | assumption | decide))) | (apply WQ.go; exact rfl; exact rfl) | (apply WQ.no; exact rfl) | ((first | apply W1.bothT | apply W1.bothF | apply WQ.bothT | apply WQ.bothF | apply W.cond); exact rfl; all_goals intro hc; all_goals first | (cases hc; done) | ((try simp only [hc]); (try simp only [bm] at hc))) | refine WO.nil ?_ | refine WB.nil ?_ | refine WP.bag rfl ?_ | refine WP.nil ?_ | refine W.seq ?_ | refine W.reg ?_ | refine W.dreg ?_ | refine W.block ?_ | refine W.ret ?_ | refine W.skip ?_ | refine W.exit ?_ | (simp only [srow_len, List.length_map, Qit, Int.toNat_natCast, entry, Opd.eat, cellsOf, TV.ofCells, allAv, Qseq, Qblk, List.map_cons, List.map_nil, putD, kp, Nat.reduceEqDiff, ↓reduceIte, beq_self_eq_true, Nat.reduceBEq]))
        all_goals first
          | (refine Qend.two rfl rfl rfl ?_; simp_all; done)
          | (exfalso; simp_all; done)
          | trace_state
      · have hq : decide (l[i]? = some k) = false := by rw [List.getElem?_eq_none (by omega)]; simp
        rw [hq]
        repeat' (first | refine WO.cons ?_ | refine WB.cons ?_ | refine WP.one ?_ | ((first | apply W1.add64 | apply W1.sub64); (iterate 3 exact rfl); omega; omega) | (apply W1.iadr; (iterate 3 exact rfl); omega; first | assumption | ((first | apply V.get_row | apply get_srow | apply get_ty | apply get_ar | apply get_ob | apply get_sprow | apply get_brow); assumption)) | (apply W1.idxS; (iterate 3 exact rfl); omega; omega) | (apply W1.slcS; (iterate 4 exact rfl); omega) | (apply W1.pickT; exact rfl; exact rfl; (first | with_reducible rfl | assumption | (simp only [bn]; first | omega | assumption | decide)); exact rfl) | (apply W1.pickF; exact rfl; exact rfl; (first | with_reducible rfl | assumption | (simp only [bn]; first | omega | assumption | decide)); exact rfl) | (apply W1.op; (iterate 3 exact rfl)) | (apply W1.no; exact rfl) | ((first | apply W1.knowT | apply W1.knowFn | apply WQ.knowT | apply WQ.knowFn | apply W.condT); exact rfl; (first | with_reducible rfl | assumption | (simp only [bn]; first | omega | assumption | decide))) | ((first | apply W1.knowTn | apply W1.knowF | apply WQ.knowTn | apply WQ.knowF | apply W.condF); exact rfl; (first | with_reducible rfl | assumption | (simp only [bn]; first | omega | assumption | decide))) | (apply WQ.go; exact rfl; exact rfl) | (apply WQ.no; exact rfl) | ((first | apply W1.bothT | apply W1.bothF | apply WQ.bothT | apply WQ.bothF | apply W.cond); exact rfl; all_goals intro hc; all_goals first | (cases hc; done) | ((try simp only [hc]); (try simp only [bm] at hc))) | refine WO.nil ?_ | refine WB.nil ?_ | refine WP.bag rfl ?_ | refine WP.nil ?_ | refine W.seq ?_ | refine W.reg ?_ | refine W.dreg ?_ | refine W.block ?_ | refine W.ret ?_ | refine W.skip ?_ | refine W.exit ?_ | (simp only [srow_len, List.length_map, Qit, Int.toNat_natCast, entry, Opd.eat, cellsOf, TV.ofCells, allAv, Qseq, Qblk, List.map_cons, List.map_nil, putD, kp, Nat.reduceEqDiff, ↓reduceIte, beq_self_eq_true, Nat.reduceBEq]))
        all_goals first
          | (refine Qend.two rfl rfl rfl ?_; simp_all; done)
          | (exfalso; simp_all; done)
          | trace_state
end Hm

/- A field put into an object. Conditions: see each theorem. -/
namespace Hm
open Go (IntKind)
set_option maxHeartbeats 4000000
set_option maxRecDepth 4000
/-- What put reaches. -/
structure PutFns (T : Tab) : Prop where
  a1 : Fn T F.value_put value_put.fn
  a2 : Fn T F.slices_BinarySearch_Lstring_string slices_BinarySearch_Lstring_string.fn
  a3 : Fn T F.cmp_Less_string cmp_Less_string.fn
  a4 : Fn T F.cmp_isNaN_string cmp_isNaN_string.fn
  a5 : Fn T F.slices_isNaN_string slices_isNaN_string.fn
  m1 : T.modes F.slices_Insert_Lstring_string = [.mv, .val, .val]
  p1 : T.prim F.slices_Insert_Lstring_string = some (pIns 1)
  m2 : T.modes F.slices_Insert_LValue_Value = [.mv, .val, .val]
  p2 : T.prim F.slices_Insert_LValue_Value = some (pIns 5)
theorem ins_prim {T : Tab} {f k : Nat} (hp : T.prim f = some (pIns k)) (rows : List (List Cell)) (p : Nat) (new : List AV) (h : p ≤ rows.length) (hl : rows.length + 1 ≤ limit) :
    Ret T f [.mv [.own k rows] false, .val (.int .i64 (p : Nat)), .val (.lst k [new])] ⟨[([.own k (rows.take p ++ (new.map .av :: rows.drop p))], false)], []⟩ :=
  Ret.prim hp (by simp only [pIns]; rw [if_pos ⟨trivial, trivial, by omega, by omega, hl⟩]; rfl)
theorem crow_ins (ks : List Str) (p : Nat) (k : Str) : (crow (srow ks)).take p ++ ([Cell.av (.str k)] :: (crow (srow ks)).drop p) = crow (srow (ks.take p ++ (k :: ks.drop p))) := by
  simp [crow, srow, List.map_take, List.map_drop]
theorem valuePut_ret {T : Tab} (f : PutFns T) (kd : Int) (n t : Str) (R : List (List Cell)) (ks : List Str) (hR : R.length = ks.length) (hrow : ∀ r ∈ R, r.length = 5) (hb : ks.length ≤ 1073741824) (k : Str) (x : V) (p : Nat) (hp : p ≤ ks.length)
    (hs : ∀ i y, ks[i]? = some y → (binA.bLess y k = true ↔ i < p)) :
    Ret T F.value_put [.io [.av (.int .i64 kd), .av (.str n), .av (.str t), .own 5 R, .own 1 (crow (srow ks))], .val (.str k), .val x.av]
      ⟨[], [if ks[p]? = some k then [.av (.int .i64 kd), .av (.str n), .av (.str t), .own 5 (R.set p (x.row.map .av)), .own 1 (crow (srow ks))]
        else [.av (.int .i64 kd), .av (.str n), .av (.str t), .own 5 (R.take p ++ (x.row.map .av :: R.drop p)), .own 1 (crow (srow (ks.take p ++ (k :: ks.drop p))))]]⟩ := by
  have r0 := binSearch_ret f.a2 f.a3 f.a4 f.a5 ks hb k p hp hs
  rw [← seal_crow (srow ks)] at r0
  have c0 := crow_len (srow ks)
  rw [srow_len] at c0
  have r1 := ins_prim f.p1 (crow (srow ks)) p [.str k] (by omega) (by show _ ≤ 4294967296; omega)
  have r2 := ins_prim f.p2 R p x.row (by omega) (by show _ ≤ 4294967296; omega)
  rw [show ([AV.str k].map Cell.av) = [Cell.av (.str k)] from rfl, crow_ins] at r1
  refine Ret.mk f.a1 rfl ?_
  rw [V.row_eq] at r2
  rw [V.av_eq, V.row_eq]
  by_cases hk : ks[p]? = some k
  · rw [if_pos hk]
    rw [decide_eq_true hk] at r0
    have hpl : p < ks.length := (List.getElem?_eq_some_iff.1 hk).1
    obtain ⟨q, hq⟩ : ∃ q, R[p]? = some q := ⟨R[p]'(by omega), List.getElem?_eq_getElem (by omega)⟩
    have hq5 := hrow q (List.mem_of_getElem? hq)
    repeat' (first | refine WO.cons ?_ | refine WB.cons ?_ | refine WP.one ?_ | (first | (apply WQ.call (hm := f.a2.modes); (iterate 4 exact rfl)) | (apply W1.callV (hm := f.a2.modes); (iterate 5 exact rfl); exact (r0); exact rfl)) | ((apply W1.iadrO; exact rfl; exact rfl; exact rfl; exact rfl; exact rfl; omega; omega)) | ((apply W1.storeP; exact rfl; exact rfl; exact rfl; exact rfl; exact rfl; exact hq; exact rfl; exact hq5; exact rfl)) | ((first | apply W1.add64 | apply W1.sub64); (iterate 3 exact rfl); omega; omega) | (apply W1.iadr; (iterate 3 exact rfl); omega; first | assumption | ((first | apply V.get_row | apply get_srow | apply get_ty | apply get_ar | apply get_ob | apply get_sprow | apply get_brow); assumption)) | (apply W1.idxS; (iterate 3 exact rfl); omega; omega) | (apply W1.slcS; (iterate 4 exact rfl); omega) | (apply W1.pickT; exact rfl; exact rfl; (first | with_reducible rfl | assumption | (simp only [bn]; first | omega | assumption | decide)); exact rfl) | (apply W1.pickF; exact rfl; exact rfl; (first | with_reducible rfl | assumption | (simp only [bn]; first | omega | assumption | decide)); exact rfl) | (apply W1.op; (iterate 3 exact rfl)) | (apply W1.no; exact rfl) | ((first | apply W1.knowT | apply W1.knowFn | apply WQ.knowT | apply WQ.knowFn | apply W.condT); exact rfl; (first | with_reducible rfl | assumption | (simp only [bn]; first | omega | assumption | decide))) | ((first | apply W1.knowTn | apply W1.knowF | apply WQ.knowTn | apply WQ.knowF | apply W.condF); exact rfl; (first | with_reducible rfl | assumption | (simp only [bn]; first | omega | assumption | decide))) | (apply WQ.go; exact rfl; exact rfl) | (apply WQ.no; exact rfl) | ((first | apply W1.bothT | apply W1.bothF | apply WQ.bothT | apply WQ.bothF | apply W.cond); exact rfl; all_goals intro hc; all_goals first | (cases hc; done) | ((try simp only [hc]); (try simp only [bm] at hc))) | refine WO.nil ?_ | refine WB.nil ?_ | refine WP.bag rfl ?_ | refine WP.nil ?_ | refine W.seq ?_ | refine W.reg ?_ | refine W.dreg ?_ | refine W.block ?_ | refine W.ret ?_ | refine W.skip ?_ | refine W.exit ?_ | (simp only [srow_len, List.length_map, Qit, Int.toNat_natCast, entry, Opd.eat, cellsOf, TV.ofCells, allAv, Qseq, Qblk, List.map_cons, List.map_nil, putD, kp, Nat.reduceEqDiff, ↓reduceIte, beq_self_eq_true, Nat.reduceBEq]))
    all_goals first | (exfalso; simp_all; done) | (exact ⟨.inr rfl, rfl, rfl⟩) | (exact ⟨.inl rfl, rfl, rfl⟩) | trace_state
  · rw [if_neg hk]
    rw [decide_eq_false hk] at r0
    repeat' (first | refine WO.cons ?_ | refine WB.cons ?_ | refine WP.one ?_ | (first | (apply WQ.call (hm := f.a2.modes); (iterate 4 exact rfl)) | (apply W1.callV (hm := f.a2.modes); (iterate 5 exact rfl); exact (r0); exact rfl)) | ((apply W1.callM0 (hm := f.m1); exact rfl; exact rfl; exact rfl; exact r1; exact rfl)) | ((apply W1.callM0 (hm := f.m2); exact rfl; exact rfl; exact rfl; exact r2; exact rfl)) | ((first | apply W1.add64 | apply W1.sub64); (iterate 3 exact rfl); omega; omega) | (apply W1.iadr; (iterate 3 exact rfl); omega; first | assumption | ((first | apply V.get_row | apply get_srow | apply get_ty | apply get_ar | apply get_ob | apply get_sprow | apply get_brow); assumption)) | (apply W1.idxS; (iterate 3 exact rfl); omega; omega) | (apply W1.slcS; (iterate 4 exact rfl); omega) | (apply W1.pickT; exact rfl; exact rfl; (first | with_reducible rfl | assumption | (simp only [bn]; first | omega | assumption | decide)); exact rfl) | (apply W1.pickF; exact rfl; exact rfl; (first | with_reducible rfl | assumption | (simp only [bn]; first | omega | assumption | decide)); exact rfl) | (apply W1.op; (iterate 3 exact rfl)) | (apply W1.no; exact rfl) | ((first | apply W1.knowT | apply W1.knowFn | apply WQ.knowT | apply WQ.knowFn | apply W.condT); exact rfl; (first | with_reducible rfl | assumption | (simp only [bn]; first | omega | assumption | decide))) | ((first | apply W1.knowTn | apply W1.knowF | apply WQ.knowTn | apply WQ.knowF | apply W.condF); exact rfl; (first | with_reducible rfl | assumption | (simp only [bn]; first | omega | assumption | decide))) | (apply WQ.go; exact rfl; exact rfl) | (apply WQ.no; exact rfl) | ((first | apply W1.bothT | apply W1.bothF | apply WQ.bothT | apply WQ.bothF | apply W.cond); exact rfl; all_goals intro hc; all_goals first | (cases hc; done) | ((try simp only [hc]); (try simp only [bm] at hc))) | refine WO.nil ?_ | refine WB.nil ?_ | refine WP.bag rfl ?_ | refine WP.nil ?_ | refine W.seq ?_ | refine W.reg ?_ | refine W.dreg ?_ | refine W.block ?_ | refine W.ret ?_ | refine W.skip ?_ | refine W.exit ?_ | (simp only [srow_len, List.length_map, Qit, Int.toNat_natCast, entry, Opd.eat, cellsOf, TV.ofCells, allAv, Qseq, Qblk, List.map_cons, List.map_nil, putD, kp, Nat.reduceEqDiff, ↓reduceIte, beq_self_eq_true, Nat.reduceBEq]))
    all_goals first | (exfalso; simp_all; done) | (exact ⟨.inr rfl, rfl, rfl⟩) | (exact ⟨.inl rfl, rfl, rfl⟩) | trace_state
end Hm

/- Objects put together. Conditions: see each theorem. -/
namespace Hm
open Go (IntKind)
set_option maxHeartbeats 4000000
set_option maxRecDepth 4000
/-- A call whose two results are sealed. -/
theorem W1.callD2 {T : Tab} {st st' : St} {K : St → Prop} {dst : Option Nat} {gd : Option (Nat × Bool)} {f : Opd} {xs : List Opd} {g : Nat} {first cs : List AV} {t0 t : Bool} {ms : List PMode} {l : List Arg} {ks : List Nat} {C : List Cell} {v : AV} {row : List AV} (hC : sealRow C = row)
    (hg : wanted st gd = some true) (hf : (st.opd f).fn = some (g, first, cs, t0)) (hm : T.modes g = ms) (ha : args st (ms.drop first.length) xs = some (l, t, ks, st')) (hio : hasIo l = false) (hmv : hasMv l = false)
    (hr : Ret T g (first.map .val ++ l ++ cs.map .val) ⟨[(C, true), ([.av v], false)], []⟩) (ht : (t0 || t) = false) (hk : K (putD dst (.tup [some (row.map .av, true), some ([.av v], false)]) st')) : W1 T ⟨dst, .call .deep f xs, gd⟩ st K := by
  refine W1.callV hg hf hm ha hio hmv hr (by rw [ht]; rfl) ?_
  show K (putD dst (.tup [some ((sealRow C).map .av, true), some ([.av v], false)]) st')
  rw [hC]; exact hk
/-- A call whose one result is sealed. -/
theorem W1.callD1 {T : Tab} {st st' : St} {K : St → Prop} {dst : Option Nat} {gd : Option (Nat × Bool)} {f : Opd} {xs : List Opd} {g : Nat} {first cs : List AV} {t0 t : Bool} {ms : List PMode} {l : List Arg} {ks : List Nat} {C : List Cell} {row : List AV} (hC : sealRow C = row)
    (hg : wanted st gd = some true) (hf : (st.opd f).fn = some (g, first, cs, t0)) (hm : T.modes g = ms) (ha : args st (ms.drop first.length) xs = some (l, t, ks, st')) (hio : hasIo l = false) (hmv : hasMv l = false)
    (hr : Ret T g (first.map .val ++ l ++ cs.map .val) ⟨[(C, true)], []⟩) (ht : (t0 || t) = false) (hk : K (putD dst (.av (.agg row)) st')) : W1 T ⟨dst, .call .deep f xs, gd⟩ st K := by
  refine W1.callV hg hf hm ha hio hmv hr (by rw [ht]; rfl) ?_
  show K (putD dst (.av (.agg (sealRow C))) st')
  rw [hC]; exact hk
/-- Cells that hold the items of fields. -/
def ItC (m : List Fld) (R : List (List Cell)) : Prop := sealRows R = (m.map (·.2)).map V.row ∧ ∀ r ∈ R, r.length = 5
theorem ItC.len {m : List Fld} {R : List (List Cell)} (h : ItC m R) : R.length = m.length := by
  have := congrArg List.length h.1
  rw [sealRows_len] at this
  simpa using this
theorem sealRows_append (a b : List (List Cell)) : sealRows (a ++ b) = sealRows a ++ sealRows b := by rw [sealRows_mp, sealRows_mp, sealRows_mp, List.map_append]
theorem ItC.ins {m : List Fld} {R : List (List Cell)} (h : ItC m R) (k : Str) (x : V) :
    ItC (insA m k x) (if (m.map (·.1))[posF m k]? = some k then R.set (posF m k) (x.row.map .av) else R.take (posF m k) ++ (x.row.map .av :: R.drop (posF m k))) := by
  have h5 : (x.row.map Cell.av).length = 5 := by rw [V.row_eq]; rfl
  have hs := h.1
  rw [sealRows_mp] at hs
  rw [insA_eq]
  split
  · refine ⟨?_, fun r hr => ?_⟩
    · rw [sealRows_mp, List.map_set, hs, sealRow_av, List.map_set, List.map_set]
    · rcases List.mem_or_eq_of_mem_set hr with hr | rfl
      · exact h.2 r hr
      · exact h5
  · refine ⟨?_, fun r hr => ?_⟩
    · rw [sealRows_append, sealRows, sealRows_mp, sealRows_mp, sealRow_av, List.map_take, List.map_drop, hs]
      simp only [List.map_append, List.map_cons, List.map_take, List.map_drop]
    · rcases List.mem_append.1 hr with hr | hr
      · exact h.2 r (List.mem_of_mem_take hr)
      · rcases List.mem_cons.1 hr with rfl | hr
        · exact h5
        · exact h.2 r (List.mem_of_mem_drop hr)
/-- The cells of an object under construction. -/
def obC (m : List Fld) (R : List (List Cell)) : List Cell := [.av (.int .i64 6), .av (.str []), .av (.str []), .own 5 R, .own 1 (crow (srow (m.map (·.1))))]
theorem seal_obC {m : List Fld} {R : List (List Cell)} (h : ItC m R) : sealRow (obC m R) = (objF m).row := by
  rw [V.row_eq]
  simp only [obC, sealRow, Cell.shut, h.1, seal_crow]; rfl
theorem putF_ret {T : Tab} (f : PutFns T) {m : List Fld} {R : List (List Cell)} (hR : ItC m R) (ha : AscF m) (hb : m.length ≤ 1073741824) (k : Str) (x : V) :
    ∃ R', ItC (insA m k x) R' ∧ Ret T F.value_put [.io (obC m R), .val (.str k), .val x.av] ⟨[], [obC (insA m k x) R']⟩ := by
  have r := valuePut_ret f 6 [] [] R (m.map (·.1)) (by rw [hR.len, List.length_map]) hR.2 (by rw [List.length_map]; exact hb) k x (posF m k) (by rw [List.length_map]; exact posF_le m k) (posF_spec k ha)
  refine ⟨_, hR.ins k x, ?_⟩
  have e : (insA m k x).map (·.1) = if (m.map (·.1))[posF m k]? = some k then m.map (·.1) else (m.map (·.1)).take (posF m k) ++ (k :: (m.map (·.1)).drop (posF m k)) := by
    rw [insA_eq]
    split
    · rename_i h; exact set_keys x h
    · simp only [List.map_append, List.map_cons, List.map_take, List.map_drop]
  simp only [obC]
  rw [e]
  split
  · rename_i h; rw [if_pos h] at r; exact r
  · rename_i h; rw [if_neg h] at r; exact r
theorem objF_row (m : List Fld) : (objF m).row = [.int .i64 6, .str [], .str [], .lst 5 ((m.map (·.2)).map V.row), .lst 1 (srow (m.map (·.1)))] := by rw [V.row_eq]; rfl
theorem objF_av (m : List Fld) : (objF m).av = .agg [.int .i64 6, .str [], .str [], .lst 5 ((m.map (·.2)).map V.row), .lst 1 (srow (m.map (·.1)))] := by rw [V.av, objF_row]
theorem ItC.twin (m : List Fld) : ItC m ((m.map (·.2)).map twC) := ⟨seal_twCs _, fun r hr => by
  obtain ⟨x, _, rfl⟩ := List.mem_map.1 hr
  rw [twC_eq]; rfl⟩
theorem get_fst {m : List Fld} {i : Nat} {f : Fld} (h : m[i]? = some f) : (srow (m.map (·.1)))[i]? = some [.str f.1] := get_srow (by rw [List.getElem?_map, h]; rfl)
theorem get_snd {m : List Fld} {i : Nat} {f : Fld} (h : m[i]? = some f) : ((m.map (·.2)).map V.row)[i]? = some f.2.row := by rw [List.getElem?_map, List.getElem?_map, h]; rfl
/-- What objects' functions reach. -/
structure ObFns (T : Tab) : Prop where
  tw : TwFns T
  pt : PutFns T
  fm : VfFns T
  a1 : Fn T F.value_Merge value_Merge.fn
  a2 : Fn T F.value_isObject value_isObject.fn
section
variable {T : Tab}
theorem isObject_ret (f : ObFns T) (hv : ValidOk T) (v : V) (hb : v.bk ≤ 1073741824) : Ret T F.value_isObject [.val v.av] (one (.bool (decide (v.kind = 6) && formed v))) := by
  have r := valueFormed_ret f.fm hv v hb
  refine Ret.mk f.a2 rfl ?_
  generalize formed v = b at *
  rw [V.av_eq] at *
  repeat' (first | refine WO.cons ?_ | refine WB.cons ?_ | refine WP.one ?_ | (first | (apply WQ.call (hm := f.fm.a1.modes); (iterate 4 exact rfl)) | (apply W1.callV (hm := f.fm.a1.modes); (iterate 5 exact rfl); exact (r); exact rfl)) | ((first | apply W1.add64 | apply W1.sub64); (iterate 3 exact rfl); omega; omega) | (apply W1.iadr; (iterate 3 exact rfl); omega; first | assumption | ((first | apply V.get_row | apply get_srow | apply get_ty | apply get_ar | apply get_ob | apply get_sprow | apply get_brow); assumption)) | (apply W1.idxS; (iterate 3 exact rfl); omega; omega) | (apply W1.slcS; (iterate 4 exact rfl); omega) | (apply W1.pickT; exact rfl; exact rfl; (first | with_reducible rfl | assumption | (simp only [bn]; first | omega | assumption | decide)); exact rfl) | (apply W1.pickF; exact rfl; exact rfl; (first | with_reducible rfl | assumption | (simp only [bn]; first | omega | assumption | decide)); exact rfl) | (apply W1.op; (iterate 3 exact rfl)) | (apply W1.no; exact rfl) | ((first | apply W1.knowT | apply W1.knowFn | apply WQ.knowT | apply WQ.knowFn | apply W.condT); exact rfl; (first | with_reducible rfl | assumption | (simp only [bn]; first | omega | assumption | decide))) | ((first | apply W1.knowTn | apply W1.knowF | apply WQ.knowTn | apply WQ.knowF | apply W.condF); exact rfl; (first | with_reducible rfl | assumption | (simp only [bn]; first | omega | assumption | decide))) | (apply WQ.go; exact rfl; exact rfl) | (apply WQ.no; exact rfl) | ((first | apply W1.bothT | apply W1.bothF | apply WQ.bothT | apply WQ.bothF | apply W.cond); exact rfl; all_goals intro hc; all_goals first | (cases hc; done) | ((try simp only [hc]); (try simp only [bm] at hc))) | refine WO.nil ?_ | refine WB.nil ?_ | refine WP.bag rfl ?_ | refine WP.nil ?_ | refine W.seq ?_ | refine W.reg ?_ | refine W.dreg ?_ | refine W.block ?_ | refine W.ret ?_ | refine W.skip ?_ | refine W.exit ?_ | (simp only [srow_len, List.length_map, Qit, Int.toNat_natCast, entry, Opd.eat, cellsOf, TV.ofCells, allAv, Qseq, Qblk, List.map_cons, List.map_nil, putD, kp, Nat.reduceEqDiff, ↓reduceIte, beq_self_eq_true, Nat.reduceBEq]))
  all_goals clear r
  all_goals refine Qend.boo rfl rfl ?_
  all_goals first | (simp_all; done) | (rw [Bool.eq_iff_iff]; simp_all; done)
theorem valueMerge_ret (f : ObFns T) (hv : ValidOk T) (a b : List Fld) (ha : formed (objF a) = true) (hb : formed (objF b) = true) (sa : AscF a) (la : szF a + szF b ≤ 1000000000) :
    ∃ C, sealRow C = (objF (mergeF a b)).row ∧ Ret T F.value_Merge [.val (objF a).av, .val (objF b).av] ⟨[(C, true), ([.av (.int .i64 0)], false)], []⟩ := by
  have ba := objF_bk a
  have bb := objF_bk b
  have r1 := isObject_ret f hv (objF a) (by omega)
  have r2 := isObject_ret f hv (objF b) (by omega)
  have r3 := valueTwin_ret f.tw (objF a) (by omega)
  have r4 := valueTwin_ret f.tw (objF b) (by omega)
  rw [ha] at r1
  rw [hb] at r2
  have e3 : twC (objF a) = obC a ((a.map (·.2)).map twC) := by rw [twC_eq]; rfl
  have e4 : sealRow (twC (objF b)) = [.int .i64 6, .str [], .str [], .lst 5 ((b.map (·.2)).map V.row), .lst 1 (srow (b.map (·.1)))] := by rw [seal_twC, objF_row]
  rw [e3, obC] at r3
  have main : ∃ r : CR, (∃ C, sealRow C = (objF (mergeF a b)).row ∧ r = ⟨[(C, true), ([.av (.int .i64 0)], false)], []⟩) ∧ Ret T F.value_Merge [.val (objF a).av, .val (objF b).av] r := by
    refine Ret.ex f.a1 rfl ?_
    rw [objF_av, objF_av] at *
    have lb := len_sz b
    have el : (srow (b.map (·.1))).length = b.length := by rw [srow_len, List.length_map]
    repeat' (first | refine WO.cons ?_ | refine WB.cons ?_ | refine WP.one ?_ | (first | (apply WQ.call (hm := f.a2.modes); (iterate 4 exact rfl)) | (apply W1.callV (hm := f.a2.modes); (iterate 5 exact rfl); exact (r1); exact rfl)) | (first | (apply WQ.call (hm := f.a2.modes); (iterate 4 exact rfl)) | (apply W1.callV (hm := f.a2.modes); (iterate 5 exact rfl); exact (r2); exact rfl)) | (first | (apply WQ.call (hm := f.tw.a1.modes); (iterate 4 exact rfl)) | (apply W1.callV (hm := f.tw.a1.modes); (iterate 5 exact rfl); exact (r3); exact rfl)) | ((apply W1.callD1 (hm := f.tw.a1.modes) e4; (iterate 5 exact rfl); exact r4; exact rfl)) | ((first | apply W1.add64 | apply W1.sub64); (iterate 3 exact rfl); omega; omega) | (apply W1.iadr; (iterate 3 exact rfl); omega; first | assumption | ((first | apply V.get_row | apply get_srow | apply get_ty | apply get_ar | apply get_ob | apply get_sprow | apply get_brow); assumption)) | (apply W1.idxS; (iterate 3 exact rfl); omega; omega) | (apply W1.slcS; (iterate 4 exact rfl); omega) | (apply W1.pickT; exact rfl; exact rfl; (first | with_reducible rfl | assumption | (simp only [bn]; first | omega | assumption | decide)); exact rfl) | (apply W1.pickF; exact rfl; exact rfl; (first | with_reducible rfl | assumption | (simp only [bn]; first | omega | assumption | decide)); exact rfl) | (apply W1.op; (iterate 3 exact rfl)) | (apply W1.no; exact rfl) | ((first | apply W1.knowT | apply W1.knowFn | apply WQ.knowT | apply WQ.knowFn | apply W.condT); exact rfl; (first | with_reducible rfl | assumption | (simp only [bn]; first | omega | assumption | decide))) | ((first | apply W1.knowTn | apply W1.knowF | apply WQ.knowTn | apply WQ.knowF | apply W.condF); exact rfl; (first | with_reducible rfl | assumption | (simp only [bn]; first | omega | assumption | decide))) | (apply WQ.go; exact rfl; exact rfl) | (apply WQ.no; exact rfl) | ((first | apply W1.bothT | apply W1.bothF | apply WQ.bothT | apply WQ.bothF | apply W.cond); exact rfl; all_goals intro hc; all_goals first | (cases hc; done) | ((try simp only [hc]); (try simp only [bm] at hc))) | refine WO.nil ?_ | refine WB.nil ?_ | refine WP.bag rfl ?_ | refine WP.nil ?_ | refine W.seq ?_ | refine W.reg ?_ | refine W.dreg ?_ | refine W.block ?_ | refine W.ret ?_ | refine W.skip ?_ | refine W.exit ?_ | (simp only [srow_len, List.length_map, Qit, Int.toNat_natCast, entry, Opd.eat, cellsOf, TV.ofCells, allAv, Qseq, Qblk, List.map_cons, List.map_nil, putD, kp, Nat.reduceEqDiff, ↓reduceIte, beq_self_eq_true, Nat.reduceBEq]))
    all_goals first | (exfalso; simp_all; done) | skip
    refine W.list b (fun i (R : List (List Cell)) => ⟨lstE [(3, .plc ⟨.box 3, [], 0⟩), (4, .plc ⟨.box 4, [], 0⟩), (6, .plc ⟨.box 6, [], 0⟩), (23, .av (.lst 1 (srow (b.map fun x : Fld => x.1)))), (24, .av (.int .i64 (b.length : Nat))), (25, .av (.int .i64 (i : Int)))],
      lstB [(3, some [.av (.int .i64 6), .av (.str []), .av (.str []), .av (.lst 5 ((b.map fun x : Fld => x.2).map V.row)), .av (.lst 1 (srow (b.map fun x : Fld => x.1)))]), (4, some [.av (.int .i64 0), .av (.str []), .av (.str []), .own 5 [], .own 1 []]), (6, some (obC (mergeF a (b.take i)) R)), (23, none), (24, none), (25, none)]⟩)
      (fun i R => ItC (mergeF a (b.take i)) R) ((a.map fun x : Fld => x.2).map twC) rfl (ItC.twin a) ?_ ?_
    · intro i x R hx hi hR
      have g1 := get_fst hx
      have g2 := get_snd hx
      have sm := sz_merge (b.take i) a
      have lm := len_sz (mergeF a (b.take i))
      have st := szF_take b i
      obtain ⟨R', hR', rp⟩ := putF_ret f.pt hR (asc_merge sa) (by omega) x.1 x.2
      rw [← mergeF_take_succ hx] at hR' rp
      rw [V.av, V.row_eq] at rp
      rw [V.row_eq] at g2
      repeat' (first | refine WO.cons ?_ | refine WB.cons ?_ | refine WP.one ?_ | ((apply W1.callM1 (hm := f.pt.a1.modes); exact rfl; exact rfl; exact rfl; exact rp; exact rfl)) | ((first | apply W1.add64 | apply W1.sub64); (iterate 3 exact rfl); omega; omega) | (apply W1.iadr; (iterate 3 exact rfl); omega; first | assumption | ((first | apply V.get_row | apply get_srow | apply get_ty | apply get_ar | apply get_ob | apply get_sprow | apply get_brow); assumption)) | (apply W1.idxS; (iterate 3 exact rfl); omega; omega) | (apply W1.slcS; (iterate 4 exact rfl); omega) | (apply W1.pickT; exact rfl; exact rfl; (first | with_reducible rfl | assumption | (simp only [bn]; first | omega | assumption | decide)); exact rfl) | (apply W1.pickF; exact rfl; exact rfl; (first | with_reducible rfl | assumption | (simp only [bn]; first | omega | assumption | decide)); exact rfl) | (apply W1.op; (iterate 3 exact rfl)) | (apply W1.no; exact rfl) | ((first | apply W1.knowT | apply W1.knowFn | apply WQ.knowT | apply WQ.knowFn | apply W.condT); exact rfl; (first | with_reducible rfl | assumption | (simp only [bn]; first | omega | assumption | decide))) | ((first | apply W1.knowTn | apply W1.knowF | apply WQ.knowTn | apply WQ.knowF | apply W.condF); exact rfl; (first | with_reducible rfl | assumption | (simp only [bn]; first | omega | assumption | decide))) | (apply WQ.go; exact rfl; exact rfl) | (apply WQ.no; exact rfl) | ((first | apply W1.bothT | apply W1.bothF | apply WQ.bothT | apply WQ.bothF | apply W.cond); exact rfl; all_goals intro hc; all_goals first | (cases hc; done) | ((try simp only [hc]); (try simp only [bm] at hc))) | refine WO.nil ?_ | refine WB.nil ?_ | refine WP.bag rfl ?_ | refine WP.nil ?_ | refine W.seq ?_ | refine W.reg ?_ | refine W.dreg ?_ | refine W.block ?_ | refine W.ret ?_ | refine W.skip ?_ | refine W.exit ?_ | (simp only [srow_len, List.length_map, Qit, Int.toNat_natCast, entry, Opd.eat, cellsOf, TV.ofCells, allAv, Qseq, Qblk, List.map_cons, List.map_nil, putD, kp, Nat.reduceEqDiff, ↓reduceIte, beq_self_eq_true, Nat.reduceBEq]))
      all_goals exact ⟨R', hR', rfl⟩
    · intro R hR
      rw [List.take_length] at hR
      repeat' (first | refine WO.cons ?_ | refine WB.cons ?_ | refine WP.one ?_ | ((first | apply W1.add64 | apply W1.sub64); (iterate 3 exact rfl); omega; omega) | (apply W1.iadr; (iterate 3 exact rfl); omega; first | assumption | ((first | apply V.get_row | apply get_srow | apply get_ty | apply get_ar | apply get_ob | apply get_sprow | apply get_brow); assumption)) | (apply W1.idxS; (iterate 3 exact rfl); omega; omega) | (apply W1.slcS; (iterate 4 exact rfl); omega) | (apply W1.pickT; exact rfl; exact rfl; (first | with_reducible rfl | assumption | (simp only [bn]; first | omega | assumption | decide)); exact rfl) | (apply W1.pickF; exact rfl; exact rfl; (first | with_reducible rfl | assumption | (simp only [bn]; first | omega | assumption | decide)); exact rfl) | (apply W1.op; (iterate 3 exact rfl)) | (apply W1.no; exact rfl) | ((first | apply W1.knowT | apply W1.knowFn | apply WQ.knowT | apply WQ.knowFn | apply W.condT); exact rfl; (first | with_reducible rfl | assumption | (simp only [bn]; first | omega | assumption | decide))) | ((first | apply W1.knowTn | apply W1.knowF | apply WQ.knowTn | apply WQ.knowF | apply W.condF); exact rfl; (first | with_reducible rfl | assumption | (simp only [bn]; first | omega | assumption | decide))) | (apply WQ.go; exact rfl; exact rfl) | (apply WQ.no; exact rfl) | ((first | apply W1.bothT | apply W1.bothF | apply WQ.bothT | apply WQ.bothF | apply W.cond); exact rfl; all_goals intro hc; all_goals first | (cases hc; done) | ((try simp only [hc]); (try simp only [bm] at hc))) | refine WO.nil ?_ | refine WB.nil ?_ | refine WP.bag rfl ?_ | refine WP.nil ?_ | refine W.seq ?_ | refine W.reg ?_ | refine W.dreg ?_ | refine W.block ?_ | refine W.ret ?_ | refine W.skip ?_ | refine W.exit ?_ | (simp only [srow_len, List.length_map, Qit, Int.toNat_natCast, entry, Opd.eat, cellsOf, TV.ofCells, allAv, Qseq, Qblk, List.map_cons, List.map_nil, putD, kp, Nat.reduceEqDiff, ↓reduceIte, beq_self_eq_true, Nat.reduceBEq]))
      refine ⟨_, ⟨_, ?_, rfl⟩, .inr rfl, rfl, rfl⟩
      rw [List.take_length]
      exact seal_obC hR
  obtain ⟨r, ⟨C, hC, rfl⟩, hr⟩ := main
  exact ⟨C, hC, hr⟩
end
end Hm

/- The law of merging by threes. Conditions: see each theorem. -/
namespace Hm
open Go (IntKind)
set_option maxHeartbeats 4000000
set_option maxRecDepth 4000
theorem bLess_of_rise {l : List Str} (h : rise l = true) : l.Pairwise fun a b => binA.bLess a b = true := by
  rw [rise] at h
  have hs : ∀ i a b, l[i]? = some a → l[i + 1]? = some b → binA.bLess a b = true := by
    intro i a b ha hb
    have hl : i + 1 < l.length := (List.getElem?_eq_some_iff.1 hb).1
    have := List.all_eq_true.1 h (i + 1) (List.mem_range.2 hl)
    simp only [riseAt, List.getD, hb, Nat.add_sub_cancel, ha, Option.getD_some] at this
    simp_all
  clear h
  induction l with
  | nil => exact List.Pairwise.nil
  | cons a r ih =>
    have ih' := ih fun i x y hx hy => hs (i + 1) x y (by simpa using hx) (by simpa using hy)
    refine List.pairwise_cons.2 ⟨fun y hy => ?_, ih'⟩
    cases r with
    | nil => cases hy
    | cons b s =>
      have hab := hs 0 a b rfl rfl
      rcases List.mem_cons.1 hy with rfl | hy
      · exact hab
      · exact bLess_trans _ _ _ hab ((List.pairwise_cons.1 ih').1 y hy)
theorem rise_of {l : List Str} (h : l.Pairwise fun a b => binA.bLess a b = true) (hu : ∀ s ∈ l, utf s = true) : rise l = true := by
  refine rise_true fun j hj => ?_
  have h1 : utf (l.getD j []) = true := by
    rw [List.getD, List.getElem?_eq_getElem hj]
    exact hu _ (List.getElem_mem hj)
  have h2 : 0 < j → binA.bLess (l.getD (j - 1) []) (l.getD j []) = true := fun h0 => by
    rw [List.getD, List.getD, List.getElem?_eq_getElem hj, List.getElem?_eq_getElem (show j - 1 < l.length by omega)]
    exact List.pairwise_iff_getElem.1 h (j - 1) j (by omega) hj (by omega)
  simp only [riseAt, h1]
  cases j with
  | zero => simp
  | succ j =>
    have h3 := h2 (by omega)
    rw [h3]; simp
theorem utf_of_rise {l : List Str} (h : rise l = true) : ∀ s ∈ l, utf s = true := by
  intro s hs
  rw [rise] at h
  obtain ⟨i, hi⟩ := List.mem_iff_getElem?.1 hs
  have hl : i < l.length := (List.getElem?_eq_some_iff.1 hi).1
  have := List.all_eq_true.1 h i (List.mem_range.2 hl)
  simp only [riseAt, List.getD, hi, Option.getD_some] at this
  simp_all
/-- A well shaped object is a list of fields in order. -/
theorem obj_of {v : V} (h : formed v = true) (hk : v.kind = 6) : ∃ m, v = objF m ∧ AscF m ∧ (∀ x ∈ m, utf x.1 = true) ∧ ∀ x ∈ m, formed x.2 = true := by
  obtain ⟨_, f2, f3, f4, f5, f6, f7, f8, f9⟩ := formed_inv h
  obtain ⟨k, n, t, is, ks⟩ := v
  simp only [V.kind, V.num, V.text, V.items, V.keys] at *
  subst hk
  obtain rfl := f3 (by decide)
  obtain rfl := f5 (by decide)
  obtain ⟨hl, hr⟩ := f8 rfl
  have e1 : (ks.zip is).map (·.1) = ks := List.map_fst_zip (by omega)
  have e2 : (ks.zip is).map (·.2) = is := List.map_snd_zip (by omega)
  refine ⟨ks.zip is, by rw [objF, e1, e2], ?_, ?_, ?_⟩
  · have := bLess_of_rise hr
    rw [← e1] at this
    exact List.pairwise_map.1 this
  · intro x hx
    exact utf_of_rise hr x.1 (by rw [← e1]; exact List.mem_map.2 ⟨x, hx, rfl⟩)
  · intro x hx
    exact f9 x.2 (by rw [← e2]; exact List.mem_map.2 ⟨x, hx, rfl⟩)
theorem formed_obj {m : List Fld} (h1 : AscF m) (h2 : ∀ x ∈ m, utf x.1 = true) (h3 : ∀ x ∈ m, formed x.2 = true) : formed (objF m) = true := by
  rw [objF, vformed_eq]
  have hr : rise (m.map (·.1)) = true := rise_of (List.pairwise_map.2 h1) fun s hs => by
    obtain ⟨x, hx, rfl⟩ := List.mem_map.1 hs
    exact h2 x hx
  have ha : (m.map (·.2)).all formed = true := by rw [List.all_map, List.all_eq_true]; exact h3
  rw [hr, ha]
  simp
theorem merge_all {p : Fld → Prop} {b : List Fld} : ∀ {a : List Fld}, (∀ x ∈ a, p x) → (∀ x ∈ b, p x) → ∀ x ∈ mergeF a b, p x := by
  induction b with
  | nil => intro a ha _; exact ha
  | cons f r ih =>
    intro a ha hb
    refine ih (a := insA a f.1 f.2) (fun x hx => ?_) (fun x hx => hb x (by simp [hx]))
    rcases mem_ins hx with rfl | hx
    · exact hb f (by simp)
    · exact ha x hx
/-- A list of fields that is a well shaped object. -/
structure Obj (m : List Fld) : Prop where
  asc : AscF m
  key : ∀ x ∈ m, utf x.1 = true
  val : ∀ x ∈ m, formed x.2 = true
theorem Obj.formed {m : List Fld} (h : Obj m) : formed (objF m) = true := formed_obj h.asc h.key h.val
theorem Obj.merge {a b : List Fld} (ha : Obj a) (hb : Obj b) : Obj (mergeF a b) := ⟨asc_merge ha.asc, merge_all ha.key hb.key, merge_all ha.val hb.val⟩
theorem Obj.nil : Obj [] := ⟨List.Pairwise.nil, by simp, by simp⟩
end Hm

/- Fields taken out, and looked for. Conditions: none (definitions and plain lemmas). -/
namespace Hm
def delA : List Fld → Str → List Fld
  | [], _ => []
  | f :: r, k => if binA.bLess f.1 k = true then f :: delA r k else if f.1 = k then r else f :: r
theorem delA_eq (k : Str) : ∀ m : List Fld, delA m k = if (m.map (·.1))[posF m k]? = some k then m.take (posF m k) ++ m.drop (posF m k + 1) else m
  | [] => by simp [delA, posF]
  | f :: r => by
    by_cases h1 : binA.bLess f.1 k = true
    · have hp : posF (f :: r) k = posF r k + 1 := by rw [posF, if_pos h1]
      have ih := delA_eq k r
      simp only [hp, List.map_cons, List.getElem?_cons_succ, List.take_succ_cons, List.drop_succ_cons, List.cons_append]
      rw [delA, if_pos h1, ih]
      split <;> rfl
    · have hp : posF (f :: r) k = 0 := by rw [posF, if_neg h1]
      simp only [hp, List.map_cons, List.getElem?_cons_zero, Option.some.injEq, List.take_zero, List.drop_succ_cons, List.drop_zero, List.nil_append]
      rw [delA, if_neg h1]
theorem sub_del (k : Str) : ∀ m : List Fld, (delA m k).Sublist m
  | [] => List.Sublist.refl _
  | f :: r => by
    simp only [delA]
    split
    · exact (sub_del k r).cons_cons f
    · split
      · exact List.sublist_cons_self f r
      · exact List.Sublist.refl _
theorem asc_del {m : List Fld} (k : Str) (h : AscF m) : AscF (delA m k) := List.Pairwise.sublist (sub_del k m) h
theorem look_del (k k' : Str) : ∀ {m : List Fld}, AscF m → lookF (delA m k) k' = if k' = k then none else lookF m k'
  | [], _ => by simp [delA, lookF]
  | f :: r, h => by
    obtain ⟨h1, h2⟩ := List.pairwise_cons.1 h
    have ih := look_del k k' h2
    simp only [delA]
    by_cases hl : binA.bLess f.1 k = true
    · have hne : f.1 ≠ k := fun e => by rw [e, bLess_irrefl] at hl; cases hl
      rw [if_pos hl, lookF, lookF, ih]
      by_cases hk : k' = k
      · subst hk; rw [if_neg hne, if_pos rfl, if_pos rfl]
      · rw [if_neg hk, if_neg hk]
    · rw [if_neg hl]
      by_cases he : f.1 = k
      · subst he
        rw [if_pos rfl, lookF]
        by_cases hk : k' = f.1
        · subst hk; rw [if_pos rfl, look_none h1]
        · rw [if_neg hk, if_neg (Ne.symm hk)]
      · rw [if_neg he]
        by_cases hk : k' = k
        · subst hk
          have hg : binA.bLess k' f.1 = true := by
            rcases bLess_tri f.1 k' with h | h | h
            · exact absurd h hl
            · exact absurd h he
            · exact h
          rw [if_pos rfl, look_none]
          intro g hg'
          rcases List.mem_cons.1 hg' with rfl | hg'
          · exact hg
          · exact bLess_trans _ _ _ hg (h1 g hg')
        · rw [if_neg hk]
theorem del_ins {m : List Fld} (h : AscF m) (k : Str) (x : V) : delA (insA m k x) k = delA m k :=
  asc_ext (asc_del k (asc_ins k x h)) (asc_del k h) fun k' => by
    rw [look_del k k' (asc_ins k x h), look_del k k' h, look_ins]
    split <;> rfl
theorem szF_sub {m n : List Fld} (h : m.Sublist n) : szF m ≤ szF n := by
  induction h with
  | slnil => exact Nat.le_refl _
  | cons f _ ih => simp only [szF]; omega
  | cons_cons f _ ih => simp only [szF]; omega
/-- The value at the first place of a key. -/
def lookL : List Str → List V → Str → Option V
  | [], _, _ => none
  | s :: r, l, k => if s = k then l.head? else lookL r l.tail k
theorem lookL_map (k : Str) : ∀ m : List Fld, lookL (m.map (·.1)) (m.map (·.2)) k = lookF m k
  | [] => rfl
  | f :: r => by
    simp only [List.map_cons, lookL, List.head?_cons, List.tail_cons, lookF]
    split
    · rfl
    · exact lookL_map k r
theorem lookL_at (k : Str) : ∀ {ks : List Str} {l : List V} {i : Nat}, ks[i]? = some k → (∀ j, j < i → ks[j]? ≠ some k) → lookL ks l k = l[i]?
  | [], l, i, h, _ => by simp at h
  | s :: r, l, 0, h, _ => by
    simp at h; subst h
    rw [lookL, if_pos rfl]; cases l <;> rfl
  | s :: r, l, i + 1, h, hj => by
    have hs : s ≠ k := fun e => hj 0 (by omega) (by simp [e])
    rw [lookL, if_neg hs, lookL_at k (ks := r) (i := i) (by simpa using h) (fun j hlt => by have := hj (j + 1) (by omega); simpa using this)]
    cases l <;> rfl
theorem lookL_none (k : Str) : ∀ {ks : List Str} {l : List V}, k ∉ ks → lookL ks l k = none
  | [], _, _ => rfl
  | s :: r, l, h => by
    rw [lookL, if_neg (fun e => h (by simp [e])), lookL_none k fun hm => h (by simp [hm])]
def zeroV : V := .mk 0 [] [] [] []
/-- A field of a value. -/
def getV (v : V) (k : Str) : Option V := if v.kind = 6 then lookL v.keys v.items k else none
theorem getV_obj (m : List Fld) (k : Str) : getV (objF m) k = lookF m k := by
  rw [getV, if_pos (show (objF m).kind = 6 from rfl)]; exact lookL_map k m
end Hm

/- What slices.Delete of one element answers. Conditions: none (a definition). -/
namespace Hm
def pDel (k : Nat) : List Arg → Option CR
  | [.mv [.own k' rows] false, .val (.int .i64 i), .val (.int .i64 j)] =>
    if k' = k ∧ 0 ≤ i ∧ i < rows.length ∧ j = i + 1 then some ⟨[([.own k (rows.take i.toNat ++ rows.drop (i.toNat + 1))], false)], []⟩ else none
  | _ => none
end Hm

/- Fields got, put, taken out. Conditions: see each theorem. -/
namespace Hm
open Go (IntKind)
set_option maxHeartbeats 4000000
set_option maxRecDepth 4000
/-- What Get, With, Without reach. -/
structure GwFns (T : Tab) : Prop where
  a1 : Fn T F.value_Get value_Get.fn
  a2 : Fn T F.value_With value_With.fn
  a3 : Fn T F.value_Without value_Without.fn
  a4 : Fn T F.slices_Index_Lstring_string slices_Index_Lstring_string.fn
  m1 : T.modes F.slices_Delete_Lstring_string = [.mv, .val, .val]
  p1 : T.prim F.slices_Delete_Lstring_string = some (pDel 1)
  m2 : T.modes F.slices_Delete_LValue_Value = [.mv, .val, .val]
  p2 : T.prim F.slices_Delete_LValue_Value = some (pDel 5)
theorem del_prim {T : Tab} {f k : Nat} (hp : T.prim f = some (pDel k)) (rows : List (List Cell)) (p : Nat) (h : p < rows.length) :
    Ret T f [.mv [.own k rows] false, .val (.int .i64 (p : Nat)), .val (.int .i64 ((p : Nat) + 1))] ⟨[([.own k (rows.take p ++ rows.drop (p + 1))], false)], []⟩ :=
  Ret.prim hp (by simp only [pDel]; rw [if_pos ⟨trivial, by omega, by omega, trivial⟩]; rfl)
section
variable {T : Tab}
theorem indexS_ret (h : Fn T F.slices_Index_Lstring_string slices_Index_Lstring_string.fn) (l : List Str) (hl : l.length ≤ 1073741824) (k : Str) :
    ∃ n : Int, ((n = -1 ∧ k ∉ l) ∨ ∃ i : Nat, n = (i : Int) ∧ l[i]? = some k ∧ ∀ j, j < i → l[j]? ≠ some k) ∧ Ret T F.slices_Index_Lstring_string [.val (.lst 1 (srow l)), .val (.str k)] (one (.int .i64 n)) := by
  have e1 := srow_len l
  refine Ret.ex1 (g := fun n => AV.int .i64 n) (R := fun n => ((n = -1 ∧ k ∉ l) ∨ ∃ i : Nat, n = (i : Int) ∧ l[i]? = some k ∧ ∀ j, j < i → l[j]? ≠ some k)) h rfl ?_
  repeat' (first | refine WO.cons ?_ | refine WB.cons ?_ | refine WP.one ?_ | ((first | apply W1.add64 | apply W1.sub64); (iterate 3 exact rfl); omega; omega) | (apply W1.iadr; (iterate 3 exact rfl); omega; first | assumption | ((first | apply V.get_row | apply get_srow | apply get_ty | apply get_ar | apply get_ob | apply get_sprow | apply get_brow); assumption)) | (apply W1.idxS; (iterate 3 exact rfl); omega; omega) | (apply W1.slcS; (iterate 4 exact rfl); omega) | (apply W1.pickT; exact rfl; exact rfl; (first | with_reducible rfl | assumption | (simp only [bn]; first | omega | assumption | decide)); exact rfl) | (apply W1.pickF; exact rfl; exact rfl; (first | with_reducible rfl | assumption | (simp only [bn]; first | omega | assumption | decide)); exact rfl) | (apply W1.op; (iterate 3 exact rfl)) | (apply W1.no; exact rfl) | ((first | apply W1.knowT | apply W1.knowFn | apply WQ.knowT | apply WQ.knowFn | apply W.condT); exact rfl; (first | with_reducible rfl | assumption | (simp only [bn]; first | omega | assumption | decide))) | ((first | apply W1.knowTn | apply W1.knowF | apply WQ.knowTn | apply WQ.knowF | apply W.condF); exact rfl; (first | with_reducible rfl | assumption | (simp only [bn]; first | omega | assumption | decide))) | (apply WQ.go; exact rfl; exact rfl) | (apply WQ.no; exact rfl) | ((first | apply W1.bothT | apply W1.bothF | apply WQ.bothT | apply WQ.bothF | apply W.cond); exact rfl; all_goals intro hc; all_goals first | (cases hc; done) | ((try simp only [hc]); (try simp only [bm] at hc))) | refine WO.nil ?_ | refine WB.nil ?_ | refine WP.bag rfl ?_ | refine WP.nil ?_ | refine W.seq ?_ | refine W.reg ?_ | refine W.dreg ?_ | refine W.block ?_ | refine W.ret ?_ | refine W.skip ?_ | refine W.exit ?_ | (simp only [srow_len, List.length_map, Qit, Int.toNat_natCast, entry, Opd.eat, cellsOf, TV.ofCells, allAv, Qseq, Qblk, List.map_cons, List.map_nil, putD, kp, Nat.reduceEqDiff, ↓reduceIte, beq_self_eq_true, Nat.reduceBEq]))
  refine W.listP l (fun i (_ : Unit) s => s.put 8 (.av (.int .i64 (i : Int)))) (fun i _ => ∀ j, j < i → l[j]? ≠ some k) () (by simp) rfl ?_ ?_
  · intro i x u hx hi hp
    repeat' (first | refine WO.cons ?_ | refine WB.cons ?_ | refine WP.one ?_ | ((first | apply W1.add64 | apply W1.sub64); (iterate 3 exact rfl); omega; omega) | (apply W1.iadr; (iterate 3 exact rfl); omega; first | assumption | ((first | apply V.get_row | apply get_srow | apply get_ty | apply get_ar | apply get_ob | apply get_sprow | apply get_brow); assumption)) | (apply W1.idxS; (iterate 3 exact rfl); omega; omega) | (apply W1.slcS; (iterate 4 exact rfl); omega) | (apply W1.pickT; exact rfl; exact rfl; (first | with_reducible rfl | assumption | (simp only [bn]; first | omega | assumption | decide)); exact rfl) | (apply W1.pickF; exact rfl; exact rfl; (first | with_reducible rfl | assumption | (simp only [bn]; first | omega | assumption | decide)); exact rfl) | (apply W1.op; (iterate 3 exact rfl)) | (apply W1.no; exact rfl) | ((first | apply W1.knowT | apply W1.knowFn | apply WQ.knowT | apply WQ.knowFn | apply W.condT); exact rfl; (first | with_reducible rfl | assumption | (simp only [bn]; first | omega | assumption | decide))) | ((first | apply W1.knowTn | apply W1.knowF | apply WQ.knowTn | apply WQ.knowF | apply W.condF); exact rfl; (first | with_reducible rfl | assumption | (simp only [bn]; first | omega | assumption | decide))) | (apply WQ.go; exact rfl; exact rfl) | (apply WQ.no; exact rfl) | ((first | apply W1.bothT | apply W1.bothF | apply WQ.bothT | apply WQ.bothF | apply W.cond); exact rfl; all_goals intro hc; all_goals first | (cases hc; done) | ((try simp only [hc]); (try simp only [bm] at hc))) | refine WO.nil ?_ | refine WB.nil ?_ | refine WP.bag rfl ?_ | refine WP.nil ?_ | refine W.seq ?_ | refine W.reg ?_ | refine W.dreg ?_ | refine W.block ?_ | refine W.ret ?_ | refine W.skip ?_ | refine W.exit ?_ | (simp only [srow_len, List.length_map, Qit, Int.toNat_natCast, entry, Opd.eat, cellsOf, TV.ofCells, allAv, Qseq, Qblk, List.map_cons, List.map_nil, putD, kp, Nat.reduceEqDiff, ↓reduceIte, beq_self_eq_true, Nat.reduceBEq]))
    · refine ⟨_, .inr ⟨i, rfl, ?_, hp⟩, Qend.num rfl rfl rfl⟩
      rw [hx]; simp_all
    · refine ⟨(), fun j hj => ?_, rfl⟩
      by_cases hji : j < i
      · exact hp j hji
      · obtain rfl : j = i := by omega
        rw [hx]; intro e; simp_all
  · intro u hp
    repeat' (first | refine WO.cons ?_ | refine WB.cons ?_ | refine WP.one ?_ | ((first | apply W1.add64 | apply W1.sub64); (iterate 3 exact rfl); omega; omega) | (apply W1.iadr; (iterate 3 exact rfl); omega; first | assumption | ((first | apply V.get_row | apply get_srow | apply get_ty | apply get_ar | apply get_ob | apply get_sprow | apply get_brow); assumption)) | (apply W1.idxS; (iterate 3 exact rfl); omega; omega) | (apply W1.slcS; (iterate 4 exact rfl); omega) | (apply W1.pickT; exact rfl; exact rfl; (first | with_reducible rfl | assumption | (simp only [bn]; first | omega | assumption | decide)); exact rfl) | (apply W1.pickF; exact rfl; exact rfl; (first | with_reducible rfl | assumption | (simp only [bn]; first | omega | assumption | decide)); exact rfl) | (apply W1.op; (iterate 3 exact rfl)) | (apply W1.no; exact rfl) | ((first | apply W1.knowT | apply W1.knowFn | apply WQ.knowT | apply WQ.knowFn | apply W.condT); exact rfl; (first | with_reducible rfl | assumption | (simp only [bn]; first | omega | assumption | decide))) | ((first | apply W1.knowTn | apply W1.knowF | apply WQ.knowTn | apply WQ.knowF | apply W.condF); exact rfl; (first | with_reducible rfl | assumption | (simp only [bn]; first | omega | assumption | decide))) | (apply WQ.go; exact rfl; exact rfl) | (apply WQ.no; exact rfl) | ((first | apply W1.bothT | apply W1.bothF | apply WQ.bothT | apply WQ.bothF | apply W.cond); exact rfl; all_goals intro hc; all_goals first | (cases hc; done) | ((try simp only [hc]); (try simp only [bm] at hc))) | refine WO.nil ?_ | refine WB.nil ?_ | refine WP.bag rfl ?_ | refine WP.nil ?_ | refine W.seq ?_ | refine W.reg ?_ | refine W.dreg ?_ | refine W.block ?_ | refine W.ret ?_ | refine W.skip ?_ | refine W.exit ?_ | (simp only [srow_len, List.length_map, Qit, Int.toNat_natCast, entry, Opd.eat, cellsOf, TV.ofCells, allAv, Qseq, Qblk, List.map_cons, List.map_nil, putD, kp, Nat.reduceEqDiff, ↓reduceIte, beq_self_eq_true, Nat.reduceBEq]))
    refine ⟨_, .inl ⟨rfl, fun hm => ?_⟩, Qend.num rfl rfl rfl⟩
    obtain ⟨j, hj⟩ := List.mem_iff_getElem?.1 hm
    exact hp j (List.getElem?_eq_some_iff.1 hj).1 hj
theorem zeroV_row : zeroV.row = [.int .i64 0, .str [], .str [], .lst 5 [], .lst 1 []] := rfl
theorem valueGet_ret (f : GwFns T) (tw : TwFns T) (v : V) (hb : v.bk ≤ 1073741824) (k : Str) :
    ∃ C, sealRow C = ((getV v k).getD zeroV).row ∧ Ret T F.value_Get [.val v.av, .val (.str k)] ⟨[(C, true), ([.av (.bool (getV v k).isSome)], false)], []⟩ := by
  have hbk := V.bk_eq v
  have hk := len_sbk v.keys
  have hl := V.len_bks v.items
  have e2 : (v.items.map V.row).length = v.items.length := List.length_map ..
  obtain ⟨n, hn, r1⟩ := indexS_ret f.a4 v.keys (by omega) k
  have main : ∃ r : CR, (∃ C, sealRow C = ((getV v k).getD zeroV).row ∧ r = ⟨[(C, true), ([.av (.bool (getV v k).isSome)], false)], []⟩) ∧ Ret T F.value_Get [.val v.av, .val (.str k)] r := by
    refine Ret.ex f.a1 rfl ?_
    rw [V.av_eq]
    by_cases hk6 : v.kind = 6
    · by_cases hin : ∃ i : Nat, n = (i : Int) ∧ i < v.items.length
      · obtain ⟨i, rfl, hi⟩ := hin
        obtain ⟨x, hx⟩ : ∃ x, v.items[i]? = some x := ⟨v.items[i], List.getElem?_eq_getElem hi⟩
        have hg : getV v k = some x := by
          rcases hn with ⟨h, _⟩ | ⟨j, hj, h1, h2⟩
          · omega
          · obtain rfl : j = i := by omega
            rw [getV, if_pos hk6, lookL_at k h1 h2, hx]
        have rt := valueTwin_ret tw x (by have := V.bk_item (List.mem_of_getElem? hx); omega)
        have hC := seal_twC x
        have e0 := V.row_eq x
        rw [V.av_eq, twC_eq] at rt
        rw [twC_eq, e0] at hC
        rw [hg]
        repeat' (first | refine WO.cons ?_ | refine WB.cons ?_ | refine WP.one ?_ | (first | (apply WQ.call (hm := f.a4.modes); (iterate 4 exact rfl)) | (apply W1.callV (hm := f.a4.modes); (iterate 5 exact rfl); exact (r1); exact rfl)) | ((apply W1.callD1 (hm := tw.a1.modes) hC; (iterate 5 exact rfl); exact rt; exact rfl)) | ((first | apply W1.add64 | apply W1.sub64); (iterate 3 exact rfl); omega; omega) | (apply W1.iadr; (iterate 3 exact rfl); omega; first | assumption | ((first | apply V.get_row | apply get_srow | apply get_ty | apply get_ar | apply get_ob | apply get_sprow | apply get_brow); assumption)) | (apply W1.idxS; (iterate 3 exact rfl); omega; omega) | (apply W1.slcS; (iterate 4 exact rfl); omega) | (apply W1.pickT; exact rfl; exact rfl; (first | with_reducible rfl | assumption | (simp only [bn]; first | omega | assumption | decide)); exact rfl) | (apply W1.pickF; exact rfl; exact rfl; (first | with_reducible rfl | assumption | (simp only [bn]; first | omega | assumption | decide)); exact rfl) | (apply W1.op; (iterate 3 exact rfl)) | (apply W1.no; exact rfl) | ((first | apply W1.knowT | apply W1.knowFn | apply WQ.knowT | apply WQ.knowFn | apply W.condT); exact rfl; (first | with_reducible rfl | assumption | (simp only [bn]; first | omega | assumption | decide))) | ((first | apply W1.knowTn | apply W1.knowF | apply WQ.knowTn | apply WQ.knowF | apply W.condF); exact rfl; (first | with_reducible rfl | assumption | (simp only [bn]; first | omega | assumption | decide))) | (apply WQ.go; exact rfl; exact rfl) | (apply WQ.no; exact rfl) | ((first | apply W1.bothT | apply W1.bothF | apply WQ.bothT | apply WQ.bothF | apply W.cond); exact rfl; all_goals intro hc; all_goals first | (cases hc; done) | ((try simp only [hc]); (try simp only [bm] at hc))) | refine WO.nil ?_ | refine WB.nil ?_ | refine WP.bag rfl ?_ | refine WP.nil ?_ | refine W.seq ?_ | refine W.reg ?_ | refine W.dreg ?_ | refine W.block ?_ | refine W.ret ?_ | refine W.skip ?_ | refine W.exit ?_ | (simp only [srow_len, List.length_map, Qit, Int.toNat_natCast, entry, Opd.eat, cellsOf, TV.ofCells, allAv, Qseq, Qblk, List.map_cons, List.map_nil, putD, kp, Nat.reduceEqDiff, ↓reduceIte, beq_self_eq_true, Nat.reduceBEq]))
        all_goals first | (exfalso; omega) | (exfalso; simp_all; done) | skip
        all_goals refine ⟨_, ⟨_, ?_, rfl⟩, .inr rfl, rfl, rfl⟩
        all_goals exact e0.symm
      · have hg : getV v k = none := by
          rcases hn with ⟨_, h⟩ | ⟨j, hj, h1, h2⟩
          · rw [getV, if_pos hk6, lookL_none k h]
          · rw [getV, if_pos hk6, lookL_at k h1 h2, List.getElem?_eq_none]
            have : ¬ j < v.items.length := fun hlt => hin ⟨j, hj, hlt⟩
            omega
        have hcond : n < 0 ∨ (v.items.length : Int) ≤ n := by
          rcases hn with ⟨h, _⟩ | ⟨j, hj, h1, h2⟩
          · left; omega
          · right
            have : ¬ j < v.items.length := fun hlt => hin ⟨j, hj, hlt⟩
            omega
        rw [hg]
        repeat' (first | refine WO.cons ?_ | refine WB.cons ?_ | refine WP.one ?_ | (first | (apply WQ.call (hm := f.a4.modes); (iterate 4 exact rfl)) | (apply W1.callV (hm := f.a4.modes); (iterate 5 exact rfl); exact (r1); exact rfl)) | ((first | apply W1.add64 | apply W1.sub64); (iterate 3 exact rfl); omega; omega) | (apply W1.iadr; (iterate 3 exact rfl); omega; first | assumption | ((first | apply V.get_row | apply get_srow | apply get_ty | apply get_ar | apply get_ob | apply get_sprow | apply get_brow); assumption)) | (apply W1.idxS; (iterate 3 exact rfl); omega; omega) | (apply W1.slcS; (iterate 4 exact rfl); omega) | (apply W1.pickT; exact rfl; exact rfl; (first | with_reducible rfl | assumption | (simp only [bn]; first | omega | assumption | decide)); exact rfl) | (apply W1.pickF; exact rfl; exact rfl; (first | with_reducible rfl | assumption | (simp only [bn]; first | omega | assumption | decide)); exact rfl) | (apply W1.op; (iterate 3 exact rfl)) | (apply W1.no; exact rfl) | ((first | apply W1.knowT | apply W1.knowFn | apply WQ.knowT | apply WQ.knowFn | apply W.condT); exact rfl; (first | with_reducible rfl | assumption | (simp only [bn]; first | omega | assumption | decide))) | ((first | apply W1.knowTn | apply W1.knowF | apply WQ.knowTn | apply WQ.knowF | apply W.condF); exact rfl; (first | with_reducible rfl | assumption | (simp only [bn]; first | omega | assumption | decide))) | (apply WQ.go; exact rfl; exact rfl) | (apply WQ.no; exact rfl) | ((first | apply W1.bothT | apply W1.bothF | apply WQ.bothT | apply WQ.bothF | apply W.cond); exact rfl; all_goals intro hc; all_goals first | (cases hc; done) | ((try simp only [hc]); (try simp only [bm] at hc))) | refine WO.nil ?_ | refine WB.nil ?_ | refine WP.bag rfl ?_ | refine WP.nil ?_ | refine W.seq ?_ | refine W.reg ?_ | refine W.dreg ?_ | refine W.block ?_ | refine W.ret ?_ | refine W.skip ?_ | refine W.exit ?_ | (simp only [srow_len, List.length_map, Qit, Int.toNat_natCast, entry, Opd.eat, cellsOf, TV.ofCells, allAv, Qseq, Qblk, List.map_cons, List.map_nil, putD, kp, Nat.reduceEqDiff, ↓reduceIte, beq_self_eq_true, Nat.reduceBEq]))
        all_goals first | (exfalso; omega) | (exfalso; simp_all; done) | skip
        all_goals refine ⟨_, ⟨_, ?_, rfl⟩, .inr rfl, rfl, rfl⟩
        all_goals rfl
    · have hg : getV v k = none := by rw [getV, if_neg hk6]
      rw [hg]
      repeat' (first | refine WO.cons ?_ | refine WB.cons ?_ | refine WP.one ?_ | (first | (apply WQ.call (hm := f.a4.modes); (iterate 4 exact rfl)) | (apply W1.callV (hm := f.a4.modes); (iterate 5 exact rfl); exact (r1); exact rfl)) | ((first | apply W1.add64 | apply W1.sub64); (iterate 3 exact rfl); omega; omega) | (apply W1.iadr; (iterate 3 exact rfl); omega; first | assumption | ((first | apply V.get_row | apply get_srow | apply get_ty | apply get_ar | apply get_ob | apply get_sprow | apply get_brow); assumption)) | (apply W1.idxS; (iterate 3 exact rfl); omega; omega) | (apply W1.slcS; (iterate 4 exact rfl); omega) | (apply W1.pickT; exact rfl; exact rfl; (first | with_reducible rfl | assumption | (simp only [bn]; first | omega | assumption | decide)); exact rfl) | (apply W1.pickF; exact rfl; exact rfl; (first | with_reducible rfl | assumption | (simp only [bn]; first | omega | assumption | decide)); exact rfl) | (apply W1.op; (iterate 3 exact rfl)) | (apply W1.no; exact rfl) | ((first | apply W1.knowT | apply W1.knowFn | apply WQ.knowT | apply WQ.knowFn | apply W.condT); exact rfl; (first | with_reducible rfl | assumption | (simp only [bn]; first | omega | assumption | decide))) | ((first | apply W1.knowTn | apply W1.knowF | apply WQ.knowTn | apply WQ.knowF | apply W.condF); exact rfl; (first | with_reducible rfl | assumption | (simp only [bn]; first | omega | assumption | decide))) | (apply WQ.go; exact rfl; exact rfl) | (apply WQ.no; exact rfl) | ((first | apply W1.bothT | apply W1.bothF | apply WQ.bothT | apply WQ.bothF | apply W.cond); exact rfl; all_goals intro hc; all_goals first | (cases hc; done) | ((try simp only [hc]); (try simp only [bm] at hc))) | refine WO.nil ?_ | refine WB.nil ?_ | refine WP.bag rfl ?_ | refine WP.nil ?_ | refine W.seq ?_ | refine W.reg ?_ | refine W.dreg ?_ | refine W.block ?_ | refine W.ret ?_ | refine W.skip ?_ | refine W.exit ?_ | (simp only [srow_len, List.length_map, Qit, Int.toNat_natCast, entry, Opd.eat, cellsOf, TV.ofCells, allAv, Qseq, Qblk, List.map_cons, List.map_nil, putD, kp, Nat.reduceEqDiff, ↓reduceIte, beq_self_eq_true, Nat.reduceBEq]))
      all_goals first | (exfalso; omega) | (exfalso; simp_all; done) | skip
      all_goals refine ⟨_, ⟨_, ?_, rfl⟩, .inr rfl, rfl, rfl⟩
      all_goals rfl
  obtain ⟨r, ⟨C, hC, rfl⟩, hr⟩ := main
  exact ⟨C, hC, hr⟩
theorem valueWith_ret (f : GwFns T) (o : ObFns T) (hv : ValidOk T) {m : List Fld} (hm : Obj m) (k : Str) (hk : utf k = true) (x : V) (hx : formed x = true) (lb : szF m + (k.length + 1 + x.bk) ≤ 1000000000) :
    ∃ C, sealRow C = (objF (insA m k x)).row ∧ Ret T F.value_With [.val (objF m).av, .val (.str k), .val x.av] ⟨[(C, true), ([.av (.int .i64 0)], false)], []⟩ := by
  have ba := objF_bk m
  have r1 := isObject_ret o hv (objF m) (by omega)
  rw [hm.formed] at r1
  have r2 := hv k (by omega)
  rw [hk] at r2
  have r3 := valueFormed_ret o.fm hv x (by omega)
  rw [hx] at r3
  have r4 := valueTwin_ret o.tw (objF m) (by omega)
  have r5 := valueTwin_ret o.tw x (by omega)
  have e4 : twC (objF m) = obC m ((m.map (·.2)).map twC) := by rw [twC_eq]; rfl
  have lm := len_sz m
  obtain ⟨R', hR', rp⟩ := putF_ret o.pt (ItC.twin m) hm.asc (by omega) k x
  have hC := seal_twC x
  rw [twC_eq] at hC r5
  rw [V.av, ← hC] at rp
  rw [e4] at r4
  have main : ∃ r : CR, (∃ C, sealRow C = (objF (insA m k x)).row ∧ r = ⟨[(C, true), ([.av (.int .i64 0)], false)], []⟩) ∧ Ret T F.value_With [.val (objF m).av, .val (.str k), .val x.av] r := by
    refine Ret.ex f.a2 rfl ?_
    simp only [objF_av] at *
    rw [V.av_eq] at *
    simp only [obC] at *
    repeat' (first | refine WO.cons ?_ | refine WB.cons ?_ | refine WP.one ?_ | (first | (apply WQ.call (hm := o.a2.modes); (iterate 4 exact rfl)) | (apply W1.callV (hm := o.a2.modes); (iterate 5 exact rfl); exact (r1); exact rfl)) | (first | (apply WQ.call (hm := o.fm.a6.modes); (iterate 4 exact rfl)) | (apply W1.callV (hm := o.fm.a6.modes); (iterate 5 exact rfl); exact (r2); exact rfl)) | (first | (apply WQ.call (hm := o.fm.a1.modes); (iterate 4 exact rfl)) | (apply W1.callV (hm := o.fm.a1.modes); (iterate 5 exact rfl); exact (r3); exact rfl)) | (first | (apply WQ.call (hm := o.tw.a1.modes); (iterate 4 exact rfl)) | (apply W1.callV (hm := o.tw.a1.modes); (iterate 5 exact rfl); exact (r4); exact rfl)) | (first | (apply WQ.call (hm := o.tw.a1.modes); (iterate 4 exact rfl)) | (apply W1.callV (hm := o.tw.a1.modes); (iterate 5 exact rfl); exact (r5); exact rfl)) | ((apply W1.callM1 (hm := o.pt.a1.modes); exact rfl; exact rfl; exact rfl; exact rp; exact rfl)) | ((first | apply W1.add64 | apply W1.sub64); (iterate 3 exact rfl); omega; omega) | (apply W1.iadr; (iterate 3 exact rfl); omega; first | assumption | ((first | apply V.get_row | apply get_srow | apply get_ty | apply get_ar | apply get_ob | apply get_sprow | apply get_brow); assumption)) | (apply W1.idxS; (iterate 3 exact rfl); omega; omega) | (apply W1.slcS; (iterate 4 exact rfl); omega) | (apply W1.pickT; exact rfl; exact rfl; (first | with_reducible rfl | assumption | (simp only [bn]; first | omega | assumption | decide)); exact rfl) | (apply W1.pickF; exact rfl; exact rfl; (first | with_reducible rfl | assumption | (simp only [bn]; first | omega | assumption | decide)); exact rfl) | (apply W1.op; (iterate 3 exact rfl)) | (apply W1.no; exact rfl) | ((first | apply W1.knowT | apply W1.knowFn | apply WQ.knowT | apply WQ.knowFn | apply W.condT); exact rfl; (first | with_reducible rfl | assumption | (simp only [bn]; first | omega | assumption | decide))) | ((first | apply W1.knowTn | apply W1.knowF | apply WQ.knowTn | apply WQ.knowF | apply W.condF); exact rfl; (first | with_reducible rfl | assumption | (simp only [bn]; first | omega | assumption | decide))) | (apply WQ.go; exact rfl; exact rfl) | (apply WQ.no; exact rfl) | ((first | apply W1.bothT | apply W1.bothF | apply WQ.bothT | apply WQ.bothF | apply W.cond); exact rfl; all_goals intro hc; all_goals first | (cases hc; done) | ((try simp only [hc]); (try simp only [bm] at hc))) | refine WO.nil ?_ | refine WB.nil ?_ | refine WP.bag rfl ?_ | refine WP.nil ?_ | refine W.seq ?_ | refine W.reg ?_ | refine W.dreg ?_ | refine W.block ?_ | refine W.ret ?_ | refine W.skip ?_ | refine W.exit ?_ | (simp only [srow_len, List.length_map, Qit, Int.toNat_natCast, entry, Opd.eat, cellsOf, TV.ofCells, allAv, Qseq, Qblk, List.map_cons, List.map_nil, putD, kp, Nat.reduceEqDiff, ↓reduceIte, beq_self_eq_true, Nat.reduceBEq]))
    all_goals first | (exfalso; simp_all; done) | skip
    all_goals refine ⟨_, ⟨_, ?_, rfl⟩, .inr rfl, rfl, rfl⟩
    all_goals exact seal_obC hR'
  obtain ⟨r, ⟨C, hC, rfl⟩, hr⟩ := main
  exact ⟨C, hC, hr⟩
theorem ItC.del {m : List Fld} {R : List (List Cell)} (h : ItC m R) (p : Nat) : ItC (m.take p ++ m.drop (p + 1)) (R.take p ++ R.drop (p + 1)) := by
  have hs := h.1
  rw [sealRows_mp] at hs
  refine ⟨?_, fun r hr => ?_⟩
  · rw [sealRows_append, sealRows_mp, sealRows_mp, List.map_take, List.map_drop, hs]
    simp only [List.map_append, List.map_take, List.map_drop]
  · rcases List.mem_append.1 hr with hr | hr
    · exact h.2 r (List.mem_of_mem_take hr)
    · exact h.2 r (List.mem_of_mem_drop hr)
theorem valueWithout_ret (f : GwFns T) (o : ObFns T) (hv : ValidOk T) {m : List Fld} (hm : Obj m) (k : Str) (lb : szF m ≤ 1000000000) :
    ∃ C, sealRow C = (objF (delA m k)).row ∧ Ret T F.value_Without [.val (objF m).av, .val (.str k)] ⟨[(C, true), ([.av (.int .i64 0)], false)], []⟩ := by
  have ba := objF_bk m
  have r1 := isObject_ret o hv (objF m) (by omega)
  rw [hm.formed] at r1
  have r4 := valueTwin_ret o.tw (objF m) (by omega)
  have e4 : twC (objF m) = obC m ((m.map (·.2)).map twC) := by rw [twC_eq]; rfl
  rw [e4] at r4
  have lm := len_sz m
  have hp := posF_le m k
  have r0 := binSearch_ret o.pt.a2 o.pt.a3 o.pt.a4 o.pt.a5 (m.map (·.1)) (by rw [List.length_map]; omega) k (posF m k) (by rw [List.length_map]; exact hp) (posF_spec k hm.asc)
  rw [← seal_crow (srow (m.map (·.1)))] at r0
  have c0 : (crow (srow (m.map (·.1)))).length = m.length := by rw [crow_len, srow_len, List.length_map]
  have c1 : ((m.map (·.2)).map twC).length = m.length := by rw [List.length_map, List.length_map]
  have main : ∃ r : CR, (∃ C, sealRow C = (objF (delA m k)).row ∧ r = ⟨[(C, true), ([.av (.int .i64 0)], false)], []⟩) ∧ Ret T F.value_Without [.val (objF m).av, .val (.str k)] r := by
    refine Ret.ex f.a3 rfl ?_
    simp only [objF_av] at *
    simp only [obC] at *
    rw [delA_eq]
    by_cases hk : (m.map (·.1))[posF m k]? = some k
    · rw [if_pos hk]
      rw [decide_eq_true hk] at r0
      have hpl : posF m k < m.length := by
        have := (List.getElem?_eq_some_iff.1 hk).1
        rwa [List.length_map] at this
      have d1 := del_prim f.p1 (crow (srow (m.map (·.1)))) (posF m k) (by omega)
      have d2 := del_prim f.p2 ((m.map (·.2)).map twC) (posF m k) (by omega)
      have ek : (crow (srow (m.map (·.1)))).take (posF m k) ++ (crow (srow (m.map (·.1)))).drop (posF m k + 1) = crow (srow ((m.take (posF m k) ++ m.drop (posF m k + 1)).map (·.1))) := by
        simp [crow, srow, List.map_take, List.map_drop]
      rw [ek] at d1
      have hR := (ItC.twin m).del (posF m k)
      repeat' (first | refine WO.cons ?_ | refine WB.cons ?_ | refine WP.one ?_ | (first | (apply WQ.call (hm := o.a2.modes); (iterate 4 exact rfl)) | (apply W1.callV (hm := o.a2.modes); (iterate 5 exact rfl); exact (r1); exact rfl)) | (first | (apply WQ.call (hm := o.tw.a1.modes); (iterate 4 exact rfl)) | (apply W1.callV (hm := o.tw.a1.modes); (iterate 5 exact rfl); exact (r4); exact rfl)) | (first | (apply WQ.call (hm := o.pt.a2.modes); (iterate 4 exact rfl)) | (apply W1.callV (hm := o.pt.a2.modes); (iterate 5 exact rfl); exact (r0); exact rfl)) | ((apply W1.callM0 (hm := f.m1); exact rfl; exact rfl; exact rfl; exact d1; exact rfl)) | ((apply W1.callM0 (hm := f.m2); exact rfl; exact rfl; exact rfl; exact d2; exact rfl)) | ((first | apply W1.add64 | apply W1.sub64); (iterate 3 exact rfl); omega; omega) | (apply W1.iadr; (iterate 3 exact rfl); omega; first | assumption | ((first | apply V.get_row | apply get_srow | apply get_ty | apply get_ar | apply get_ob | apply get_sprow | apply get_brow); assumption)) | (apply W1.idxS; (iterate 3 exact rfl); omega; omega) | (apply W1.slcS; (iterate 4 exact rfl); omega) | (apply W1.pickT; exact rfl; exact rfl; (first | with_reducible rfl | assumption | (simp only [bn]; first | omega | assumption | decide)); exact rfl) | (apply W1.pickF; exact rfl; exact rfl; (first | with_reducible rfl | assumption | (simp only [bn]; first | omega | assumption | decide)); exact rfl) | (apply W1.op; (iterate 3 exact rfl)) | (apply W1.no; exact rfl) | ((first | apply W1.knowT | apply W1.knowFn | apply WQ.knowT | apply WQ.knowFn | apply W.condT); exact rfl; (first | with_reducible rfl | assumption | (simp only [bn]; first | omega | assumption | decide))) | ((first | apply W1.knowTn | apply W1.knowF | apply WQ.knowTn | apply WQ.knowF | apply W.condF); exact rfl; (first | with_reducible rfl | assumption | (simp only [bn]; first | omega | assumption | decide))) | (apply WQ.go; exact rfl; exact rfl) | (apply WQ.no; exact rfl) | ((first | apply W1.bothT | apply W1.bothF | apply WQ.bothT | apply WQ.bothF | apply W.cond); exact rfl; all_goals intro hc; all_goals first | (cases hc; done) | ((try simp only [hc]); (try simp only [bm] at hc))) | refine WO.nil ?_ | refine WB.nil ?_ | refine WP.bag rfl ?_ | refine WP.nil ?_ | refine W.seq ?_ | refine W.reg ?_ | refine W.dreg ?_ | refine W.block ?_ | refine W.ret ?_ | refine W.skip ?_ | refine W.exit ?_ | (simp only [srow_len, List.length_map, Qit, Int.toNat_natCast, entry, Opd.eat, cellsOf, TV.ofCells, allAv, Qseq, Qblk, List.map_cons, List.map_nil, putD, kp, Nat.reduceEqDiff, ↓reduceIte, beq_self_eq_true, Nat.reduceBEq]))
      all_goals first | (exfalso; simp_all; done) | skip
      all_goals refine ⟨_, ⟨_, ?_, rfl⟩, .inr rfl, rfl, rfl⟩
      all_goals exact seal_obC hR
    · rw [if_neg hk]
      rw [decide_eq_false hk] at r0
      repeat' (first | refine WO.cons ?_ | refine WB.cons ?_ | refine WP.one ?_ | (first | (apply WQ.call (hm := o.a2.modes); (iterate 4 exact rfl)) | (apply W1.callV (hm := o.a2.modes); (iterate 5 exact rfl); exact (r1); exact rfl)) | (first | (apply WQ.call (hm := o.tw.a1.modes); (iterate 4 exact rfl)) | (apply W1.callV (hm := o.tw.a1.modes); (iterate 5 exact rfl); exact (r4); exact rfl)) | (first | (apply WQ.call (hm := o.pt.a2.modes); (iterate 4 exact rfl)) | (apply W1.callV (hm := o.pt.a2.modes); (iterate 5 exact rfl); exact (r0); exact rfl)) | ((first | apply W1.add64 | apply W1.sub64); (iterate 3 exact rfl); omega; omega) | (apply W1.iadr; (iterate 3 exact rfl); omega; first | assumption | ((first | apply V.get_row | apply get_srow | apply get_ty | apply get_ar | apply get_ob | apply get_sprow | apply get_brow); assumption)) | (apply W1.idxS; (iterate 3 exact rfl); omega; omega) | (apply W1.slcS; (iterate 4 exact rfl); omega) | (apply W1.pickT; exact rfl; exact rfl; (first | with_reducible rfl | assumption | (simp only [bn]; first | omega | assumption | decide)); exact rfl) | (apply W1.pickF; exact rfl; exact rfl; (first | with_reducible rfl | assumption | (simp only [bn]; first | omega | assumption | decide)); exact rfl) | (apply W1.op; (iterate 3 exact rfl)) | (apply W1.no; exact rfl) | ((first | apply W1.knowT | apply W1.knowFn | apply WQ.knowT | apply WQ.knowFn | apply W.condT); exact rfl; (first | with_reducible rfl | assumption | (simp only [bn]; first | omega | assumption | decide))) | ((first | apply W1.knowTn | apply W1.knowF | apply WQ.knowTn | apply WQ.knowF | apply W.condF); exact rfl; (first | with_reducible rfl | assumption | (simp only [bn]; first | omega | assumption | decide))) | (apply WQ.go; exact rfl; exact rfl) | (apply WQ.no; exact rfl) | ((first | apply W1.bothT | apply W1.bothF | apply WQ.bothT | apply WQ.bothF | apply W.cond); exact rfl; all_goals intro hc; all_goals first | (cases hc; done) | ((try simp only [hc]); (try simp only [bm] at hc))) | refine WO.nil ?_ | refine WB.nil ?_ | refine WP.bag rfl ?_ | refine WP.nil ?_ | refine W.seq ?_ | refine W.reg ?_ | refine W.dreg ?_ | refine W.block ?_ | refine W.ret ?_ | refine W.skip ?_ | refine W.exit ?_ | (simp only [srow_len, List.length_map, Qit, Int.toNat_natCast, entry, Opd.eat, cellsOf, TV.ofCells, allAv, Qseq, Qblk, List.map_cons, List.map_nil, putD, kp, Nat.reduceEqDiff, ↓reduceIte, beq_self_eq_true, Nat.reduceBEq]))
      all_goals first | (exfalso; simp_all; done) | skip
      all_goals refine ⟨_, ⟨_, ?_, rfl⟩, .inr rfl, rfl, rfl⟩
      all_goals exact seal_obC (ItC.twin m)
  obtain ⟨r, ⟨C, hC, rfl⟩, hr⟩ := main
  exact ⟨C, hC, hr⟩
end
end Hm

/- The law of fields. Conditions: see each theorem.  -/
namespace Hm
open Go (IntKind)
set_option maxHeartbeats 16000000
set_option maxRecDepth 4000
theorem like_same' {T : Tab} (h : Fn T F.hallmarkref03_Like hallmarkref03_Like.fn) (a : V) (hb : a.bk ≤ 1073741824) : Ret T F.hallmarkref03_Like [.val a.av, .val a.av] (one (.bool true)) := by
  have r := likeE_ret h a hb a hb
  rw [sameV_self] at r
  exact r
theorem lookF_mem {m : List Fld} {k : Str} {x : V} (h : lookF m k = some x) : ∃ f ∈ m, f.2 = x := by
  induction m with
  | nil => cases h
  | cons f r ih =>
    rw [lookF] at h
    split at h
    · exact ⟨f, by simp, Option.some.inj h⟩
    · obtain ⟨g, hg, e⟩ := ih h
      exact ⟨g, by simp [hg], e⟩
theorem look_bk (m : List Fld) (k : Str) : ((lookF m k).getD zeroV).bk ≤ szF m + 5 := by
  cases h : lookF m k with
  | none => show 5 ≤ szF m + 5; omega
  | some x =>
    obtain ⟨f, hf, rfl⟩ := lookF_mem h
    have := szF_mem hf
    show f.2.bk ≤ _
    omega
theorem Obj.ins {m : List Fld} (h : Obj m) {k : Str} {x : V} (hk : utf k = true) (hx : Hm.formed x = true) : Obj (insA m k x) :=
  ⟨asc_ins k x h.asc, fun f hf => (mem_ins hf).elim (fun e => by rw [e]; exact hk) (h.key f), fun f hf => (mem_ins hf).elim (fun e => by rw [e]; exact hx) (h.val f)⟩
theorem Obj.del {m : List Fld} (h : Obj m) (k : Str) : Obj (delA m k) :=
  ⟨asc_del k h.asc, fun f hf => h.key f ((sub_del k m).subset hf), fun f hf => h.val f ((sub_del k m).subset hf)⟩
end Hm

/- Rules that make states plain. Conditions: see each theorem. -/
namespace Hm
open Go (IntKind)
theorem clr_av (p : Place) (n : Nat) (v : AV) : (TV.av v).clr p n = .av v := rfl
theorem clr_own (p : Place) (n : Nat) (cs : List Cell) (g : Bool) : (TV.own cs g).clr p n = .own cs g := rfl
theorem clr_plc (p : Place) (n : Nat) (r : Root) (o : Nat) : (TV.plc ⟨r, [], o⟩).clr p n = .plc ⟨r, [], o⟩ := by
  simp only [TV.clr, List.map_nil, TV.clr.hits]; rw [if_neg (by simp)]
theorem clr_und (p : Place) (n : Nat) : TV.und.clr p n = .und := rfl
theorem clr_skp (p : Place) (n : Nat) : TV.skp.clr p n = .skp := rfl
theorem clr_tup (p : Place) (n : Nat) (l : List (Option (List Cell × Bool))) : (TV.tup l).clr p n = .tup l := rfl
theorem hush_av (v : AV) : (TV.av v).hush = .av v := rfl
theorem hush_own (cs : List Cell) (g : Bool) : (TV.own cs g).hush = .own cs g := rfl
theorem hush_plc (p : Place) : (TV.plc p).hush = .plc p := rfl
theorem hush_und : TV.und.hush = .und := rfl
theorem hush_skp : TV.skp.hush = .skp := rfl
theorem hush_tup (l : List (Option (List Cell × Bool))) : (TV.tup l).hush = .tup l := rfl
theorem getE_clrX (p : Place) (n : Nat) (e : Nat → TV) (k : Nat) : getE (clrE p n e) k = (getE e k).clr p n := rfl
theorem getE_hushE' (e : Nat → TV) (k : Nat) : getE (hushE e) k = (getE e k).hush := rfl
theorem mkV_trueX (l : List AV) : mkV true l = .agg l := rfl
theorem mkV_oneX (v : AV) : mkV false [v] = v := rfl
theorem kq : (∀ (p : Place) (n : Nat) (v : AV), (TV.av v).clr p n = .av v) ∧ (∀ (p : Place) (n : Nat) (cs : List Cell) (g : Bool), (TV.own cs g).clr p n = .own cs g) ∧ (∀ (p : Place) (n : Nat) (r : Root) (o : Nat), (TV.plc ⟨r, [], o⟩).clr p n = .plc ⟨r, [], o⟩) ∧
    (∀ (p : Place) (n : Nat), TV.und.clr p n = .und) ∧ (∀ (p : Place) (n : Nat), TV.skp.clr p n = .skp) ∧ (∀ (p : Place) (n : Nat) (l : List (Option (List Cell × Bool))), (TV.tup l).clr p n = .tup l) ∧
    (∀ v : AV, (TV.av v).hush = .av v) ∧ (∀ (cs : List Cell) (g : Bool), (TV.own cs g).hush = .own cs g) ∧ (∀ p : Place, (TV.plc p).hush = .plc p) ∧ (TV.und.hush = .und) ∧ (TV.skp.hush = .skp) ∧ (∀ l : List (Option (List Cell × Bool)), (TV.tup l).hush = .tup l) ∧
    (∀ (p : Place) (n : Nat) (e : Nat → TV) (k : Nat), getE (clrE p n e) k = (getE e k).clr p n) ∧ (∀ (e : Nat → TV) (k : Nat), getE (hushE e) k = (getE e k).hush) ∧ (∀ l : List AV, mkV true l = .agg l) ∧ (∀ v : AV, mkV false [v] = v) ∧
    (∀ (st : St) (k : Nat) (cs : List Cell), (st.setRoot (.box k) cs).env = st.env) ∧ (∀ (st : St) (k : Nat) (cs : List Cell), (st.setRoot (.box k) cs).boxes = upd st.boxes k (some cs)) ∧ (∀ st : St, st.hush.env = hushE st.env) ∧ (∀ st : St, st.hush.boxes = st.boxes) ∧ (∀ (st : St) (k : Nat) (cs : List Cell), (st.back k cs).env = clrE ⟨.box k, [], 0⟩ cs.length st.env) ∧ (∀ (st : St) (k : Nat) (cs : List Cell), (st.back k cs).boxes = upd st.boxes k (some cs)) :=
  ⟨clr_av, clr_own, clr_plc, clr_und, clr_skp, clr_tup, hush_av, hush_own, hush_plc, hush_und, hush_skp, hush_tup, getE_clrX, getE_hushE', mkV_trueX, mkV_oneX, fun _ _ _ => rfl, fun _ _ _ => rfl, fun _ => rfl, fun _ => rfl, fun _ _ _ => rfl, fun _ _ _ => rfl⟩
end Hm
