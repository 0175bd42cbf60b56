/- What the law answers on the abstract machine. Conditions: see each theorem. -/
import Derived.Test.YtaemcgnkpfbenaaGreatDoorVAgr1
set_option linter.unusedVariables false
set_option linter.unusedSimpArgs false
/- Whole numbers in tens, as the program has them. Conditions: see each theorem. -/
namespace Hm
open Go (IntKind)
set_option maxHeartbeats 4000000
set_option maxRecDepth 4000
def two (v w : AV) : CR := ⟨[([.av v],false),([.av w],false)],[]⟩
theorem Qend.two {fn : AFun} {as : List Arg} {v w v' w' : AV} {st : St} (hr : results st fn.results = some [([.av v],false),([.av w],false)]) (ho : outs st 0 as = some []) (h : v = v') (h' : w = w') : Qend fn as (Hm.two v' w') .ret st := by
  subst h h'; exact ⟨.inr rfl,hr,ho⟩
theorem tensFormed_ret {T : Tab} (h : Fn T F.tens_Formed tens_Formed.fn) (s : Str) (hb : s.length ≤ 1073741824) : Ret T F.tens_Formed [.val (.str s)] (one (.bool (number s))) := by
  refine Ret.mk h rfl ?_
  by_cases hs : s = [48]
  · subst hs
    repeat' (first | refine zA ?_ | refine zB ?_ | (refine zC ?_ ?_ <;> intro hc; all_goals first | (cases hc; done) | ((try simp only [hc]); (try simp only [bm] at hc))) | refine zE ?_ | refine zNT ?_ | fail)
    exact Qend.boo rfl rfl rfl
  have hs' : (s == [48]) = false := beq_eq_false_iff_ne.2 hs
  have hnum : number s = ((digs s).all isDig && decide (0 < (digs s).length) && !(bAt (digs s) 0 == 48)) := by simp only [number,hs',Bool.not_false,Bool.and_true]
  have fin : ∀ d : Str,d = digs s → 0 < d.length → ¬ ((bAt d 0).toNat : Int) = 48 → d.length ≤ 1073741824 → W T (AC.loop [0,23,24] tens_Formed.l1) ⟨lstE [(0,.av (.str d)),(23,.av (.int .i64 (d.length : Nat))),(24,.av (.int .i64 0))],lstB [(0,none),(23,none),(24,none)]⟩
      (Qblk 0 (Qseq T ((AC.reg tens_Formed.r13 [2]).seq AC.ret) (Qend tens_Formed.fn [.val (.str s)] (one (.bool (number s)))))) := by
    intro d hd hl h48 hlb
    refine W.listP d (fun i (_ : Unit) s => s.put 24 (.av (.int .i64 (i : Int)))) (fun i _ => (d.take i).all isDig = true) () (by simp) rfl ?_ ?_
    · intro i x u hx hi hp
      have e := bAt_get hx
      have e' : bAt d ((i : Int)).toNat = x := e
      repeat' (first | refine zA ?_ | refine zB ?_ | (refine zC ?_ ?_ <;> intro hc; all_goals first | (cases hc; done) | ((try simp only [hc]); (try simp only [bm] at hc))) | refine zE ?_ | refine zNT ?_ | fail)
      all_goals first
        | (refine Qend.boo rfl rfl ?_; rw [hnum,← hd,all_false hx (by rw [← e]; simp only [isDig,Bool.and_eq_false_iff,decide_eq_false_iff_not]; simp only [Int.toNat_natCast] at *; omega)]; rfl)
        | (refine ⟨(),?_,rfl⟩; rw [all_take_succ hx,hp,← e]; simp only [isDig,Bool.true_and,Bool.and_eq_true,decide_eq_true_eq]; simp only [Int.toNat_natCast] at *; omega)
        | skip
    · intro u hp
      rw [List.take_length] at hp
      repeat' (first | refine zA ?_ | refine zB ?_ | (refine zC ?_ ?_ <;> intro hc; all_goals first | (cases hc; done) | ((try simp only [hc]); (try simp only [bm] at hc))) | refine zE ?_ | refine zNT ?_ | fail)
      refine Qend.boo rfl rfl ?_
      have : ¬ bAt d 0 = 48 := fun h => h48 ((u8_eq _ 48 (by omega)).2 h)
      have : (bAt d 0 == 48) = false := beq_eq_false_iff_ne.2 this
      rw [hnum,← hd,hp,decide_eq_true hl,this]; rfl
  by_cases hm : 0 < s.length ∧ ((bAt s 0).toNat : Int) = 45
  · have hd : digs s = s.drop 1 := by rw [digs,if_pos ⟨hm.1,(u8_eq _ 45 (by omega)).1 hm.2⟩]
    have ed : List.drop (Int.toNat 1) (List.take s.length s) = s.drop 1 := by rw [List.take_length]; rfl
    have hne : ¬ s = [] := (fun h => by rw [h] at hm; simp at hm)
    have hm' : ((bAt s (Int.toNat 0)).toNat : Int) = 45 := hm.2
    by_cases hl : 0 < (s.drop 1).length
    · have hne2 : ¬ List.drop (Int.toNat 1) (List.take s.length s) = [] := by rw [ed]; exact (fun h => by rw [h] at hl; simp at hl)
      have hl2 : 0 < (List.drop (Int.toNat 1) (List.take s.length s)).length := by rw [ed]; exact hl
      by_cases h48 : ((bAt (s.drop 1) 0).toNat : Int) = 48
      · have h48' : ((bAt (List.drop (Int.toNat 1) (List.take s.length s)) (Int.toNat 0)).toNat : Int) = 48 := by rw [ed]; exact h48
        repeat' (first | refine zA ?_ | refine zB ?_ | (refine zC ?_ ?_ <;> intro hc; all_goals first | (cases hc; done) | ((try simp only [hc]); (try simp only [bm] at hc))) | refine zE ?_ | refine zNT ?_ | fail)
        refine Qend.boo rfl rfl ?_
        have : (bAt (s.drop 1) 0) = 48 := (u8_eq _ 48 (by omega)).1 h48
        rw [hnum,hd,this]; simp
      · have h48' : ¬ ((bAt (List.drop (Int.toNat 1) (List.take s.length s)) (Int.toNat 0)).toNat : Int) = 48 := by rw [ed]; exact h48
        repeat' (first | refine zA ?_ | (exact fin _ (ed.trans hd.symm) (by rw [ed]; exact hl) h48' (by rw [ed]; simp; omega)) | refine zB ?_ | (refine zC ?_ ?_ <;> intro hc; all_goals first | (cases hc; done) | ((try simp only [hc]); (try simp only [bm] at hc))) | refine zE ?_ | refine zNT ?_ | fail)
    · have e0 : s.drop 1 = [] := List.eq_nil_of_length_eq_zero (by omega)
      have hne2 : List.drop (Int.toNat 1) (List.take s.length s) = [] := by rw [ed,e0]
      repeat' (first | refine zA ?_ | refine zB ?_ | (refine zC ?_ ?_ <;> intro hc; all_goals first | (cases hc; done) | ((try simp only [hc]); (try simp only [bm] at hc))) | refine zE ?_ | refine zNT ?_ | fail)
      refine Qend.boo rfl rfl ?_
      rw [hnum,hd,e0]; rfl
  · have hd : digs s = s := by rw [digs,if_neg (fun h => hm ⟨h.1,(u8_eq _ 45 (by omega)).2 h.2⟩)]
    by_cases hl : 0 < s.length
    · have hne : ¬ s = [] := (fun h => by rw [h] at hl; simp at hl)
      have hm' : ¬ ((bAt s (Int.toNat 0)).toNat : Int) = 45 := fun h => hm ⟨hl,h⟩
      by_cases h48 : ((bAt s 0).toNat : Int) = 48
      · have h48' : ((bAt s (Int.toNat 0)).toNat : Int) = 48 := h48
        repeat' (first | refine zA ?_ | refine zB ?_ | (refine zC ?_ ?_ <;> intro hc; all_goals first | (cases hc; done) | ((try simp only [hc]); (try simp only [bm] at hc))) | refine zE ?_ | refine zNT ?_ | fail)
        refine Qend.boo rfl rfl ?_
        have : (bAt s 0) = 48 := (u8_eq _ 48 (by omega)).1 h48
        rw [hnum,hd,this]; simp
      · have h48' : ¬ ((bAt s (Int.toNat 0)).toNat : Int) = 48 := h48
        repeat' (first | refine zA ?_ | (exact fin s hd.symm hl h48 hb) | refine zB ?_ | (refine zC ?_ ?_ <;> intro hc; all_goals first | (cases hc; done) | ((try simp only [hc]); (try simp only [bm] at hc))) | refine zE ?_ | refine zNT ?_ | fail)
    · have e0 : s = [] := List.eq_nil_of_length_eq_zero (by omega)
      subst e0
      repeat' (first | refine zA ?_ | refine zB ?_ | (refine zC ?_ ?_ <;> intro hc; all_goals first | (cases hc; done) | ((try simp only [hc]); (try simp only [bm] at hc))) | refine zE ?_ | refine zNT ?_ | fail)
      exact Qend.boo rfl rfl rfl
end Hm

/- Whole numbers in tens in order, as the program has them. Conditions: see each theorem. -/
namespace Hm
open Go (IntKind)
set_option maxHeartbeats 4000000
set_option maxRecDepth 4000
theorem tensSize_ret {T : Tab} (h : Fn T F.tens_size tens_size.fn) (a b : Str) (hl : a.length ≤ 1073741824) (hl' : b.length ≤ 1073741824) : Ret T F.tens_size [.val (.str a),.val (.str b)] (one (.int .i64 (ncmp a b))) := by
  refine Ret.mk h rfl ?_
  repeat' (first | refine zA ?_ | refine zB ?_ | (refine zC ?_ ?_ <;> intro hc; all_goals first | (cases hc; done) | ((try simp only [hc]); (try simp only [bm] at hc))) | refine zE ?_ | refine zN ?_ | fail)
  all_goals refine Qend.num rfl rfl ?_
  all_goals simp only [ncmp,tcmp]
  · have hne : ¬ a.length = b.length := by omega
    simp only [hne,if_false]
    by_cases h1 : a.length < b.length
    · simp only [h1,if_true]
      by_cases h2 : (-1 : Int) > (a.length : Int) - b.length
      · simp [h2]
      · have : (a.length : Int) - b.length = -1 := by omega
        simp [this]
    · simp only [h1,if_false]
      have h2 : ¬ (-1 : Int) > (a.length : Int) - b.length := by omega
      simp only [h2,if_false]
      by_cases h3 : (1 : Int) < (a.length : Int) - b.length
      · simp [h3]
      · have : (a.length : Int) - b.length = 1 := by omega
        simp [this]
  · rw [if_pos (by omega)]; simp_all
  · rw [if_pos (by omega)]; simp_all
  · rw [if_pos (by omega)]; simp_all
theorem tensSplit_ret {T : Tab} (h : Fn T F.tens_split tens_split.fn) (a : Str) (ha : 0 < a.length) (hl : a.length ≤ 1073741824) : Ret T F.tens_split [.val (.str a)] (two (.bool (minus a)) (.str (if minus a then a.drop 1 else a))) := by
  have ed : List.drop (Int.toNat 1) (List.take a.length a) = a.drop 1 := by rw [List.take_length]; rfl
  by_cases hm : ((bAt a 0).toNat : Int) = 45
  · have hm' : ((bAt a (Int.toNat 0)).toNat : Int) = 45 := hm
    have hmm : minus a = true := by simp [minus,hm]
    rw [hmm]
    refine Ret.mk h rfl ?_
    repeat' (first | refine zA ?_ | refine zB ?_ | (refine zC ?_ ?_ <;> intro hc; all_goals first | (cases hc; done) | ((try simp only [hc]); (try simp only [bm] at hc))) | refine zE ?_ | refine zN ?_ | fail)
    refine Qend.two rfl rfl rfl ?_
    rw [ed]
  · have hm' : ¬ ((bAt a (Int.toNat 0)).toNat : Int) = 45 := hm
    have hmm : minus a = false := by simp [minus,hm]
    rw [hmm]
    refine Ret.mk h rfl ?_
    repeat' (first | refine zA ?_ | refine zB ?_ | (refine zC ?_ ?_ <;> intro hc; all_goals first | (cases hc; done) | ((try simp only [hc]); (try simp only [bm] at hc))) | refine zE ?_ | refine zN ?_ | fail)
    exact Qend.two rfl rfl rfl rfl
theorem tensCmp_ret {T : Tab} (h : Fn T F.tens_Cmp tens_Cmp.fn) (h1 : Fn T F.tens_size tens_size.fn) (h2 : Fn T F.tens_split tens_split.fn) (h3 : Fn T F.tens_Formed tens_Formed.fn) (a b : Str) (ha : number a = true) (hb : number b = true) (hl : a.length ≤ 1073741824) (hl' : b.length ≤ 1073741824) :
    Ret T F.tens_Cmp [.val (.str a),.val (.str b)] (two (.int .i64 (zcmp a b)) (.int .i64 0)) := by
  have f1 := tensFormed_ret h3 a hl
  have f2 := tensFormed_ret h3 b hl'
  rw [ha] at f1
  rw [hb] at f2
  have s1 := tensSplit_ret h2 a (number_len ha) hl
  have s2 := tensSplit_ret h2 b (number_len hb) hl'
  have z1 := tensSize_ret h1 a b hl hl'
  have z2 := tensSize_ret h1 (b.drop 1) (a.drop 1) (by simp; omega) (by simp; omega)
  refine Ret.mk h rfl ?_
  cases ma : minus a <;> cases mb : minus b <;> simp only [ma,mb,Bool.false_eq_true,if_false,if_true] at s1 s2
  repeat' (first | refine zA ?_ | refine WQ.cl h3.modes ?_ | refine W1.cl h3.modes (f1) ?_ | refine WQ.cl h3.modes ?_ | refine W1.cl h3.modes (f2) ?_ | refine WQ.cl h2.modes ?_ | refine W1.cl h2.modes (s1) ?_ | refine WQ.cl h2.modes ?_ | refine W1.cl h2.modes (s2) ?_ | refine WQ.cl h1.modes ?_ | refine W1.cl h1.modes (z1) ?_ | refine WQ.cl h1.modes ?_ | refine W1.cl h1.modes (z2) ?_ | refine zB ?_ | (refine zC ?_ ?_ <;> intro hc; all_goals first | (cases hc; done) | ((try simp only [hc]); (try simp only [bm] at hc))) | refine zE ?_ | refine zN ?_ | fail)
  all_goals refine Qend.two rfl rfl ?_ rfl
  all_goals first | (simp [zcmp,ma,mb]; done) | (simp [zcmp,ma,mb]; rfl)
end Hm

/- Whether a number lies in a span, and the text of a number, in package member. Conditions: see each theorem. -/
namespace Hm
open Go (IntKind)
set_option maxHeartbeats 4000000
set_option maxRecDepth 4000
/-- An error, as it is told: nothing, or a misfit with what lies inside. -/
def errAV : Miss → AV
  | [] => .nili
  | (r,s) :: m => .iface 1 (.vptr ([.int .i64 r] ++ s.row ++ [errAV m]))
structure TnFns (T : Tab) : Prop where
  a1 : Fn T F.tens_Cmp tens_Cmp.fn
  a2 : Fn T F.tens_size tens_size.fn
  a3 : Fn T F.tens_split tens_split.fn
  a4 : Fn T F.tens_Formed tens_Formed.fn
section
variable {T : Tab}
theorem number_nil : number [] = false := rfl
theorem tensCmpE_ret (f : TnFns T) (a : Str) (ha : number a = true) (hl : a.length ≤ 1073741824) : Ret T F.tens_Cmp [.val (.str a),.val (.str [])] (two (.int .i64 0) (.int .i64 1)) := by
  have f1 := tensFormed_ret f.a4 a hl
  have f2 := tensFormed_ret f.a4 [] (by simp)
  rw [ha] at f1
  rw [number_nil] at f2
  refine Ret.mk f.a1 rfl ?_
  repeat' (first | refine zA ?_ | refine WQ.cl f.a4.modes ?_ | refine W1.cl f.a4.modes (f1) ?_ | refine WQ.cl f.a4.modes ?_ | refine W1.cl f.a4.modes (f2) ?_ | refine zB ?_ | (refine zC ?_ ?_ <;> intro hc; all_goals first | (cases hc; done) | ((try simp only [hc]); (try simp only [bm] at hc))) | refine zE ?_ | refine zN ?_ | fail)
  all_goals first | exact Qend.two rfl rfl rfl rfl | (exfalso; simp_all; done)
def zcmpE (a b : Str) : Int := if b = [] then 0 else zcmp a b
def zerrE (b : Str) : Int := if b = [] then 1 else 0
theorem tensCmp0_ret (f : TnFns T) (a b : Str) (ha : number a = true) (hb : b ≠ [] → number b = true) (hl : a.length ≤ 1073741824) (hl' : b.length ≤ 1073741824) :
    Ret T F.tens_Cmp [.val (.str a),.val (.str b)] (two (.int .i64 (zcmpE a b)) (.int .i64 (zerrE b))) := by
  by_cases h : b = []
  · subst h; rw [zcmpE,if_pos rfl,zerrE,if_pos rfl]; exact tensCmpE_ret f a ha hl
  · rw [zcmpE,if_neg h,zerrE,if_neg h]; exact tensCmp_ret f.a1 f.a2 f.a3 f.a4 a b ha (hb h) hl hl'
theorem inSpanE (n : Str) (s : Sp) : inSpanB n s = (decide (zcmpE n s.1 ≥ 0) && decide (zcmpE n s.2 ≤ 0)) := by
  unfold inSpanB zcmpE
  by_cases h1 : s.1 = [] <;> by_cases h2 : s.2 = [] <;> simp [h1,h2]
  all_goals first | done | (intro h; exact absurd h h1) | (rw [Bool.eq_iff_iff]; simp [h1,h2])
theorem mInSpan_ret (h : Fn T F.member_inSpan member_inSpan.fn) (f : TnFns T) (n : Str) (s : Str × Str) (hn : number n = true) (hl : n.length ≤ 1073741824) (h1 : s.1 ≠ [] → number s.1 = true) (h2 : s.2 ≠ [] → number s.2 = true)
    (l1 : s.1.length ≤ 1073741824) (l2 : s.2.length ≤ 1073741824) : Ret T F.member_inSpan [.val (.str n),.val (.agg [.str s.1,.str s.2])] (one (.bool (inSpanB n s))) := by
  have r1 := tensCmp0_ret f n s.1 hn h1 hl l1
  have r2 := tensCmp0_ret f n s.2 hn h2 hl l2
  rw [inSpanE]
  generalize zcmpE n s.1 = c1 at *
  generalize zcmpE n s.2 = c2 at *
  generalize zerrE s.1 = d1 at *
  generalize zerrE s.2 = d2 at *
  refine Ret.mk h rfl ?_
  repeat' (first | refine zA ?_ | refine WQ.cl f.a1.modes ?_ | refine W1.cl f.a1.modes (r1) ?_ | refine WQ.cl f.a1.modes ?_ | refine W1.cl f.a1.modes (r2) ?_ | refine zB ?_ | (refine zC ?_ ?_ <;> intro hc; all_goals first | (cases hc; done) | ((try simp only [hc]); (try simp only [bm] at hc))) | refine zE ?_ | refine zN ?_ | fail)
  all_goals first | (refine Qend.boo rfl rfl ?_; simp_all; done) | (refine Qend.boo rfl rfl ?_; simp_all; omega) | (exfalso; simp_all; omega) | trace_state
theorem tensOf_ret (h : Fn T F.tens_Of tens_Of.fn) (hm : T.modes F.strconv_Itoa = [.val]) (hp : T.prim F.strconv_Itoa = some pItoa) (n : Int) (h0 : 0 ≤ n) (h1 : n ≤ 1073741824) : Ret T F.tens_Of [.val (.int .i64 n)] (one (.str (itoa n))) := by
  have r : Ret T F.strconv_Itoa [.val (.int .i64 n)] (one (.str (itoa n))) := Ret.prim hp (by simp only [pItoa]; rw [if_pos (by omega)]; rfl)
  refine Ret.mk h rfl ?_
  repeat' (first | refine zA ?_ | refine WQ.cl hm ?_ | refine W1.cl hm (r) ?_ | refine zB ?_ | (refine zC ?_ ?_ <;> intro hc; all_goals first | (cases hc; done) | ((try simp only [hc]); (try simp only [bm] at hc))) | refine zE ?_ | refine zN ?_ | fail)
  all_goals first | exact ⟨.inr rfl,rfl,rfl⟩ | trace_state
end
end Hm

/- Why an array isn't of a type: the program's walk. NORMX NORMY Conditions: see each theorem. -/
namespace Hm
open Go (IntKind)
set_option maxHeartbeats 4000000
set_option maxRecDepth 4000
section
variable {T : Tab}
structure ToFns (T : Tab) : Prop where
  a1 : Fn T F.tens_Of tens_Of.fn
  m1 : T.modes F.strconv_Itoa = [.val]
  p1 : T.prim F.strconv_Itoa = some pItoa
theorem errAV_cons (r : Int) (s : V) (m : Miss) : errAV ((r,s) :: m) = .iface 1 (.vptr [.int .i64 r,.int .i64 s.kind,.str s.num,.str s.text,.lst 5 (s.items.map V.row),.lst 1 (srow s.keys),errAV m]) := by
  rw [errAV,V.row_eq]; rfl
theorem lookArr_ret (h : Fn T F.member_lookArray member_lookArray.fn) (hl : T.modes F.member_look = [.val,.val]) (f : ToFns T) (v : V) (a : Ar) (hb : v.items.length ≤ 1073741824)
    (ih : ∀ x ∈ v.items,Ret T F.member_look [.val x.av,.val a.item.av] (one (errAV (lookM x a.item)))) : Ret T F.member_lookArray [.val v.av,.val (.agg a.row)] (one (errAV (lkArr (v.items.map lookM) a))) := by
  have e2 : (v.items.map V.row).length = v.items.length := List.length_map ..
  rw [lkArr,List.length_map]
  refine Ret.mk h rfl ?_
  rw [V.av_eq,Ar.row_eq]
  by_cases h1 : (v.items.length : Int) < a.min
  · rw [if_pos h1,errAV_cons]
    have d1 : decide ((v.items.length : Int) < a.min) = true := decide_eq_true h1
    repeat' (first | refine zA ?_ | refine zB ?_ | (refine zC ?_ ?_ <;> intro hc; all_goals first | (cases hc; done) | ((try simp only [hc]); (try simp only [bm] at hc))) | refine zE ?_ | refine zNV ?_ | fail)
    all_goals first | exact ⟨.inr rfl,rfl,rfl⟩ | (exfalso; simp_all; omega) | trace_state
  · rw [if_neg h1]
    by_cases h2 : a.max ≥ 0 ∧ (v.items.length : Int) > a.max
    · rw [if_pos h2,errAV_cons]
      obtain ⟨h2,h3⟩ := h2
      repeat' (first | refine zA ?_ | refine zB ?_ | (refine zC ?_ ?_ <;> intro hc; all_goals first | (cases hc; done) | ((try simp only [hc]); (try simp only [bm] at hc))) | refine zE ?_ | refine zNV ?_ | fail)
      all_goals first | exact ⟨.inr rfl,rfl,rfl⟩ | (exfalso; simp_all; omega) | trace_state
    · rw [if_neg h2]
      repeat' (first | refine zA ?_ | refine zB ?_ | (refine zC ?_ ?_ <;> intro hc; all_goals first | (cases hc; done) | ((try simp only [hc]); (try simp only [bm] at hc))) | refine zE ?_ | refine zNV ?_ | fail)
      all_goals refine W.listP v.items (fun i (_ : Unit) s => s.put 36 (.av (.int .i64 (i : Int)))) (fun i _ => lkItems a.item 0 (v.items.map lookM) = lkItems a.item i ((v.items.drop i).map lookM)) () rfl rfl ?_ ?_
      all_goals first
        | (intro u hp
           rw [List.drop_length,List.map_nil,lkItems] at hp
           rw [hp,errAV]
           repeat' (first | refine zA ?_ | refine zB ?_ | (refine zC ?_ ?_ <;> intro hc; all_goals first | (cases hc; done) | ((try simp only [hc]); (try simp only [bm] at hc))) | refine zE ?_ | refine zNV ?_ | fail)
           exact ⟨.inr rfl,rfl,rfl⟩)
        | (intro i x u hx hi hp
           have r := ih x (List.mem_of_getElem? hx)
           rw [V.av_eq,Ty.av_eq] at r
           have t := tensOf_ret f.a1 f.m1 f.p1 (i : Int) (by omega) (by omega)
           have hd : v.items.drop i = x :: v.items.drop (i + 1) := by
             rw [List.drop_eq_getElem_cons hi]
             rw [List.getElem?_eq_getElem hi,Option.some.injEq] at hx
             rw [hx]
           rw [hd,List.map_cons,lkItems] at hp
           cases hm : lookM x a.item with
           | nil =>
             rw [hm,List.isEmpty_nil,if_pos rfl] at hp
             rw [hm,errAV] at r
             repeat' (first | refine zA ?_ | refine WQ.cl hl ?_ | refine W1.cl hl (r) ?_ | refine WQ.cl f.a1.modes ?_ | refine W1.cl f.a1.modes (t) ?_ | refine zB ?_ | (refine zC ?_ ?_ <;> intro hc; all_goals first | (cases hc; done) | ((try simp only [hc]); (try simp only [bm] at hc))) | refine zE ?_ | refine zNV ?_ | fail)
             all_goals exact ⟨(),hp,rfl⟩
           | cons p m =>
             obtain ⟨q,s⟩ := p
             rw [hm,List.isEmpty_cons,if_neg (by simp)] at hp
             rw [hp,errAV_cons]
             rw [hm] at r
             rw [errAV_cons] at r ⊢
             generalize AV.vptr [.int .i64 q,.int .i64 s.kind,.str s.num,.str s.text,.lst 5 (s.items.map V.row),.lst 1 (srow s.keys),errAV m] = ew at *
             repeat' (first | refine zA ?_ | refine WQ.cl hl ?_ | refine W1.cl hl (r) ?_ | refine WQ.cl f.a1.modes ?_ | refine W1.cl f.a1.modes (t) ?_ | refine zB ?_ | (refine zC ?_ ?_ <;> intro hc; all_goals first | (cases hc; done) | ((try simp only [hc]); (try simp only [bm] at hc))) | refine zE ?_ | refine zNV ?_ | fail)
             all_goals first | exact ⟨.inr rfl,rfl,rfl⟩ | trace_state)
end
end Hm

/- Why an object isn't of one of several alternatives: the program's walk. NORMX NORMY Conditions: see each theorem. -/
namespace Hm
open Go (IntKind)
set_option maxHeartbeats 4000000
set_option maxRecDepth 4000
section
variable {T : Tab}
theorem lkObjs_many {fs : List (Ty → Miss)} {ks : List Str} {l : List Ob} (h : l.length ≠ 1) : lkObjs fs ks l = if l.any (fun o => (lkFields fs ks o).isEmpty) then [] else [(7,zeroV)] := by
  match l,h with
  | [],_ => rfl
  | [o],h => exact absurd rfl h
  | o :: p :: l,_ => rfl
theorem lookObj_ret (h : Fn T F.member_lookObject member_lookObject.fn) (hl : T.modes F.member_lookFields = [.val,.val]) (fs : List (Ty → Miss)) (ks : List Str) (v : V) (l : List Ob) (hb : l.length ≤ 1073741824)
    (ih : ∀ o ∈ l,Ret T F.member_lookFields [.val v.av,.val (.agg o.row)] (one (errAV (lkFields fs ks o)))) : Ret T F.member_lookObject [.val v.av,.val (.lst 12 (l.map Ob.row))] (one (errAV (lkObjs fs ks l))) := by
  have e2 : (l.map Ob.row).length = l.length := List.length_map ..
  by_cases h1 : l.length = 1
  · obtain ⟨o,rfl⟩ := List.length_eq_one_iff.1 h1
    have r := ih o (by simp)
    rw [V.av_eq,Ob.row_eq] at r
    rw [lkObjs]
    refine Ret.mk h rfl ?_
    rw [V.av_eq,List.map_cons,List.map_nil,Ob.row_eq]
    cases hm : lkFields fs ks o with
    | nil =>
      rw [hm,errAV] at r
      rw [errAV]
      repeat' (first | refine zA ?_ | refine WQ.cl hl ?_ | refine W1.cl hl (r) ?_ | refine zB ?_ | (refine zC ?_ ?_ <;> intro hc; all_goals first | (cases hc; done) | ((try simp only [hc]); (try simp only [bm] at hc))) | refine zE ?_ | refine zNV ?_ | fail)
      all_goals first | exact ⟨.inr rfl,rfl,rfl⟩ | (exfalso; simp_all; done) | trace_state
    | cons p m =>
      obtain ⟨q,s⟩ := p
      rw [hm,errAV_cons] at r
      rw [errAV_cons]
      generalize AV.vptr [.int .i64 q,.int .i64 s.kind,.str s.num,.str s.text,.lst 5 (s.items.map V.row),.lst 1 (srow s.keys),errAV m] = ew at *
      repeat' (first | refine zA ?_ | refine WQ.cl hl ?_ | refine W1.cl hl (r) ?_ | refine zB ?_ | (refine zC ?_ ?_ <;> intro hc; all_goals first | (cases hc; done) | ((try simp only [hc]); (try simp only [bm] at hc))) | refine zE ?_ | refine zNV ?_ | fail)
      all_goals first | exact ⟨.inr rfl,rfl,rfl⟩ | (exfalso; simp_all; done) | trace_state
  · have d1 : ((l.length : Int) == 1) = false := by simp; omega
    rw [lkObjs_many h1]
    refine Ret.mk h rfl ?_
    rw [V.av_eq]
    repeat' (first | refine zA ?_ | refine zB ?_ | (refine zC ?_ ?_ <;> intro hc; all_goals first | (cases hc; done) | ((try simp only [hc]); (try simp only [bm] at hc))) | refine zE ?_ | refine zNV ?_ | fail)
    all_goals first | (exfalso; simp_all; omega) | skip
    all_goals refine W.listP l (fun i (_ : Unit) s => s.put 17 (.av (.int .i64 (i : Int)))) (fun i _ => (l.take i).any (fun o => (lkFields fs ks o).isEmpty) = false) () rfl rfl ?_ ?_
    all_goals first
      | (intro u hp
         rw [List.take_length] at hp
         rw [hp,if_neg (by simp),errAV_cons]
         repeat' (first | refine zA ?_ | refine zB ?_ | (refine zC ?_ ?_ <;> intro hc; all_goals first | (cases hc; done) | ((try simp only [hc]); (try simp only [bm] at hc))) | refine zE ?_ | refine zNV ?_ | fail)
         exact ⟨.inr rfl,rfl,rfl⟩)
      | (intro i x u hx hi hp
         have r := ih x (List.mem_of_getElem? hx)
         rw [V.av_eq,Ob.row_eq] at r
         have hq := any_take_succ (p := fun o => (lkFields fs ks o).isEmpty) hx
         cases hm : lkFields fs ks x with
         | nil =>
           have ht := any_true (p := fun o => (lkFields fs ks o).isEmpty) hx (by simp [hm])
           rw [ht,if_pos rfl,errAV]
           rw [hm,errAV] at r
           repeat' (first | refine zA ?_ | refine WQ.cl hl ?_ | refine W1.cl hl (r) ?_ | refine zB ?_ | (refine zC ?_ ?_ <;> intro hc; all_goals first | (cases hc; done) | ((try simp only [hc]); (try simp only [bm] at hc))) | refine zE ?_ | refine zNV ?_ | fail)
           all_goals first | exact ⟨.inr rfl,rfl,rfl⟩ | trace_state
         | cons p m =>
           obtain ⟨q,s⟩ := p
           rw [hp,hm] at hq
           rw [hm,errAV_cons] at r
           generalize AV.vptr [.int .i64 q,.int .i64 s.kind,.str s.num,.str s.text,.lst 5 (s.items.map V.row),.lst 1 (srow s.keys),errAV m] = ew at *
           repeat' (first | refine zA ?_ | refine WQ.cl hl ?_ | refine W1.cl hl (r) ?_ | refine zB ?_ | (refine zC ?_ ?_ <;> intro hc; all_goals first | (cases hc; done) | ((try simp only [hc]); (try simp only [bm] at hc))) | refine zE ?_ | refine zNV ?_ | fail)
           all_goals first | exact ⟨(),by simpa using hq,rfl⟩ | trace_state)
end
end Hm

/- Copies of lists. Conditions: see each theorem. -/
namespace Hm
open Go (IntKind)
set_option maxHeartbeats 4000000
set_option maxRecDepth 4000
theorem W1.appA {T : Tab} {st : St} {K : St → Prop} {dst : Option Nat} {g : Option (Nat × Bool)} {b k : Nat} {x y : Opd} {base : List (List Cell)} {rows : List (List AV)} (hg : wanted st g = some true)
    (hy : st.opd y = .av (.lst k rows)) (hx : st.opd x = .own [.own k base] false) (hl : base.length + rows.length ≤ limit) (hk : K (putD dst (.own [.own k (base ++ rows.map (·.map .av))] false) (x.eat st).hush)) : W1 T ⟨dst,.append b k x y,g⟩ st K := by
  refine W1.go hg (WS.op (v := .own [.own k (base ++ rows.map (·.map .av))] false) (st' := (x.eat st).hush) rfl ?_ hk)
  simp only [stepOp,appNew,hy,if_true,hx,List.length_map,true_and,if_pos hl]
theorem W1.appE {T : Tab} {st : St} {K : St → Prop} {dst : Option Nat} {g : Option (Nat × Bool)} {b k : Nat} {nn : Bool} {x y : Opd} {base : List (List Cell)} (hg : wanted st g = some true)
    (hy : st.opd y = .av (.emp k nn)) (hx : st.opd x = .own [.own k base] false) (hl : base.length ≤ limit) (hk : K (putD dst (.own [.own k (base ++ [])] false) (x.eat st).hush)) : W1 T ⟨dst,.append b k x y,g⟩ st K := by
  refine W1.go hg (WS.op (v := .own [.own k (base ++ [])] false) (st' := (x.eat st).hush) rfl ?_ hk)
  simp only [stepOp,appNew,hy,if_true,hx,List.length_nil,Nat.add_zero,true_and,if_pos hl]
end Hm

/- Values in memory of their own. Conditions: see each theorem. -/
namespace Hm
open Go (IntKind)
set_option maxHeartbeats 4000000
set_option maxRecDepth 4000
def crow (l : List (List AV)) : List (List Cell) := l.map fun r => r.map .av
mutual
def twC : V → List Cell
  | .mk k n t is ks => [.av (.int .i64 k),.av (.str n),.av (.str t),.own 5 (twCs is),.own 1 (crow (srow ks))]
def twCs : List V → List (List Cell)
  | [] => []
  | v :: r => twC v :: twCs r
end
theorem twCs_eq (l : List V) : twCs l = l.map twC := by
  induction l with
  | nil => rfl
  | cons x l ih => simp only [twCs,List.map_cons,ih]
theorem twC_eq (v : V) : twC v = [.av (.int .i64 v.kind),.av (.str v.num),.av (.str v.text),.own 5 (v.items.map twC),.own 1 (crow (srow v.keys))] := by
  cases v with
  | mk k n t is ks => simp only [twC,V.kind,V.num,V.text,V.items,V.keys,twCs_eq]
theorem sealRow_av (r : List AV) : sealRow (r.map .av) = r := by
  induction r with
  | nil => rfl
  | cons x r ih => simp only [List.map_cons,sealRow,Cell.shut,ih]
theorem seal_crow (l : List (List AV)) : sealRows (crow l) = l := by
  induction l with
  | nil => rfl
  | cons x r ih => simp only [crow,List.map_cons,sealRows,sealRow_av] at *; rw [ih]
theorem sealRows_len (l : List (List Cell)) : (sealRows l).length = l.length := by
  induction l with
  | nil => rfl
  | cons x r ih => simp only [sealRows,List.length_cons,ih]
theorem seal_twC (v : V) : sealRow (twC v) = v.row := by
  induction v using V.ind with
  | h v ih =>
  rw [twC_eq,V.row_eq]
  have : sealRows (v.items.map twC) = v.items.map V.row := by
    generalize v.items = l at ih
    induction l with
    | nil => rfl
    | cons x r ih2 => simp only [List.map_cons,sealRows,ih x (by simp),ih2 (fun y hy => ih y (by simp [hy]))]
  simp only [sealRow,Cell.shut,this,seal_crow]
theorem crow_len (l : List (List AV)) : (crow l).length = l.length := by simp [crow]
/-- What Twin reaches. -/
structure TwFns (T : Tab) : Prop where
  a1 : Fn T F.value_Twin value_Twin.fn
  m1 : T.modes F.slices_Clone_Ls = [.val]
  p1 : T.prim F.slices_Clone_Ls = some (pClone 1)
  m2 : T.modes F.slices_Clone_LV = [.val]
  p2 : T.prim F.slices_Clone_LV = some (pClone 5)
theorem clone_prim {T : Tab} {f k : Nat} (hp : T.prim f = some (pClone k)) (rows : List (List AV)) (hl : rows.length ≤ limit) : Ret T f [.val (.lst k rows)] ⟨[([.own k (crow rows)],false)],[]⟩ :=
  Ret.prim hp (by simp only [pClone]; rw [if_pos ⟨trivial,hl⟩]; rfl)
/-- The list of items while it is gone through. -/
def twR (l : List V) (i : Nat) : List (List Cell) := (l.take i).map twC ++ crow ((l.drop i).map V.row)
theorem twR_len (l : List V) (i : Nat) : (twR l i).length = l.length := by simp [twR,crow]; omega
theorem twR_get {l : List V} {i : Nat} {x : V} (h : l[i]? = some x) : (twR l i)[i]? = some (x.row.map .av) := by
  have hl : i < l.length := (List.getElem?_eq_some_iff.1 h).1
  rw [twR,crow,List.getElem?_append_right (by simp; omega),List.getElem?_map,List.getElem?_map,List.getElem?_drop,List.length_map,List.length_take,Nat.min_eq_left (by omega)]
  simp [h]
theorem twR_set {l : List V} {i : Nat} {x : V} (h : l[i]? = some x) : (twR l i).set i (twC x) = twR l (i + 1) := by
  have hl : i < l.length := (List.getElem?_eq_some_iff.1 h).1
  have e1 : ((l.take i).map twC).length = i := by rw [List.length_map,List.length_take]; omega
  rw [List.getElem?_eq_getElem hl] at h
  rw [twR,twR,crow,crow,List.set_append_right _ _ (by omega),e1,Nat.sub_self,List.drop_eq_getElem_cons hl,List.map_cons,List.map_cons,List.set_cons_zero,List.take_succ_eq_append_getElem hl,List.map_append,List.append_assoc]
  simp at h
  simp [h]
theorem twR_all (l : List V) : twR l l.length = l.map twC := by simp [twR,crow]
theorem valueTwin_ret {T : Tab} (f : TwFns T) : ∀ v : V,v.bk ≤ 1073741824 → Ret T F.value_Twin [.val v.av] ⟨[(twC v,true)],[]⟩ := by
  intro v
  induction v using V.ind with
  | h v ih =>
  intro hb
  have hbk := V.bk_eq v
  have hk := len_sbk v.keys
  have hl := V.len_bks v.items
  have c1 := clone_prim f.p1 (srow v.keys) (by rw [srow_len]; show _ ≤ 4294967296; omega)
  have c2 := clone_prim f.p2 (v.items.map V.row) (by rw [List.length_map]; show _ ≤ 4294967296; omega)
  have lr := sealRows_len (crow (v.items.map V.row))
  rw [crow_len,List.length_map] at lr
  refine Ret.mk f.a1 rfl ?_
  rw [V.av_eq,twC_eq]
  repeat' (first | refine zA ?_ | refine WQ.cl f.m1 ?_ | refine W1.cl f.m1 (c1) ?_ | refine WQ.cl f.m2 ?_ | refine W1.cl f.m2 (c2) ?_ | refine zB ?_ | (refine zC ?_ ?_ <;> intro hc; all_goals first | (cases hc; done) | ((try simp only [hc]); (try simp only [bm] at hc))) | refine zE ?_ | refine zN ?_ | fail)
  refine W.list v.items (fun i (_ : Unit) => ⟨lstE [(1,.plc ⟨.box 1,[],0⟩),(2,.plc ⟨.box 2,[],0⟩),(14,.av (.int .i64 ((sealRows (crow (v.items.map V.row))).length : Nat))),(15,.av (.int .i64 (i : Int)))],
    lstB [(1,some [.av (.int .i64 v.kind),.av (.str v.num),.av (.str v.text),.own 5 (twR v.items i),.own 1 (crow (srow v.keys))]),(2,some [.av (.int .i64 0),.av (.str []),.av (.str []),.own 5 [],.own 1 []]),(14,none),(15,none)]⟩) (fun _ _ => True) () rfl trivial ?_ ?_
  · intro i x u hx hi _
    have r := ih x (List.mem_of_getElem? hx) (by have := V.bk_item (List.mem_of_getElem? hx); omega)
    have g1 := twR_len v.items i
    have g2 := twR_get hx
    have g3 := twR_set hx
    have g4 : (x.row.map Cell.av).length = 5 := by rw [V.row_eq]; rfl
    have g5 : x.row.length = 5 := by rw [V.row_eq]; rfl
    rw [twC_eq] at r g3
    repeat' (first | refine zA ?_ | ((apply W1.iadrO; exact rfl; exact rfl; exact rfl; exact rfl; exact rfl; omega; (rw [g1]; omega))) | ((apply W1.loadP (vs := x.row); exact rfl; exact rfl; exact rfl; exact rfl; exact g2; exact g5)) | ((apply W1.storeP (cs' := [.av (.int .i64 v.kind),.av (.str v.num),.av (.str v.text),.own 5 (twR v.items (i + 1)),.own 1 (crow (srow v.keys))]); exact rfl; exact rfl; exact rfl; exact rfl; exact rfl; exact g2; exact rfl; exact g4; (rw [← g3]; rfl))) | refine WQ.cl f.a1.modes ?_ | refine W1.cl f.a1.modes (r) ?_ | refine zB ?_ | (refine zC ?_ ?_ <;> intro hc; all_goals first | (cases hc; done) | ((try simp only [hc]); (try simp only [bm] at hc))) | refine zE ?_ | refine zN ?_ | fail)
    exact ⟨(),trivial,rfl⟩
  · intro u _
    repeat' (first | refine zA ?_ | refine zB ?_ | (refine zC ?_ ?_ <;> intro hc; all_goals first | (cases hc; done) | ((try simp only [hc]); (try simp only [bm] at hc))) | refine zE ?_ | refine zN ?_ | fail)
    exact ⟨.inr rfl,by rw [← twR_all]; rfl,rfl⟩
end Hm

/- One field got: value.Get. Conditions: see each theorem. -/
namespace Hm
open Go (IntKind)
set_option maxHeartbeats 4000000
set_option maxRecDepth 4000
structure GgFns (T : Tab) : Prop where
  a1 : Fn T F.value_Get value_Get.fn
  a4 : Fn T F.slices_Index_Ls slices_Index_Ls.fn
  tw : TwFns T
section
variable {T : Tab}
theorem indexS_ret (h : Fn T F.slices_Index_Ls slices_Index_Ls.fn) (l : List Str) (hl : l.length ≤ 1073741824) (k : Str) :
    ∃ n : Int,((n = -1 ∧ k ∉ l) ∨ ∃ i : Nat,n = (i : Int) ∧ l[i]? = some k ∧ ∀ j,j < i → l[j]? ≠ some k) ∧ Ret T F.slices_Index_Ls [.val (.lst 1 (srow l)),.val (.str k)] (one (.int .i64 n)) := by
  have e1 := srow_len l
  refine Ret.ex1 (g := fun n => AV.int .i64 n) (R := fun n => ((n = -1 ∧ k ∉ l) ∨ ∃ i : Nat,n = (i : Int) ∧ l[i]? = some k ∧ ∀ j,j < i → l[j]? ≠ some k)) h rfl ?_
  repeat' (first | refine zA ?_ | refine zB ?_ | (refine zC ?_ ?_ <;> intro hc; all_goals first | (cases hc; done) | ((try simp only [hc]); (try simp only [bm] at hc))) | refine zE ?_ | refine zN ?_ | fail)
  refine W.listP l (fun i (_ : Unit) s => s.put 8 (.av (.int .i64 (i : Int)))) (fun i _ => ∀ j,j < i → l[j]? ≠ some k) () (by simp) rfl ?_ ?_
  · intro i x u hx hi hp
    repeat' (first | refine zA ?_ | refine zB ?_ | (refine zC ?_ ?_ <;> intro hc; all_goals first | (cases hc; done) | ((try simp only [hc]); (try simp only [bm] at hc))) | refine zE ?_ | refine zN ?_ | fail)
    · refine ⟨_,.inr ⟨i,rfl,?_,hp⟩,Qend.num rfl rfl rfl⟩
      rw [hx]; simp_all
    · refine ⟨(),fun j hj => ?_,rfl⟩
      by_cases hji : j < i
      · exact hp j hji
      · obtain rfl : j = i := by omega
        rw [hx]; intro e; simp_all
  · intro u hp
    repeat' (first | refine zA ?_ | refine zB ?_ | (refine zC ?_ ?_ <;> intro hc; all_goals first | (cases hc; done) | ((try simp only [hc]); (try simp only [bm] at hc))) | refine zE ?_ | refine zN ?_ | fail)
    refine ⟨_,.inl ⟨rfl,fun hm => ?_⟩,Qend.num rfl rfl rfl⟩
    obtain ⟨j,hj⟩ := List.mem_iff_getElem?.1 hm
    exact hp j (List.getElem?_eq_some_iff.1 hj).1 hj
theorem getG_ret (f : GgFns T) (v : V) (hb : v.bk ≤ 1073741824) (k : Str) :
    ∃ C,sealRow C = ((getV v k).getD zeroV).row ∧ Ret T F.value_Get [.val v.av,.val (.str k)] ⟨[(C,true),([.av (.bool (getV v k).isSome)],false)],[]⟩ := by
  have hbk := V.bk_eq v
  have hk := len_sbk v.keys
  have hl := V.len_bks v.items
  have e2 : (v.items.map V.row).length = v.items.length := List.length_map ..
  obtain ⟨n,hn,r1⟩ := indexS_ret f.a4 v.keys (by omega) k
  have main : ∃ r : CR,(∃ C,sealRow C = ((getV v k).getD zeroV).row ∧ r = ⟨[(C,true),([.av (.bool (getV v k).isSome)],false)],[]⟩) ∧ Ret T F.value_Get [.val v.av,.val (.str k)] r := by
    refine Ret.ex f.a1 rfl ?_
    rw [V.av_eq]
    by_cases hk6 : v.kind = 6
    · by_cases hin : ∃ i : Nat,n = (i : Int) ∧ i < v.items.length
      · obtain ⟨i,rfl,hi⟩ := hin
        obtain ⟨x,hx⟩ : ∃ x,v.items[i]? = some x := ⟨v.items[i],List.getElem?_eq_getElem hi⟩
        have hg : getV v k = some x := by
          rcases hn with ⟨h,_⟩ | ⟨j,hj,h1,h2⟩
          · omega
          · obtain rfl : j = i := by omega
            rw [getV,if_pos hk6,lookL_at k h1 h2,hx]
        have rt := valueTwin_ret f.tw x (by have := V.bk_item (List.mem_of_getElem? hx); omega)
        have hC := seal_twC x
        have e0 := V.row_eq x
        rw [V.av_eq,twC_eq] at rt
        rw [twC_eq,e0] at hC
        rw [hg]
        repeat' (first | refine zA ?_ | refine WQ.cl f.a4.modes ?_ | refine W1.cl f.a4.modes (r1) ?_ | (refine W1.cd1 f.tw.a1.modes hC rt ?_) | refine zB ?_ | (refine zC ?_ ?_ <;> intro hc; all_goals first | (cases hc; done) | ((try simp only [hc]); (try simp only [bm] at hc))) | refine zE ?_ | refine zN ?_ | fail)
        all_goals first | (exfalso; omega) | (exfalso; simp_all; done) | skip
        all_goals refine ⟨_,⟨_,?_,rfl⟩,.inr rfl,rfl,rfl⟩
        all_goals exact e0.symm
      · have hg : getV v k = none := by
          rcases hn with ⟨_,h⟩ | ⟨j,hj,h1,h2⟩
          · rw [getV,if_pos hk6,lookL_none k h]
          · rw [getV,if_pos hk6,lookL_at k h1 h2,List.getElem?_eq_none]
            have : ¬ j < v.items.length := fun hlt => hin ⟨j,hj,hlt⟩
            omega
        have hcond : n < 0 ∨ (v.items.length : Int) ≤ n := by
          rcases hn with ⟨h,_⟩ | ⟨j,hj,h1,h2⟩
          · left; omega
          · right
            have : ¬ j < v.items.length := fun hlt => hin ⟨j,hj,hlt⟩
            omega
        rw [hg]
        repeat' (first | refine zA ?_ | refine WQ.cl f.a4.modes ?_ | refine W1.cl f.a4.modes (r1) ?_ | refine zB ?_ | (refine zC ?_ ?_ <;> intro hc; all_goals first | (cases hc; done) | ((try simp only [hc]); (try simp only [bm] at hc))) | refine zE ?_ | refine zN ?_ | fail)
        all_goals first | (exfalso; omega) | (exfalso; simp_all; done) | skip
        all_goals refine ⟨_,⟨_,?_,rfl⟩,.inr rfl,rfl,rfl⟩
        all_goals rfl
    · have hg : getV v k = none := by rw [getV,if_neg hk6]
      rw [hg]
      repeat' (first | refine zA ?_ | refine WQ.cl f.a4.modes ?_ | refine W1.cl f.a4.modes (r1) ?_ | refine zB ?_ | (refine zC ?_ ?_ <;> intro hc; all_goals first | (cases hc; done) | ((try simp only [hc]); (try simp only [bm] at hc))) | refine zE ?_ | refine zN ?_ | fail)
      all_goals first | (exfalso; omega) | (exfalso; simp_all; done) | skip
      all_goals refine ⟨_,⟨_,?_,rfl⟩,.inr rfl,rfl,rfl⟩
      all_goals rfl
  obtain ⟨r,⟨C,hC,rfl⟩,hr⟩ := main
  exact ⟨C,hC,hr⟩
end
end Hm

/- The search in a sorted list. Conditions: see each theorem. -/
namespace Hm
open Go (IntKind)
set_option maxHeartbeats 4000000
set_option maxRecDepth 4000
theorem isNaNs_ret {T : Tab} (h : Fn T F.slices_isNaN_string slices_isNaN_string.fn) (a : Str) : Ret T F.slices_isNaN_string [.val (.str a)] (one (.bool false)) := by
  refine Ret.mk h rfl ?_
  repeat' (first | refine zA ?_ | refine zB ?_ | (refine zC ?_ ?_ <;> intro hc; all_goals first | (cases hc; done) | ((try simp only [hc]); (try simp only [bm] at hc))) | refine zE ?_ | refine zN ?_ | fail)
  exact Qend.boo rfl rfl (by simp)
theorem lessS_ret {T : Tab} (h : Fn T F.cmp_Less_string cmp_Less_string.fn) (h2 : Fn T F.cmp_isNaN_string cmp_isNaN_string.fn) (a b : Str) : Ret T F.cmp_Less_string [.val (.str a),.val (.str b)] (one (.bool (binA.bLess a b))) := by
  have r : ∀ a,Ret T F.cmp_isNaN_string [.val (.str a)] (one (.bool false)) := fun a => by
    refine Ret.mk h2 rfl ?_
    repeat' (first | refine zA ?_ | refine zB ?_ | (refine zC ?_ ?_ <;> intro hc; all_goals first | (cases hc; done) | ((try simp only [hc]); (try simp only [bm] at hc))) | refine zE ?_ | refine zN ?_ | fail)
    exact Qend.boo rfl rfl (by simp)
  refine Ret.mk h rfl ?_
  repeat' (first | refine zA ?_ | refine WQ.cl h2.modes ?_ | refine W1.cl h2.modes (r _) ?_ | refine zB ?_ | (refine zC ?_ ?_ <;> intro hc; all_goals first | (cases hc; done) | ((try simp only [hc]); (try simp only [bm] at hc))) | refine zE ?_ | refine zN ?_ | fail)
  all_goals first | (refine Qend.boo rfl rfl ?_; simp_all; done) | (exfalso; simp_all; done)
theorem binSearch_ret {T : Tab} (h : Fn T F.slices_BinarySearch_Ls slices_BinarySearch_Ls.fn) (hl : Fn T F.cmp_Less_string cmp_Less_string.fn) (h2 : Fn T F.cmp_isNaN_string cmp_isNaN_string.fn)
    (h3 : Fn T F.slices_isNaN_string slices_isNaN_string.fn) (l : List Str) (hb : l.length ≤ 1073741824) (k : Str) (p : Nat) (hp : p ≤ l.length) (hs : ∀ i x,l[i]? = some x → (binA.bLess x k = true ↔ i < p)) :
    Ret T F.slices_BinarySearch_Ls [.val (.lst 1 (srow l)),.val (.str k)] (two (.int .i64 (p : Nat)) (.bool (decide (l[p]? = some k)))) := by
  have e1 := srow_len l
  refine Ret.mk h rfl ?_
  repeat' (first | refine zA ?_ | refine zB ?_ | (refine zC ?_ ?_ <;> intro hc; all_goals first | (cases hc; done) | ((try simp only [hc]); (try simp only [bm] at hc))) | refine zE ?_ | refine zN ?_ | fail)
  refine W.iterP (β := Nat × Nat) (fun b s => (s.put 7 (.av (.int .i64 (b.1 : Int)))).put 8 (.av (.int .i64 (b.2 : Int)))) (fun b => b.1 ≤ p ∧ p ≤ b.2 ∧ b.2 ≤ l.length) (fun b => b.2 - b.1) (0,l.length) ⟨by omega,hp,by omega⟩ ?_ ?_
  · rfl
  · rintro ⟨i,j⟩ ⟨q1,q2,q3⟩
    simp only at q1 q2 q3
    by_cases hij : i < j
    · obtain ⟨x,hx⟩ : ∃ x,l[(i + j) / 2]? = some x := ⟨l[(i + j) / 2]'(by omega),List.getElem?_eq_getElem (by omega)⟩
      have hh : (srow l)[(((i : Int) + (j : Int)) / 2).toNat]? = some [.str x] := by
        rw [show (((i : Int) + (j : Int)) / 2).toNat = (i + j) / 2 by omega]; exact get_srow hx
      have hc1 : (((i + j) / 2 + 1 : Nat) : Int) = ((i : Int) + (j : Int)) / 2 + 1 := by omega
      have hc2 : (((i + j) / 2 : Nat) : Int) = ((i : Int) + (j : Int)) / 2 := by omega
      have r := lessS_ret hl h2 x k
      have hsx := hs _ x hx
      repeat' (first | refine zA ?_ | ((apply W1.toU64; exact rfl; exact rfl; omega; omega)) | ((apply W1.half; exact rfl; exact rfl)) | ((apply W1.toI64; exact rfl; exact rfl; omega; omega)) | refine WQ.cl hl.modes ?_ | refine W1.cl hl.modes (r) ?_ | refine zB ?_ | (refine zC ?_ ?_ <;> intro hc; all_goals first | (cases hc; done) | ((try simp only [hc]); (try simp only [bm] at hc))) | refine zE ?_ | refine zN ?_ | fail)
      all_goals first
        | (refine ⟨((i + j) / 2 + 1,j),⟨?_,?_,?_⟩,?_,?_⟩
           · show (i + j) / 2 + 1 ≤ p
             have := hsx.1 (by assumption); omega
           · exact q2
           · exact q3
           · show j - ((i + j) / 2 + 1) < j - i; omega
           · dsimp only; rw [hc1])
        | (refine ⟨(i,(i + j) / 2),⟨?_,?_,?_⟩,?_,?_⟩
           · exact q1
           · show p ≤ (i + j) / 2
             have : ¬ (i + j) / 2 < p := fun hlt => by have := hsx.2 hlt; simp_all
             omega
           · show (i + j) / 2 ≤ l.length; omega
           · show (i + j) / 2 - i < j - i; omega
           · dsimp only; rw [hc2])
        | trace_state
    · obtain rfl : i = p := by omega
      obtain rfl : i = j := by omega
      by_cases hin : i < l.length
      · obtain ⟨x,hx⟩ : ∃ x,l[i]? = some x := ⟨l[i]'(by omega),List.getElem?_eq_getElem (by omega)⟩
        have r1 := isNaNs_ret h3 x
        have r2 := isNaNs_ret h3 k
        have hq : decide (l[i]? = some k) = (x == k) := by rw [hx,Bool.eq_iff_iff]; simp
        rw [hq]
        repeat' (first | refine zA ?_ | refine WQ.cl h3.modes ?_ | refine W1.cl h3.modes (r1) ?_ | refine WQ.cl h3.modes ?_ | refine W1.cl h3.modes (r2) ?_ | refine zB ?_ | (refine zC ?_ ?_ <;> intro hc; all_goals first | (cases hc; done) | ((try simp only [hc]); (try simp only [bm] at hc))) | refine zE ?_ | refine zN ?_ | fail)
        all_goals first
          | (refine Qend.two rfl rfl rfl ?_; simp_all; done)
          | (exfalso; simp_all; done)
          | trace_state
      · have hq : decide (l[i]? = some k) = false := by rw [List.getElem?_eq_none (by omega)]; simp
        rw [hq]
        repeat' (first | refine zA ?_ | refine zB ?_ | (refine zC ?_ ?_ <;> intro hc; all_goals first | (cases hc; done) | ((try simp only [hc]); (try simp only [bm] at hc))) | refine zE ?_ | refine zN ?_ | fail)
        all_goals first
          | (refine Qend.two rfl rfl rfl ?_; simp_all; done)
          | (exfalso; simp_all; done)
          | trace_state
end Hm

/- Rules that make states plain, in bags with stores. Conditions: see each theorem. -/
namespace Hm
open Go (IntKind)
theorem still_plc (n : Nat) (r : Root) (o : Nat) : (TV.plc ⟨r,[],o⟩).still n = true := by simp [TV.still]
theorem kc : (∀ (ss : List Nat) (st : St) (k : Nat),getE (st.calm ss).env k = if ss.all (fun n => (getE st.env k).still n) then getE st.env k else .und) ∧ (∀ (ss : List Nat) (st : St),(st.calm ss).boxes = st.boxes) ∧
    (∀ (n : Nat) (v : AV),(TV.av v).still n = true) ∧ (∀ (n : Nat) (cs : List Cell) (g : Bool),(TV.own cs g).still n = true) ∧ (∀ (n : Nat) (r : Root) (o : Nat),(TV.plc ⟨r,[],o⟩).still n = true) ∧
    (∀ n : Nat,TV.und.still n = true) ∧ (∀ n : Nat,TV.skp.still n = true) ∧ (∀ (n : Nat) (l : List (Option (List Cell × Bool))),(TV.tup l).still n = true) ∧ (∀ (n : Nat) (ss : List Nat) (p : Nat → Bool),(n :: ss).all p = (p n && ss.all p)) ∧ (∀ p : Nat → Bool,([] : List Nat).all p = true) ∧ ((true && true) = true) :=
  ⟨fun _ _ _ => rfl,fun _ _ => rfl,fun _ _ => rfl,fun _ _ _ => rfl,still_plc,fun _ => rfl,fun _ => rfl,fun _ _ => rfl,fun _ _ _ => rfl,fun _ => rfl,rfl⟩
theorem zNZ {P Q : Prop} (q : Q) (k : Q → P := by intro q; simp only [kc,sprow_len,brow_len,srow_len,List.length_map,Qit,Int.toNat_natCast,entry,Opd.eat,cellsOf,TV.ofCells,allAv,Qseq,Qblk,List.map_cons,List.map_nil,putD,kp,Nat.reduceEqDiff,↓reduceIte,beq_self_eq_true,Nat.reduceBEq,kr,sealRow,sealRows,Cell.shut,one,St.freeze,kq,List.drop_zero,List.drop_succ_cons,List.take_succ_cons,List.take_zero,List.cons_append,List.nil_append,Nat.zero_add,resTV,tvOf,List.length_cons,List.length_nil,Nat.reduceAdd]; exact q) : P := k q
end Hm

/- Plain lemmas, split off. NORMX NORMY Conditions: none (definitions and plain lemmas). -/
namespace Hm
open Go (IntKind)
section
variable {T : Tab}
def posS : List Str → Str → Nat
  | [],_ => 0
  | a :: r,k => if binA.bLess a k = true then posS r k + 1 else 0
theorem posS_le : ∀ (l : List Str) (k : Str),posS l k ≤ l.length
  | [],_ => Nat.le_refl _
  | a :: r,k => by have := posS_le r k; simp only [posS,List.length_cons]; split <;> omega
theorem posS_spec (k : Str) : ∀ {l : List Str},(l.Pairwise fun a b => binA.bLess a b = true) → ∀ (i : Nat) (y : Str),l[i]? = some y → (binA.bLess y k = true ↔ i < posS l k)
  | [],_,i,y,h => by simp at h
  | f :: r,hm,i,y,h => by
    obtain ⟨h1,h2⟩ := List.pairwise_cons.1 hm
    simp only [posS]
    by_cases hf : binA.bLess f k = true
    · rw [if_pos hf]
      cases i with
      | zero => simp at h; subst h; simp [hf]
      | succ i =>
        simp only [List.getElem?_cons_succ] at h
        rw [posS_spec k h2 i y h]; omega
    · rw [if_neg hf]
      refine ⟨fun hy => ?_,fun h => by omega⟩
      cases i with
      | zero => simp at h; subst h; exact absurd hy hf
      | succ i =>
        simp only [List.getElem?_cons_succ] at h
        exact absurd (bLess_trans _ _ _ (h1 y (List.mem_of_getElem? h)) hy) hf
theorem posS_mem {l : List Str} {k : Str} (hl : l.Pairwise fun a b => binA.bLess a b = true) (h : k ∈ l) : l[posS l k]? = some k := by
  obtain ⟨i,hi⟩ := List.mem_iff_getElem?.1 h
  have h1 := posS_spec k hl i k hi
  rw [bLess_irrefl] at h1
  have hle : posS l k ≤ i := Nat.le_of_not_lt fun h => by simpa using h1.2 h
  rcases Nat.lt_or_ge (posS l k) i with hlt | hge
  · have hil := (List.getElem?_eq_some_iff.1 hi).1
    obtain ⟨y,hy⟩ : ∃ y,l[posS l k]? = some y := ⟨l[posS l k]'(by omega),List.getElem?_eq_getElem (by omega)⟩
    have h2 := posS_spec k hl (posS l k) y hy
    have h3 : binA.bLess y k = true := by
      obtain ⟨_,e1⟩ := List.getElem?_eq_some_iff.1 hy
      obtain ⟨_,e2⟩ := List.getElem?_eq_some_iff.1 hi
      have := List.pairwise_iff_getElem.1 hl (posS l k) i (by omega) hil hlt
      rw [e1,e2] at this
      exact this
    have := h2.1 h3
    omega
  · rw [show posS l k = i by omega]; exact hi
theorem sealRow_avp : ∀ r : List AV,sealRow (r.map .av) = r
  | [] => rfl
  | x :: r => by simp only [List.map_cons,sealRow,Cell.shut,sealRow_avp r]
/-- A call whose one result, a list, is sealed. -/
theorem W1.callDL {T : Tab} {st st' : St} {K : St → Prop} {dst : Option Nat} {gd : Option (Nat × Bool)} {f : Opd} {xs : List Opd} {g k : Nat} {first cs : List AV} {t0 t : Bool} {ms : List PMode} {l : List Arg} {ks : List Nat} {rows : List (List Cell)} {rs : List (List AV)} (hC : sealRows rows = rs)
    (hg : wanted st gd = some true) (hf : (st.opd f).fn = some (g,first,cs,t0)) (hm : T.modes g = ms) (ha : args st (ms.drop first.length) xs = some (l,t,ks,st')) (hio : hasIo l = false) (hmv : hasMv l = false)
    (hr : Ret T g (first.map .val ++ l ++ cs.map .val) ⟨[([.own k rows],false)],[]⟩) (ht : (t0 || t) = false) (hk : K (putD dst (.av (.lst k rs)) st')) : W1 T ⟨dst,.call .deep f xs,gd⟩ st K := by
  refine W1.callV hg hf hm ha hio hmv hr (by rw [ht]; rfl) ?_
  show K (putD dst (.av (.lst k (sealRows rows))) st')
  rw [hC]; exact hk
end
end Hm

/- Why an object isn't of an alternative: the program's walk, names first. NORMX NORMY Conditions: see each theorem. -/
namespace Hm
open Go (IntKind)
set_option maxHeartbeats 4000000
set_option maxRecDepth 4000
section
variable {T : Tab}
theorem lkA_there {α : Type} : ∀ {ks : List Str} {xs : List α} {s : Str},ks.length = xs.length → (lkA ks xs s).isSome = ks.contains s
  | [],xs,s,_ => by cases xs <;> rfl
  | k :: ks,[],s,h => by simp at h
  | k :: ks,x :: xs,s,h => by
    rw [lkA,List.contains_cons]
    by_cases e : k = s
    · rw [if_pos e,e]; simp
    · rw [if_neg e,lkA_there (by simpa using h)]
      have : (s == k) = false := by simpa using fun h => e h.symm
      rw [this,Bool.false_or]
/-- Is there a field of that name? -/
theorem getV_some {v : V} (hk : v.kind = 6) (hl : v.keys.length = v.items.length) (k : Str) : (getV v k).isSome = v.keys.contains k := by
  rw [getV,if_pos hk,← lkA_lookL _ _ _ hl,lkA_there hl]
/-- What the search in a sorted list reaches. -/
structure BsFns (T : Tab) : Prop where
  a1 : Fn T F.slices_BinarySearch_Ls slices_BinarySearch_Ls.fn
  a2 : Fn T F.cmp_Less_string cmp_Less_string.fn
  a3 : Fn T F.cmp_isNaN_string cmp_isNaN_string.fn
  a4 : Fn T F.slices_isNaN_string slices_isNaN_string.fn
theorem mstO_at {o : Ob} (ho : ObOk o) {i : Nat} {s : Str} {m : Bool} (h : o.names[i]? = some s) (hm : o.must[i]? = some m) : mstO o s = m := by rw [mstO,lkA_at ho.asc h,hm]; rfl
theorem lookFields_ret (h : Fn T F.member_lookFields member_lookFields.fn) (hl : T.modes F.member_look = [.val,.val]) (g : GgFns T) (q : BsFns T) (v : V) (o : Ob) (hk : v.kind = 6) (hlen : v.keys.length = v.items.length)
    (hb : v.bk ≤ 1073741824) (hob : o.bk ≤ 1073741824) (ho : ObOk o) (ih : ∀ x ∈ v.items,∀ k : Str,Ret T F.member_look [.val x.av,.val (fldO o k).av] (one (errAV (lookM x (fldO o k))))) :
    Ret T F.member_lookFields [.val v.av,.val (.agg o.row)] (one (errAV (lkFields (v.items.map lookM) v.keys o))) := by
  have hbk := Ob.bk_eq o
  have hvk := V.bk_eq v
  have l1 := len_sbk o.names
  have l2 := len_sbk v.keys
  have q1 := ho.l1
  have q2 := ho.l2
  have e1 := srow_len o.names
  have e2 := srow_len v.keys
  have e3 : (o.fields.map Ty.row).length = o.fields.length := List.length_map ..
  have e4 := brow_len o.must
  have e5 : (v.items.map V.row).length = v.items.length := List.length_map ..
  refine Ret.mk h rfl ?_
  rw [V.av_eq,Ob.row_eq]
  repeat' (first | refine zA ?_ | refine zB ?_ | (refine zC ?_ ?_ <;> intro hc; all_goals first | (cases hc; done) | ((try simp only [hc]); (try simp only [bm] at hc))) | refine zE ?_ | refine zNV ?_ | fail)
  refine W.listP o.names (fun i (_ : Unit) s => s.put 18 (.av (.int .i64 (i : Int)))) (fun i _ => lkNames o v.keys o.names = lkNames o v.keys (o.names.drop i)) () rfl rfl ?_ ?_
  · intro i s u hx hi hp
    obtain ⟨m,hmi⟩ : ∃ m,o.must[i]? = some m := ⟨o.must[i]'(by omega),List.getElem?_eq_getElem (by omega)⟩
    have hm := mstO_at ho hx hmi
    have hd : o.names.drop i = s :: o.names.drop (i + 1) := by
      rw [List.drop_eq_getElem_cons hi]
      rw [List.getElem?_eq_getElem hi,Option.some.injEq] at hx
      rw [hx]
    rw [hd,lkNames,hm] at hp
    obtain ⟨C,hC,r⟩ := getG_ret g v hb s
    rw [getV_some hk hlen] at r
    rw [V.row_eq] at hC
    rw [V.av_eq] at r
    generalize (getV v s).getD zeroV = y at hC
    generalize v.keys.contains s = th at *
    cases m <;> cases th
    all_goals simp only [Bool.not_true,Bool.not_false,Bool.and_true,Bool.and_false,Bool.false_and,Bool.false_eq_true,if_true,if_false] at hp
    all_goals skip
    repeat' (first | refine zA ?_ | (refine W1.cd2 g.a1.modes hC r ?_) | (refine WQ.cl g.a1.modes ?_) | refine zB ?_ | (refine zC ?_ ?_ <;> intro hc; all_goals first | (cases hc; done) | ((try simp only [hc]); (try simp only [bm] at hc))) | refine zE ?_ | refine zNV ?_ | fail)
    all_goals first
      | (refine ⟨(),hp,rfl⟩)
      | (rw [lkFields,hp,if_neg (by simp),errAV_cons]; exact ⟨.inr rfl,rfl,rfl⟩)
      | trace_state
  · intro u hp
    rw [List.drop_length,lkNames] at hp
    have hF : lkFields (v.items.map lookM) v.keys o = lkKeys o v.keys (v.items.map lookM) := by rw [lkFields,hp]; rfl
    rw [hF]
    repeat' (first | refine zA ?_ | refine zB ?_ | (refine zC ?_ ?_ <;> intro hc; all_goals first | (cases hc; done) | ((try simp only [hc]); (try simp only [bm] at hc))) | refine zE ?_ | refine zNV ?_ | fail)
    refine W.listP v.keys (fun i (_ : Unit) s => s.put 47 (.av (.int .i64 (i : Int)))) (fun i _ => lkKeys o v.keys (v.items.map lookM) = lkKeys o (v.keys.drop i) ((v.items.drop i).map lookM)) () rfl rfl ?_ ?_
    · intro i s u hx hi hq
      obtain ⟨x,hxi⟩ : ∃ x,v.items[i]? = some x := ⟨v.items[i]'(by omega),List.getElem?_eq_getElem (by omega)⟩
      have r := ih x (List.mem_of_getElem? hxi) s
      have hd : v.keys.drop i = s :: v.keys.drop (i + 1) := by
        rw [List.drop_eq_getElem_cons hi]
        rw [List.getElem?_eq_getElem hi,Option.some.injEq] at hx
        rw [hx]
      have hd' : v.items.drop i = x :: v.items.drop (i + 1) := by
        have hi' : i < v.items.length := by omega
        rw [List.drop_eq_getElem_cons hi']
        rw [List.getElem?_eq_getElem hi',Option.some.injEq] at hxi
        rw [hxi]
      rw [hd,hd',List.map_cons,lkKeys] at hq
      have r0 := binSearch_ret q.a1 q.a2 q.a3 q.a4 o.names (by omega) s (posS o.names s) (posS_le _ _) (posS_spec s ho.asc)
      rw [V.av_eq,Ty.av_eq] at r
      by_cases hs : s ∈ o.names
      · have hps := posS_mem ho.asc hs
        have hpl := (List.getElem?_eq_some_iff.1 hps).1
        rw [hps] at r0
        simp only [decide_true] at r0
        generalize posS o.names s = p at *
        obtain ⟨t,ht⟩ : ∃ t,o.fields[p]? = some t := ⟨o.fields[p]'(by omega),List.getElem?_eq_getElem (by omega)⟩
        have g1 : fldO o s = t := by rw [fldO,lkA_at ho.asc hps,ht]; rfl
        rw [g1] at r hq
        cases hm : lookM x t with
        | nil =>
          rw [hm,List.isEmpty_nil,if_pos rfl] at hq
          rw [hm,errAV] at r
          repeat' (first | refine zA ?_ | refine WQ.cl q.a1.modes ?_ | refine W1.cl q.a1.modes (r0) ?_ | refine WQ.cl hl ?_ | refine W1.cl hl (r) ?_ | (refine WQ.cl hl ?_) | refine zB ?_ | (refine zC ?_ ?_ <;> intro hc; all_goals first | (cases hc; done) | ((try simp only [hc]); (try simp only [bm] at hc))) | refine zE ?_ | refine zNV ?_ | fail)
          all_goals first | exact ⟨(),hq,rfl⟩ | trace_state
        | cons pp m =>
          obtain ⟨z,w⟩ := pp
          rw [hm,List.isEmpty_cons,if_neg (by simp)] at hq
          rw [hq,errAV_cons]
          rw [hm] at r
          rw [errAV_cons] at r ⊢
          generalize AV.vptr [.int .i64 z,.int .i64 w.kind,.str w.num,.str w.text,.lst 5 (w.items.map V.row),.lst 1 (srow w.keys),errAV m] = ew at *
          repeat' (first | refine zA ?_ | refine WQ.cl q.a1.modes ?_ | refine W1.cl q.a1.modes (r0) ?_ | refine WQ.cl hl ?_ | refine W1.cl hl (r) ?_ | (refine WQ.cl hl ?_) | refine zB ?_ | (refine zC ?_ ?_ <;> intro hc; all_goals first | (cases hc; done) | ((try simp only [hc]); (try simp only [bm] at hc))) | refine zE ?_ | refine zNV ?_ | fail)
          all_goals first | exact ⟨.inr rfl,rfl,rfl⟩ | trace_state
      · have hps : decide (o.names[posS o.names s]? = some s) = false := decide_eq_false fun h => hs (List.mem_of_getElem? h)
        rw [hps] at r0
        rw [fldO_out hs] at r hq
        generalize posS o.names s = p at *
        generalize o.rest = t at *
        cases hm : lookM x t with
        | nil =>
          rw [hm,List.isEmpty_nil,if_pos rfl] at hq
          rw [hm,errAV] at r
          repeat' (first | refine zA ?_ | refine WQ.cl q.a1.modes ?_ | refine W1.cl q.a1.modes (r0) ?_ | refine WQ.cl hl ?_ | refine W1.cl hl (r) ?_ | (refine WQ.cl hl ?_) | refine zB ?_ | (refine zC ?_ ?_ <;> intro hc; all_goals first | (cases hc; done) | ((try simp only [hc]); (try simp only [bm] at hc))) | refine zE ?_ | refine zNV ?_ | fail)
          all_goals first | exact ⟨(),hq,rfl⟩ | trace_state
        | cons pp m =>
          obtain ⟨z,w⟩ := pp
          rw [hm,List.isEmpty_cons,if_neg (by simp)] at hq
          rw [hq,errAV_cons]
          rw [hm] at r
          rw [errAV_cons] at r ⊢
          generalize AV.vptr [.int .i64 z,.int .i64 w.kind,.str w.num,.str w.text,.lst 5 (w.items.map V.row),.lst 1 (srow w.keys),errAV m] = ew at *
          repeat' (first | refine zA ?_ | refine WQ.cl q.a1.modes ?_ | refine W1.cl q.a1.modes (r0) ?_ | refine WQ.cl hl ?_ | refine W1.cl hl (r) ?_ | (refine WQ.cl hl ?_) | refine zB ?_ | (refine zC ?_ ?_ <;> intro hc; all_goals first | (cases hc; done) | ((try simp only [hc]); (try simp only [bm] at hc))) | refine zE ?_ | refine zNV ?_ | fail)
          all_goals first | exact ⟨.inr rfl,rfl,rfl⟩ | trace_state
    · intro u hq
      have e0 : ∀ l : List (Ty → Miss),lkKeys o [] l = [] := fun l => by cases l <;> rfl
      rw [List.drop_length,e0] at hq
      rw [hq,errAV]
      repeat' (first | refine zA ?_ | refine zB ?_ | (refine zC ?_ ?_ <;> intro hc; all_goals first | (cases hc; done) | ((try simp only [hc]); (try simp only [bm] at hc))) | refine zE ?_ | refine zNV ?_ | fail)
      exact ⟨.inr rfl,rfl,rfl⟩
end
end Hm

/- Is a value of a type: the program's In, out of what look tells. NORMX NORMY Conditions: see each theorem. -/
namespace Hm
open Go (IntKind)
set_option maxHeartbeats 4000000
set_option maxRecDepth 4000
section
variable {T : Tab}
theorem mFormed_ret (h : Fn T F.member_formed member_formed.fn) (hv : T.modes F.value_Formed = [.val]) (ht : T.modes F.shape_Formed = [.val]) (v : V) (t : Ty)
    (rV : Ret T F.value_Formed [.val v.av] (one (.bool (formed v)))) (rT : Ret T F.shape_Formed [.val t.av] (one (.bool (tformed t)))) : Ret T F.member_formed [.val v.av,.val t.av] (one (.bool (formed v && tformed t))) := by
  rw [V.av_eq] at *
  rw [Ty.av_eq] at *
  generalize formed v = b1 at *
  generalize tformed t = b2 at *
  refine Ret.mk h rfl ?_
  repeat' (first | refine zA ?_ | refine WQ.cl hv ?_ | refine W1.cl hv (rV) ?_ | refine WQ.cl ht ?_ | refine W1.cl ht (rT) ?_ | refine zB ?_ | (refine zC ?_ ?_ <;> intro hc; all_goals first | (cases hc; done) | ((try simp only [hc]); (try simp only [bm] at hc))) | refine zE ?_ | refine zNV ?_ | fail)
  all_goals first | (refine Qend.boo rfl rfl ?_; simp_all; done) | exact Qend.boo rfl rfl rfl | trace_state
theorem mIn_ret (h : Fn T F.member_In member_In.fn) (hm : T.modes F.member_formed = [.val,.val]) (hl : T.modes F.member_look = [.val,.val]) (v : V) (t : Ty) (hv : formed v = true) (ht : tformed t = true)
    (rF : Ret T F.member_formed [.val v.av,.val t.av] (one (.bool true))) (rL : Ret T F.member_look [.val v.av,.val t.av] (one (errAV (lookM v t)))) :
    Ret T F.member_In [.val v.av,.val t.av] (two (.bool (inT v t)) (.int .i64 0)) := by
  rw [← lookM_nil v hv t ht]
  rw [V.av_eq,Ty.av_eq] at *
  refine Ret.mk h rfl ?_
  cases hq : lookM v t with
  | nil =>
    rw [hq,errAV] at rL
    repeat' (first | refine zA ?_ | refine WQ.cl hm ?_ | refine W1.cl hm (rF) ?_ | refine WQ.cl hl ?_ | refine W1.cl hl (rL) ?_ | refine zB ?_ | (refine zC ?_ ?_ <;> intro hc; all_goals first | (cases hc; done) | ((try simp only [hc]); (try simp only [bm] at hc))) | refine zE ?_ | refine zNV ?_ | fail)
    all_goals first | exact Qend.two rfl rfl rfl rfl | trace_state
  | cons p m =>
    obtain ⟨q,s⟩ := p
    rw [hq,errAV_cons] at rL
    generalize AV.vptr [.int .i64 q,.int .i64 s.kind,.str s.num,.str s.text,.lst 5 (s.items.map V.row),.lst 1 (srow s.keys),errAV m] = ew at *
    repeat' (first | refine zA ?_ | refine WQ.cl hm ?_ | refine W1.cl hm (rF) ?_ | refine WQ.cl hl ?_ | refine W1.cl hl (rL) ?_ | refine zB ?_ | (refine zC ?_ ?_ <;> intro hc; all_goals first | (cases hc; done) | ((try simp only [hc]); (try simp only [bm] at hc))) | refine zE ?_ | refine zNV ?_ | fail)
    all_goals first | exact Qend.two rfl rfl rfl rfl | trace_state
end
end Hm

/- Why a value isn't of a type: the program's walk, whole. NORMX NORMY NORMC Conditions: both well shaped. -/
namespace Hm
open Go (IntKind)
set_option maxHeartbeats 40000000
set_option maxRecDepth 4000
section
variable {T : Tab}
/-- What the search for a text reaches. -/
structure ChFns (T : Tab) : Prop where
  a1 : Fn T F.slices_Contains_Ls slices_Contains_Ls.fn
  gg : GgFns T
theorem mContains_ret (f : ChFns T) (l : List Str) (hl : l.length ≤ 1073741824) (k : Str) : Ret T F.slices_Contains_Ls [.val (.lst 1 (srow l)),.val (.str k)] (one (.bool (l.contains k))) := by
  obtain ⟨n,hn,r⟩ := indexS_ret f.gg.a4 l hl k
  have hn' : 0 ≤ n ↔ l.contains k = true := by
    rw [List.contains_iff_mem]
    rcases hn with ⟨e,h⟩ | ⟨i,e,h,_⟩
    · rw [e]; exact ⟨fun h => by omega,fun h' => absurd h' h⟩
    · rw [e]; exact ⟨fun _ => List.mem_of_getElem? h,fun _ => by omega⟩
  refine Ret.mk f.a1 rfl ?_
  repeat' (first | refine zA ?_ | refine WQ.cl f.gg.a4.modes ?_ | refine W1.cl f.gg.a4.modes (r) ?_ | refine zB ?_ | (refine zC ?_ ?_ <;> intro hc; all_goals first | (cases hc; done) | ((try simp only [hc]); (try simp only [bm] at hc))) | refine zE ?_ | refine zNZ ?_ | fail)
  refine Qend.boo rfl rfl ?_
  rw [Bool.eq_iff_iff,← hn']; simp
/-- What look reaches. -/
structure LkFns (T : Tab) : Prop where
  a1 : Fn T F.member_look member_look.fn
  a2 : Fn T F.member_lookArray member_lookArray.fn
  a3 : Fn T F.member_lookObject member_lookObject.fn
  a4 : Fn T F.member_lookFields member_lookFields.fn
  a5 : Fn T F.member_inSpan member_inSpan.fn
  a6 : Fn T F.shape_Kinds shape_Kinds.fn
  tn : TnFns T
  to : ToFns T
  ch : ChFns T
  bs : BsFns T
theorem kb_and (n k : Int) : (IntKind.wrap .u8 (((BitVec.ofInt (IntKind.bits .u8) (n.fdiv (2 ^ (min k.toNat (IntKind.bits .u8))))) &&& BitVec.ofInt (IntKind.bits .u8) 1).toNat : Int) = 0) ↔ kb n k = false := by
  unfold kb
  generalize BitVec.ofInt (IntKind.bits .u8) (n.fdiv (2 ^ (min k.toNat (IntKind.bits .u8)))) = x
  have h : (x &&& BitVec.ofInt (IntKind.bits .u8) 1).toNat = x.toNat % 2 := by
    rw [BitVec.toNat_and]
    exact Nat.and_one_is_mod _
  rw [h]
  rcases Nat.mod_two_eq_zero_or_one x.toNat with e | e
  · rw [e]; decide
  · rw [e]; decide
/-- What is told by the kind, where the type is not all. -/
theorem look_of (v : V) (t : Ty) (hA : t.all = false) (tk : Int) (hK : tK t = tk) {b : Bool} (hb : kb tk v.kind = b) (hn : b = false) : lookM v t = [(1,zeroV)] := by
  rw [lookM_eq,lookBody,hA,hK,hb,hn]; rfl
theorem look_at (v : V) (t : Ty) (hA : t.all = false) (tk : Int) (hK : tK t = tk) (hb : kb tk v.kind = true) : lookM v t =
    (if v.kind = 3 then (match t.nums with | [] => [] | s :: _ => if inSpanB v.num s then [] else [(2,zeroV)]) else
    if v.kind = 4 then (if t.anyText || t.texts.contains v.text then [] else [(3,zeroV)]) else
    if v.kind = 5 then (match t.arrays with | [] => [] | a :: _ => lkArr (v.items.map lookM) a) else
    if v.kind = 6 then lkObjs (v.items.map lookM) v.keys t.objects else []) := by
  rw [lookM_eq,lookBody,hA,hK,hb]; rfl
theorem look_lo (v : V) (t : Ty) (hA : t.all = false) (tk : Int) (hK : tK t = tk) (hb : kb tk v.kind = true) {k : Int} (hk : v.kind = k) (h3 : k < 3) : lookM v t = [] := by
  rw [look_at v t hA tk hK hb,hk,if_neg (by omega),if_neg (by omega),if_neg (by omega),if_neg (by omega)]
theorem mfld_bk {t : Ty} {o : Ob} (h : o ∈ t.objects) (s : Str) : (fldO o s).bk < t.bk := by
  have := obBk_mem h
  have := Ob.bk_eq o
  have := Ty.bk_eq t
  rcases fldO_mem o s with hm | hm
  · have := tyBk_mem hm
    omega
  · rw [hm]; omega
theorem look_ret (f : LkFns T) : ∀ v : V,v.bk ≤ 1073741824 → formed v = true → ∀ t : Ty,t.bk ≤ 1073741824 → tformed t = true → Ret T F.member_look [.val v.av,.val t.av] (one (errAV (lookM v t))) := by
  intro v
  induction v using V.ind with
  | h v ih =>
  intro hb hf t hbt hft
  obtain ⟨p1,p2,p3⟩ := tformed_parts hft
  have hfi := formed_inv hf
  have hbk := V.bk_eq v
  have hl := V.len_bks v.items
  have htk := Ty.bk_eq t
  have l1 := len_sbk t.texts
  have l2 := len_obBks t.objects
  have e1 := srow_len t.texts
  have e2 : (t.objects.map Ob.row).length = t.objects.length := List.length_map ..
  have ih' : ∀ x ∈ v.items,∀ u : Ty,u.bk ≤ 1073741824 → tformed u = true → Ret T F.member_look [.val x.av,.val u.av] (one (errAV (lookM x u))) := fun x hx u hu hu2 => ih x hx (by have := V.bk_item hx; omega) (hfi.2.2.2.2.2.2.2.2 x hx) u hu hu2
  cases hA : t.all
  rotate_left
  · have hL : lookM v t = [] := by rw [lookM_eq,lookBody,hA]; rfl
    rw [hL,errAV]
    refine Ret.mk f.a1 rfl ?_
    rw [V.av_eq,Ty.av_eq,hA]
    repeat' (first | refine zA ?_ | refine zB ?_ | (refine zC ?_ ?_ <;> intro hc; all_goals first | (cases hc; done) | ((try simp only [hc]); (try simp only [bm] at hc))) | refine zE ?_ | refine zNZ ?_ | fail)
    all_goals exact ⟨.inr rfl,rfl,rfl⟩
  have r0 := kinds_ret f.a6 t
  rw [Ty.av_eq,hA] at r0
  obtain ⟨k0,k1,k2,k3,k4,k5,k6⟩ := kfl_kb t.nul t.fls t.tru (decide ((t.nums.length : Int) > 0)) (t.anyText || decide ((t.texts.length : Int) > 0)) (decide ((t.arrays.length : Int) > 0)) (decide ((t.objects.length : Int) > 0))
  have hK : tK t = kfl (tKinds t) 0 0 := by rw [tK,hA]; rfl
  rw [tKinds] at hK
  generalize kfl [t.nul,t.fls,t.tru,decide ((t.nums.length : Int) > 0),t.anyText || decide ((t.texts.length : Int) > 0),decide ((t.arrays.length : Int) > 0),decide ((t.objects.length : Int) > 0)] 0 0 = tk at *
  rw [hK] at r0
  rcases kinds7 hf with (hk | hk | hk) | hk | hk | hk | hk
  · have e := kb_and tk 0
    rw [k0] at e
    have hq := k0
    rw [← hk] at hq
    have hLo := look_of v t hA tk hK hq
    refine Ret.mk f.a1 rfl ?_
    rw [V.av_eq,Ty.av_eq,hk,hA]
    cases hn : t.nul
    · rw [hn] at e r0
      rw [hLo hn,errAV_cons]
      have e := e.2 rfl
      repeat' (first | refine zA ?_ | refine WQ.cl f.a6.modes ?_ | refine W1.cl f.a6.modes (r0) ?_ | (refine WQ.cl f.a6.modes ?_) | refine zB ?_ | (refine zC ?_ ?_ <;> intro hc; all_goals first | (cases hc; done) | ((try simp only [hc]); (try simp only [bm] at hc))) | refine zE ?_ | refine zNZ ?_ | fail)
      all_goals first | exact absurd e hc | exact ⟨.inr rfl,rfl,rfl⟩ | trace_state
    · rw [hn] at e r0
      have e := mt e.1 (by simp)
      rw [look_lo v t hA tk hK (hq.trans hn) hk (by decide),errAV]
      repeat' (first | refine zA ?_ | refine WQ.cl f.a6.modes ?_ | refine W1.cl f.a6.modes (r0) ?_ | (refine WQ.cl f.a6.modes ?_) | refine zB ?_ | (refine zC ?_ ?_ <;> intro hc; all_goals first | (cases hc; done) | ((try simp only [hc]); (try simp only [bm] at hc))) | refine zE ?_ | refine zNZ ?_ | fail)
      all_goals first | exact absurd hc e | exact ⟨.inr rfl,rfl,rfl⟩ | trace_state
  · have e := kb_and tk 1
    rw [k1] at e
    have hq := k1
    rw [← hk] at hq
    have hLo := look_of v t hA tk hK hq
    refine Ret.mk f.a1 rfl ?_
    rw [V.av_eq,Ty.av_eq,hk,hA]
    cases hn : t.fls
    · rw [hn] at e r0
      rw [hLo hn,errAV_cons]
      have e := e.2 rfl
      repeat' (first | refine zA ?_ | refine WQ.cl f.a6.modes ?_ | refine W1.cl f.a6.modes (r0) ?_ | (refine WQ.cl f.a6.modes ?_) | refine zB ?_ | (refine zC ?_ ?_ <;> intro hc; all_goals first | (cases hc; done) | ((try simp only [hc]); (try simp only [bm] at hc))) | refine zE ?_ | refine zNZ ?_ | fail)
      all_goals first | exact absurd e hc | exact ⟨.inr rfl,rfl,rfl⟩ | trace_state
    · rw [hn] at e r0
      have e := mt e.1 (by simp)
      rw [look_lo v t hA tk hK (hq.trans hn) hk (by decide),errAV]
      repeat' (first | refine zA ?_ | refine WQ.cl f.a6.modes ?_ | refine W1.cl f.a6.modes (r0) ?_ | (refine WQ.cl f.a6.modes ?_) | refine zB ?_ | (refine zC ?_ ?_ <;> intro hc; all_goals first | (cases hc; done) | ((try simp only [hc]); (try simp only [bm] at hc))) | refine zE ?_ | refine zNZ ?_ | fail)
      all_goals first | exact absurd hc e | exact ⟨.inr rfl,rfl,rfl⟩ | trace_state
  · have e := kb_and tk 2
    rw [k2] at e
    have hq := k2
    rw [← hk] at hq
    have hLo := look_of v t hA tk hK hq
    refine Ret.mk f.a1 rfl ?_
    rw [V.av_eq,Ty.av_eq,hk,hA]
    cases hn : t.tru
    · rw [hn] at e r0
      rw [hLo hn,errAV_cons]
      have e := e.2 rfl
      repeat' (first | refine zA ?_ | refine WQ.cl f.a6.modes ?_ | refine W1.cl f.a6.modes (r0) ?_ | (refine WQ.cl f.a6.modes ?_) | refine zB ?_ | (refine zC ?_ ?_ <;> intro hc; all_goals first | (cases hc; done) | ((try simp only [hc]); (try simp only [bm] at hc))) | refine zE ?_ | refine zNZ ?_ | fail)
      all_goals first | exact absurd e hc | exact ⟨.inr rfl,rfl,rfl⟩ | trace_state
    · rw [hn] at e r0
      have e := mt e.1 (by simp)
      rw [look_lo v t hA tk hK (hq.trans hn) hk (by decide),errAV]
      repeat' (first | refine zA ?_ | refine WQ.cl f.a6.modes ?_ | refine W1.cl f.a6.modes (r0) ?_ | (refine WQ.cl f.a6.modes ?_) | refine zB ?_ | (refine zC ?_ ?_ <;> intro hc; all_goals first | (cases hc; done) | ((try simp only [hc]); (try simp only [bm] at hc))) | refine zE ?_ | refine zNZ ?_ | fail)
      all_goals first | exact absurd hc e | exact ⟨.inr rfl,rfl,rfl⟩ | trace_state
  · have e := kb_and tk 3
    rw [k3] at e
    have hq := k3
    rw [← hk] at hq
    have hLo := look_of v t hA tk hK hq
    have hLa := look_at v t hA tk hK
    rw [hq] at hLa
    cases hN : t.nums with
    | nil =>
      rw [hN] at e hLo r0
      refine Ret.mk f.a1 rfl ?_
      rw [V.av_eq,Ty.av_eq,hk,hA,hN]
      rw [hLo rfl,errAV_cons]
      have e := e.2 rfl
      repeat' (first | refine zA ?_ | refine WQ.cl f.a6.modes ?_ | refine W1.cl f.a6.modes (r0) ?_ | (refine WQ.cl f.a6.modes ?_) | refine zB ?_ | (refine zC ?_ ?_ <;> intro hc; all_goals first | (cases hc; done) | ((try simp only [hc]); (try simp only [bm] at hc))) | refine zE ?_ | refine zNZ ?_ | fail)
      all_goals first | exact absurd e hc | exact ⟨.inr rfl,rfl,rfl⟩ | trace_state
    | cons s r =>
      have hsb := spbk_mem (show s ∈ t.nums by rw [hN]; simp)
      have hs := bounds_span (p1 s (by rw [hN]; simp)) (by omega) (by omega)
      have r1 := mInSpan_ret f.a5 f.tn v.num s (hfi.2.1 hk) (by omega) hs.lo hs.hi hs.l1 hs.l2
      have hd : decide ((((s :: r).length : Nat) : Int) > 0) = true := decide_eq_true (by simp only [List.length_cons]; omega)
      rw [hN,hd] at e hLa
      rw [hN] at r0
      have hLa := hLa rfl
      have e := mt e.1 (by simp)
      rw [hk] at hLa
      simp only [if_true] at hLa
      rw [hLa]
      refine Ret.mk f.a1 rfl ?_
      rw [V.av_eq,Ty.av_eq,hk,hA,hN]
      generalize inSpanB v.num s = c at *
      cases c
      · rw [if_neg (by simp),errAV_cons]
        repeat' (first | refine zA ?_ | refine WQ.cl f.a6.modes ?_ | refine W1.cl f.a6.modes (r0) ?_ | (refine WQ.cl f.a6.modes ?_) | ((apply W1.iadr; (iterate 3 exact rfl); omega; exact rfl)) | refine WQ.cl f.a5.modes ?_ | refine W1.cl f.a5.modes (r1) ?_ | (refine WQ.cl f.a5.modes ?_) | refine zB ?_ | (refine zC ?_ ?_ <;> intro hc; all_goals first | (cases hc; done) | ((try simp only [hc]); (try simp only [bm] at hc))) | refine zE ?_ | refine zNZ ?_ | fail)
        all_goals first | exact absurd hc e | exact ⟨.inr rfl,rfl,rfl⟩ | trace_state
      · rw [if_pos rfl,errAV]
        repeat' (first | refine zA ?_ | refine WQ.cl f.a6.modes ?_ | refine W1.cl f.a6.modes (r0) ?_ | (refine WQ.cl f.a6.modes ?_) | ((apply W1.iadr; (iterate 3 exact rfl); omega; exact rfl)) | refine WQ.cl f.a5.modes ?_ | refine W1.cl f.a5.modes (r1) ?_ | (refine WQ.cl f.a5.modes ?_) | refine zB ?_ | (refine zC ?_ ?_ <;> intro hc; all_goals first | (cases hc; done) | ((try simp only [hc]); (try simp only [bm] at hc))) | refine zE ?_ | refine zNZ ?_ | fail)
        all_goals first | exact absurd hc e | exact ⟨.inr rfl,rfl,rfl⟩ | trace_state
  · have e := kb_and tk 4
    rw [k4] at e
    have hq := k4
    rw [← hk] at hq
    have hLo := look_of v t hA tk hK hq
    have hLa := look_at v t hA tk hK
    rw [hq] at hLa
    have r1 := mContains_ret f.ch t.texts (by omega) v.text
    cases hN : t.anyText || decide ((t.texts.length : Int) > 0) with
    | false =>
      rw [hN] at e
      rw [hLo hN,errAV_cons]
      have e := e.2 rfl
      refine Ret.mk f.a1 rfl ?_
      rw [V.av_eq,Ty.av_eq,hk,hA]
      repeat' (first | refine zA ?_ | refine WQ.cl f.a6.modes ?_ | refine W1.cl f.a6.modes (r0) ?_ | (refine WQ.cl f.a6.modes ?_) | refine zB ?_ | (refine zC ?_ ?_ <;> intro hc; all_goals first | (cases hc; done) | ((try simp only [hc]); (try simp only [bm] at hc))) | refine zE ?_ | refine zNZ ?_ | fail)
      all_goals first | exact absurd e hc | exact ⟨.inr rfl,rfl,rfl⟩ | trace_state
    | true =>
      have hLa := hLa hN
      rw [hN] at e
      have e := mt e.1 (by simp)
      rw [hk,if_neg (by decide),if_pos rfl] at hLa
      rw [hLa]
      refine Ret.mk f.a1 rfl ?_
      rw [V.av_eq,Ty.av_eq,hk,hA]
      clear k4 hq hLo hN hLa
      generalize t.texts.contains v.text = c at *
      cases hT : t.anyText
      · rw [hT] at r0
        rw [Bool.false_or]
        cases c
        · rw [if_neg (by simp),errAV_cons]
          repeat' (first | refine zA ?_ | refine WQ.cl f.a6.modes ?_ | refine W1.cl f.a6.modes (r0) ?_ | (refine WQ.cl f.a6.modes ?_) | refine WQ.cl f.ch.a1.modes ?_ | refine W1.cl f.ch.a1.modes (r1) ?_ | refine zB ?_ | (refine zC ?_ ?_ <;> intro hc; all_goals first | (cases hc; done) | ((try simp only [hc]); (try simp only [bm] at hc))) | refine zE ?_ | refine zNZ ?_ | fail)
          all_goals first | exact absurd hc e | exact ⟨.inr rfl,rfl,rfl⟩ | trace_state
        · rw [if_pos rfl,errAV]
          repeat' (first | refine zA ?_ | refine WQ.cl f.a6.modes ?_ | refine W1.cl f.a6.modes (r0) ?_ | (refine WQ.cl f.a6.modes ?_) | refine WQ.cl f.ch.a1.modes ?_ | refine W1.cl f.ch.a1.modes (r1) ?_ | refine zB ?_ | (refine zC ?_ ?_ <;> intro hc; all_goals first | (cases hc; done) | ((try simp only [hc]); (try simp only [bm] at hc))) | refine zE ?_ | refine zNZ ?_ | fail)
          all_goals first | exact absurd hc e | exact ⟨.inr rfl,rfl,rfl⟩ | trace_state
      · rw [hT] at r0
        rw [Bool.true_or,if_pos rfl,errAV]
        repeat' (first | refine zA ?_ | refine WQ.cl f.a6.modes ?_ | refine W1.cl f.a6.modes (r0) ?_ | (refine WQ.cl f.a6.modes ?_) | refine WQ.cl f.ch.a1.modes ?_ | refine W1.cl f.ch.a1.modes (r1) ?_ | refine zB ?_ | (refine zC ?_ ?_ <;> intro hc; all_goals first | (cases hc; done) | ((try simp only [hc]); (try simp only [bm] at hc))) | refine zE ?_ | refine zNZ ?_ | fail)
        all_goals first | exact absurd hc e | exact ⟨.inr rfl,rfl,rfl⟩ | trace_state
  · have e := kb_and tk 5
    rw [k5] at e
    have hq := k5
    rw [← hk] at hq
    have hLo := look_of v t hA tk hK hq
    have hLa := look_at v t hA tk hK
    rw [hq] at hLa
    cases hN : t.arrays with
    | nil =>
      rw [hN] at e hLo r0
      refine Ret.mk f.a1 rfl ?_
      rw [V.av_eq,Ty.av_eq,hk,hA,hN]
      rw [hLo rfl,errAV_cons]
      have e := e.2 rfl
      repeat' (first | refine zA ?_ | refine WQ.cl f.a6.modes ?_ | refine W1.cl f.a6.modes (r0) ?_ | (refine WQ.cl f.a6.modes ?_) | refine zB ?_ | (refine zC ?_ ?_ <;> intro hc; all_goals first | (cases hc; done) | ((try simp only [hc]); (try simp only [bm] at hc))) | refine zE ?_ | refine zNZ ?_ | fail)
      all_goals first | exact absurd e hc | exact ⟨.inr rfl,rfl,rfl⟩ | trace_state
    | cons a r =>
      have ham : a ∈ t.arrays := by rw [hN]; simp
      have hab := arBk_mem ham
      have hak := Ar.bk_eq a
      have r1 := lookArr_ret f.a2 f.a1.modes f.to v a (by omega) (fun x hx => ih' x hx a.item (by omega) (p2 a ham))
      have hd : decide ((((a :: r).length : Nat) : Int) > 0) = true := decide_eq_true (by simp only [List.length_cons]; omega)
      rw [hN,hd] at e hLa
      rw [hN,List.map_cons,Ar.row_eq a] at r0
      have hLa := hLa rfl
      have e := mt e.1 (by simp)
      rw [hk,if_neg (by decide),if_neg (by decide),if_pos rfl] at hLa
      simp only [] at hLa
      rw [hLa]
      rw [V.av_eq,hk,Ar.row_eq] at r1
      refine Ret.mk f.a1 rfl ?_
      rw [V.av_eq,Ty.av_eq,hk,hA,hN,List.map_cons,Ar.row_eq a]
      generalize lkArr (v.items.map lookM) a = m at *
      cases m with
      | nil =>
        rw [errAV] at r1 ⊢
        repeat' (first | refine zA ?_ | refine WQ.cl f.a6.modes ?_ | refine W1.cl f.a6.modes (r0) ?_ | (refine WQ.cl f.a6.modes ?_) | ((apply W1.iadr; (iterate 3 exact rfl); omega; exact rfl)) | refine WQ.cl f.a2.modes ?_ | refine W1.cl f.a2.modes (r1) ?_ | (refine WQ.cl f.a2.modes ?_) | refine zB ?_ | (refine zC ?_ ?_ <;> intro hc; all_goals first | (cases hc; done) | ((try simp only [hc]); (try simp only [bm] at hc))) | refine zE ?_ | refine zNZ ?_ | fail)
        all_goals first | exact absurd hc e | exact ⟨.inr rfl,rfl,rfl⟩ | trace_state
      | cons pp m =>
        obtain ⟨z,w⟩ := pp
        rw [errAV_cons] at r1 ⊢
        generalize AV.vptr [.int .i64 z,.int .i64 w.kind,.str w.num,.str w.text,.lst 5 (w.items.map V.row),.lst 1 (srow w.keys),errAV m] = ew at *
        repeat' (first | refine zA ?_ | refine WQ.cl f.a6.modes ?_ | refine W1.cl f.a6.modes (r0) ?_ | (refine WQ.cl f.a6.modes ?_) | ((apply W1.iadr; (iterate 3 exact rfl); omega; exact rfl)) | refine WQ.cl f.a2.modes ?_ | refine W1.cl f.a2.modes (r1) ?_ | (refine WQ.cl f.a2.modes ?_) | refine zB ?_ | (refine zC ?_ ?_ <;> intro hc; all_goals first | (cases hc; done) | ((try simp only [hc]); (try simp only [bm] at hc))) | refine zE ?_ | refine zNZ ?_ | fail)
        all_goals first | exact absurd hc e | exact ⟨.inr rfl,rfl,rfl⟩ | trace_state
  · have e := kb_and tk 6
    rw [k6] at e
    have hq := k6
    rw [← hk] at hq
    have hLo := look_of v t hA tk hK hq
    have hLa := look_at v t hA tk hK
    rw [hq] at hLa
    have hlk := (hfi.2.2.2.2.2.2.2.1 hk).1
    by_cases hN : t.objects = []
    · rw [hN] at e hLo r0
      refine Ret.mk f.a1 rfl ?_
      rw [V.av_eq,Ty.av_eq,hk,hA,hN]
      rw [hLo rfl,errAV_cons]
      have e := e.2 rfl
      repeat' (first | refine zA ?_ | refine WQ.cl f.a6.modes ?_ | refine W1.cl f.a6.modes (r0) ?_ | (refine WQ.cl f.a6.modes ?_) | refine zB ?_ | (refine zC ?_ ?_ <;> intro hc; all_goals first | (cases hc; done) | ((try simp only [hc]); (try simp only [bm] at hc))) | refine zE ?_ | refine zNZ ?_ | fail)
      all_goals first | exact absurd e hc | exact ⟨.inr rfl,rfl,rfl⟩ | trace_state
    · have hd : decide (((t.objects.length : Nat) : Int) > 0) = true := decide_eq_true (by have := List.length_pos_iff.2 hN; omega)
      have r1 := lookObj_ret f.a3 f.a4.modes (v.items.map lookM) v.keys v t.objects (by omega) (fun o ho => by
        have hob := obBk_mem ho
        exact lookFields_ret f.a4 f.a1.modes f.ch.gg f.bs v o hk hlk hb (by omega) (tobj_ok hft o ho) (fun x hx k => ih' x hx (fldO o k) (by have := mfld_bk ho k; omega) ((tobj_ok hft o ho).fld k)))
      rw [hd] at e hLa
      have hLa := hLa rfl
      have e := mt e.1 (by simp)
      rw [hk,if_neg (by decide),if_neg (by decide),if_neg (by decide),if_pos rfl] at hLa
      rw [hLa]
      rw [V.av_eq,hk] at r1
      refine Ret.mk f.a1 rfl ?_
      rw [V.av_eq,Ty.av_eq,hk,hA]
      generalize lkObjs (v.items.map lookM) v.keys t.objects = m at *
      cases m with
      | nil =>
        rw [errAV] at r1 ⊢
        repeat' (first | refine zA ?_ | refine WQ.cl f.a6.modes ?_ | refine W1.cl f.a6.modes (r0) ?_ | (refine WQ.cl f.a6.modes ?_) | refine WQ.cl f.a3.modes ?_ | refine W1.cl f.a3.modes (r1) ?_ | refine zB ?_ | (refine zC ?_ ?_ <;> intro hc; all_goals first | (cases hc; done) | ((try simp only [hc]); (try simp only [bm] at hc))) | refine zE ?_ | refine zNZ ?_ | fail)
        all_goals first | exact absurd hc e | exact ⟨.inr rfl,rfl,rfl⟩ | trace_state
      | cons pp m =>
        obtain ⟨z,w⟩ := pp
        rw [errAV_cons] at r1 ⊢
        generalize AV.vptr [.int .i64 z,.int .i64 w.kind,.str w.num,.str w.text,.lst 5 (w.items.map V.row),.lst 1 (srow w.keys),errAV m] = ew at *
        repeat' (first | refine zA ?_ | refine WQ.cl f.a6.modes ?_ | refine W1.cl f.a6.modes (r0) ?_ | (refine WQ.cl f.a6.modes ?_) | refine WQ.cl f.a3.modes ?_ | refine W1.cl f.a3.modes (r1) ?_ | refine zB ?_ | (refine zC ?_ ?_ <;> intro hc; all_goals first | (cases hc; done) | ((try simp only [hc]); (try simp only [bm] at hc))) | refine zE ?_ | refine zNZ ?_ | fail)
        all_goals first | exact absurd hc e | exact ⟨.inr rfl,rfl,rfl⟩ | trace_state
end
end Hm
