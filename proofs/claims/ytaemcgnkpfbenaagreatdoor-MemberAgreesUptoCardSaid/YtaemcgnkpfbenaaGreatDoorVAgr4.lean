/- What the law answers on the abstract machine. Conditions: see each theorem. -/
import Derived.Test.YtaemcgnkpfbenaaGreatDoorVAgr3
set_option linter.unusedVariables false
set_option linter.unusedSimpArgs false
/- The reference's reading of UTF-8, piece by piece: a text that is right is told so. NORMX NORMY NORMC Conditions: see each theorem. -/
namespace Hm
open Go (IntKind)
set_option maxHeartbeats 40000000
set_option maxRecDepth 4000
section
variable {T : Tab} {st : St} {K : St → Prop}
theorem W1.mul64 {dst : Option Nat} {g : Option (Nat × Bool)} {x y : Opd} {a b : Int} (hg : wanted st g = some true) (hx : st.opd x = .av (.int .i64 a)) (hy : st.opd y = .av (.int .i64 b)) (h1 : -9223372036854775808 ≤ a * b) (h2 : a * b < 9223372036854775808)
    (hk : K (putD dst (.av (.int .i64 (a * b))) st)) : W1 T ⟨dst,.bin .mul x y,g⟩ st K :=
  W1.go hg (WS.op (v := .av (.int .i64 (a * b))) rfl (by simp only [stepOp,hx,hy,binA,ne_eq,not_true_eq_false,if_false,inRange,wrap64 h1 h2]) hk)
theorem W1.quo64 {dst : Option Nat} {g : Option (Nat × Bool)} {x y : Opd} {a b : Int} (hg : wanted st g = some true) (hx : st.opd x = .av (.int .i64 a)) (hy : st.opd y = .av (.int .i64 b)) (h0 : 0 ≤ a) (h1 : a < 9223372036854775808) (h2 : 0 < b)
    (hk : K (putD dst (.av (.int .i64 (a / b))) st)) : W1 T ⟨dst,.bin .quo x y,g⟩ st K := by
  have e : a.tdiv b = a / b := Int.tdiv_eq_ediv_of_nonneg h0
  have q0 : 0 ≤ a / b := Int.ediv_nonneg h0 (by omega)
  have q1 : a / b ≤ a := Int.ediv_le_self b h0
  exact W1.go hg (WS.op (v := .av (.int .i64 (a / b))) rfl (by simp only [stepOp,hx,hy,binA,ne_eq,not_true_eq_false,if_false,inRange,e,wrap64 (show -9223372036854775808 ≤ a / b by omega) (show a / b < 9223372036854775808 by omega),show b ≠ 0 by omega]) hk)
theorem W1.rem64 {dst : Option Nat} {g : Option (Nat × Bool)} {x y : Opd} {a b : Int} (hg : wanted st g = some true) (hx : st.opd x = .av (.int .i64 a)) (hy : st.opd y = .av (.int .i64 b)) (h0 : 0 ≤ a) (h2 : 0 < b)
    (hk : K (putD dst (.av (.int .i64 (a % b))) st)) : W1 T ⟨dst,.bin .rem x y,g⟩ st K := by
  have e : a.tmod b = a % b := Int.tmod_eq_emod_of_nonneg h0
  exact W1.go hg (WS.op (v := .av (.int .i64 (a % b))) rfl (by simp only [stepOp,hx,hy,binA,ne_eq,not_true_eq_false,if_false,inRange,e,show b ≠ 0 by omega]) hk)
theorem W1.toU8 {dst : Option Nat} {g : Option (Nat × Bool)} {x : Opd} {a : Int} (hg : wanted st g = some true) (hx : st.opd x = .av (.int .i64 a)) (h0 : 0 ≤ a) (h1 : a < 256)
    (hk : K (putD dst (.av (.int .u8 a)) st)) : W1 T ⟨dst,.conv (.int .u8) x,g⟩ st K := by
  have e : IntKind.wrap .u8 a = a := by simp [IntKind.wrap,IntKind.bits,IntKind.signed]; omega
  exact W1.go hg (WS.op (v := .av (.int .u8 a)) rfl (by simp only [stepOp,hx,convA,inRange,e]) hk)
theorem W1.subH {dst : Option Nat} {g : Option (Nat × Bool)} {x y : Opd} {a b c : Int} (hc : a - b = c) (hg : wanted st g = some true) (hx : st.opd x = .av (.int .i64 a)) (hy : st.opd y = .av (.int .i64 b)) (h1 : -9223372036854775808 ≤ c) (h2 : c < 9223372036854775808)
    (hk : K (putD dst (.av (.int .i64 c)) st)) : W1 T ⟨dst,.bin .sub x y,g⟩ st K := by
  subst hc; exact W1.sub64 hg hx hy h1 h2 hk
theorem W1.idxN {dst : Option Nat} {g : Option (Nat × Bool)} {x i : Opd} {n c : Int} {j : Nat} {s : List UInt8} (hc : ((bAt s j).toNat : Int) = c) (hg : wanted st g = some true) (hx : st.opd x = .av (.str s)) (hi : st.opd i = .av (.int .i64 n)) (hj : n = (j : Int)) (hl : j < s.length)
    (hk : K (putD dst (.av (.int .u8 c)) st)) : W1 T ⟨dst,.idxS x i,g⟩ st K := by
  subst hj
  subst hc
  exact W1.idxS hg hx hi (by omega) (by simpa using hl) (by simpa using hk)
theorem W1.u8to64 {dst : Option Nat} {g : Option (Nat × Bool)} {x : Opd} {a : Int} (hg : wanted st g = some true) (hx : st.opd x = .av (.int .u8 a)) (h0 : 0 ≤ a) (h1 : a < 256)
    (hk : K (putD dst (.av (.int .i64 a)) st)) : W1 T ⟨dst,.conv (.int .i64) x,g⟩ st K := by
  exact W1.go hg (WS.op (v := .av (.int .i64 a)) rfl (by simp only [stepOp,hx,convA,inRange,wrap64 (show -9223372036854775808 ≤ a by omega) (show a < 9223372036854775808 by omega)]) hk)
end
def runeB (n : Int) : Bool := decide (n ≥ 0) && decide (n ≤ 1114111) && (decide (n < 55296) || decide (n > 57343))
def sizeN (n : Int) : Int := if n < 128 then 1 else if n < 2048 then 2 else if n < 65536 then 3 else 4
structure U2Fns (T : Tab) : Prop where
  a1 : Fn T F.h02_IsRune h02_IsRune.fn
  a2 : Fn T F.h02_Size h02_Size.fn
  a3 : Fn T F.h02_Encoding h02_Encoding.fn
  a4 : Fn T F.h02_spelled h02_spelled.fn
  a5 : Fn T F.h02_same h02_same.fn
  a6 : Fn T F.h02_at h02_at.fn
  a7 : Fn T F.h02_Pieces h02_Pieces.fn
  a8 : Fn T F.h02_Valid h02_Valid.fn
section
variable {T : Tab}
theorem isRune_ret (f : U2Fns T) (n : Int) : Ret T F.h02_IsRune [.val (.int .i64 n)] (one (.bool (runeB n))) := by
  refine Ret.mk f.a1 rfl ?_
  unfold runeB
  repeat' (first | refine zA ?_ | refine zB ?_ | (refine zC ?_ ?_ <;> intro hc; all_goals first | (cases hc; done) | ((try simp only [hc]); (try simp only [bm] at hc))) | refine zE ?_ | refine zNZ ?_ | fail)
  all_goals first | (refine Qend.boo rfl rfl ?_; simp_all; done) | (refine Qend.boo rfl rfl ?_; simp_all; omega) | (exfalso; simp_all; omega) | trace_state
theorem size2_ret (f : U2Fns T) (n : Int) : Ret T F.h02_Size [.val (.int .i64 n)] (one (.int .i64 (sizeN n))) := by
  refine Ret.mk f.a2 rfl ?_
  unfold sizeN
  repeat' (first | refine zA ?_ | refine zB ?_ | (refine zC ?_ ?_ <;> intro hc; all_goals first | (cases hc; done) | ((try simp only [hc]); (try simp only [bm] at hc))) | refine zE ?_ | refine zNZ ?_ | fail)
  all_goals first | (refine Qend.num rfl rfl ?_; simp_all; done) | (refine Qend.num rfl rfl ?_; (repeat' split) <;> omega) | (exfalso; omega) | trace_state
theorem spelled1_ret (f : U2Fns T) (s : Str) (i : Nat) {c0 : Int} (hl : s.length ≤ 1073741824) (hi : i + 1 ≤ s.length) (e0 : ((bAt s i).toNat : Int) = c0) : Ret T F.h02_spelled [.val (.str s),.val (.int .i64 i),.val (.int .i64 1)] (one (.int .i64 (if runeB c0 && decide (sizeN c0 = 1) then c0 else -1))) := by
  have r1 := isRune_ret f c0
  have r2 := size2_ret f c0
  have b0 : 0 ≤ c0 ∧ c0 < 256 := by have := UInt8.toNat_lt (bAt s i); omega
  generalize runeB c0 = b at *
  generalize sizeN c0 = z at *
  refine Ret.mk f.a4 rfl ?_
  by_cases hzk : z = 1
  · subst hzk
    cases b
    all_goals skip
    repeat' (first | refine zA ?_ | ((apply W1.idxN e0; exact rfl; exact rfl; exact rfl; omega; omega)) | ((apply W1.u8to64; exact rfl; exact rfl; omega; omega)) | ((apply W1.mul64; exact rfl; exact rfl; exact rfl; omega; omega)) | refine WQ.cl f.a1.modes ?_ | refine W1.cl f.a1.modes (r1) ?_ | refine WQ.cl f.a2.modes ?_ | refine W1.cl f.a2.modes (r2) ?_ | ((with_reducible refine W.loop ?_)) | refine zB ?_ | (refine zC ?_ ?_ <;> intro hc; all_goals first | (cases hc; done) | ((try simp only [hc]); (try simp only [bm] at hc))) | refine zE ?_ | refine zNZ ?_ | fail)
    all_goals first | exact Qend.num rfl rfl rfl | trace_state
  · have hd : decide (z = 1) = false := decide_eq_false hzk
    rw [hd,Bool.and_false]
    cases b
    all_goals skip
    repeat' (first | refine zA ?_ | ((apply W1.idxN e0; exact rfl; exact rfl; exact rfl; omega; omega)) | ((apply W1.u8to64; exact rfl; exact rfl; omega; omega)) | ((apply W1.mul64; exact rfl; exact rfl; exact rfl; omega; omega)) | refine WQ.cl f.a1.modes ?_ | refine W1.cl f.a1.modes (r1) ?_ | refine WQ.cl f.a2.modes ?_ | refine W1.cl f.a2.modes (r2) ?_ | ((with_reducible refine W.loop ?_)) | refine zB ?_ | (refine zC ?_ ?_ <;> intro hc; all_goals first | (cases hc; done) | ((try simp only [hc]); (try simp only [bm] at hc))) | refine zE ?_ | refine zNZ ?_ | fail)
    all_goals first | exact Qend.num rfl rfl rfl | trace_state
theorem spelled2_ret (f : U2Fns T) (s : Str) (i : Nat) {c0 c1 n0 n1 : Int} (hl : s.length ≤ 1073741824) (hi : i + 2 ≤ s.length) (e0 : ((bAt s i).toNat : Int) = c0) (e1 : ((bAt s (i + 1)).toNat : Int) = c1) (h0 : 192 ≤ c0) (h1 : 128 ≤ c1) (g1 : c1 ≤ 191) (m0 : c0 - 192 = n0) (m1 : 64 * n0 + c1 - 128 = n1) : Ret T F.h02_spelled [.val (.str s),.val (.int .i64 i),.val (.int .i64 2)] (one (.int .i64 (if runeB n1 && decide (sizeN n1 = 2) then n1 else -1))) := by
  have r1 := isRune_ret f n1
  have r2 := size2_ret f n1
  have b0 : 0 ≤ c0 ∧ c0 < 256 := by have := UInt8.toNat_lt (bAt s i); omega
  generalize runeB n1 = b at *
  generalize sizeN n1 = z at *
  refine Ret.mk f.a4 rfl ?_
  by_cases hzk : z = 2
  · subst hzk
    cases b
    all_goals skip
    repeat' (first | refine zA ?_ | ((apply W1.idxN e0; exact rfl; exact rfl; exact rfl; omega; omega)) | ((apply W1.idxN e1; exact rfl; exact rfl; exact rfl; omega; omega)) | ((apply W1.subH m0; exact rfl; exact rfl; exact rfl; omega; omega)) | ((apply W1.subH m1; exact rfl; exact rfl; exact rfl; omega; omega)) | ((apply W1.u8to64; exact rfl; exact rfl; omega; omega)) | ((apply W1.mul64; exact rfl; exact rfl; exact rfl; omega; omega)) | refine WQ.cl f.a1.modes ?_ | refine W1.cl f.a1.modes (r1) ?_ | refine WQ.cl f.a2.modes ?_ | refine W1.cl f.a2.modes (r2) ?_ | ((with_reducible refine W.loop ?_)) | refine zB ?_ | (refine zC ?_ ?_ <;> intro hc; all_goals first | (cases hc; done) | ((try simp only [hc]); (try simp only [bm] at hc))) | refine zE ?_ | refine zNZ ?_ | fail)
    all_goals first | exact Qend.num rfl rfl rfl | trace_state
  · have hd : decide (z = 2) = false := decide_eq_false hzk
    rw [hd,Bool.and_false]
    cases b
    all_goals skip
    repeat' (first | refine zA ?_ | ((apply W1.idxN e0; exact rfl; exact rfl; exact rfl; omega; omega)) | ((apply W1.idxN e1; exact rfl; exact rfl; exact rfl; omega; omega)) | ((apply W1.subH m0; exact rfl; exact rfl; exact rfl; omega; omega)) | ((apply W1.subH m1; exact rfl; exact rfl; exact rfl; omega; omega)) | ((apply W1.u8to64; exact rfl; exact rfl; omega; omega)) | ((apply W1.mul64; exact rfl; exact rfl; exact rfl; omega; omega)) | refine WQ.cl f.a1.modes ?_ | refine W1.cl f.a1.modes (r1) ?_ | refine WQ.cl f.a2.modes ?_ | refine W1.cl f.a2.modes (r2) ?_ | ((with_reducible refine W.loop ?_)) | refine zB ?_ | (refine zC ?_ ?_ <;> intro hc; all_goals first | (cases hc; done) | ((try simp only [hc]); (try simp only [bm] at hc))) | refine zE ?_ | refine zNZ ?_ | fail)
    all_goals first | exact Qend.num rfl rfl rfl | trace_state
theorem spelled3_ret (f : U2Fns T) (s : Str) (i : Nat) {c0 c1 c2 n0 n1 n2 : Int} (hl : s.length ≤ 1073741824) (hi : i + 3 ≤ s.length) (e0 : ((bAt s i).toNat : Int) = c0) (e1 : ((bAt s (i + 1)).toNat : Int) = c1) (e2 : ((bAt s (i + 2)).toNat : Int) = c2) (h0 : 224 ≤ c0) (h1 : 128 ≤ c1) (g1 : c1 ≤ 191) (h2 : 128 ≤ c2) (g2 : c2 ≤ 191) (m0 : c0 - 224 = n0) (m1 : 64 * n0 + c1 - 128 = n1) (m2 : 64 * n1 + c2 - 128 = n2) : Ret T F.h02_spelled [.val (.str s),.val (.int .i64 i),.val (.int .i64 3)] (one (.int .i64 (if runeB n2 && decide (sizeN n2 = 3) then n2 else -1))) := by
  have r1 := isRune_ret f n2
  have r2 := size2_ret f n2
  have b0 : 0 ≤ c0 ∧ c0 < 256 := by have := UInt8.toNat_lt (bAt s i); omega
  generalize runeB n2 = b at *
  generalize sizeN n2 = z at *
  refine Ret.mk f.a4 rfl ?_
  by_cases hzk : z = 3
  · subst hzk
    cases b
    all_goals skip
    repeat' (first | refine zA ?_ | ((apply W1.idxN e0; exact rfl; exact rfl; exact rfl; omega; omega)) | ((apply W1.idxN e1; exact rfl; exact rfl; exact rfl; omega; omega)) | ((apply W1.idxN e2; exact rfl; exact rfl; exact rfl; omega; omega)) | ((apply W1.subH m0; exact rfl; exact rfl; exact rfl; omega; omega)) | ((apply W1.subH m1; exact rfl; exact rfl; exact rfl; omega; omega)) | ((apply W1.subH m2; exact rfl; exact rfl; exact rfl; omega; omega)) | ((apply W1.u8to64; exact rfl; exact rfl; omega; omega)) | ((apply W1.mul64; exact rfl; exact rfl; exact rfl; omega; omega)) | refine WQ.cl f.a1.modes ?_ | refine W1.cl f.a1.modes (r1) ?_ | refine WQ.cl f.a2.modes ?_ | refine W1.cl f.a2.modes (r2) ?_ | ((with_reducible refine W.loop ?_)) | refine zB ?_ | (refine zC ?_ ?_ <;> intro hc; all_goals first | (cases hc; done) | ((try simp only [hc]); (try simp only [bm] at hc))) | refine zE ?_ | refine zNZ ?_ | fail)
    all_goals first | exact Qend.num rfl rfl rfl | trace_state
  · have hd : decide (z = 3) = false := decide_eq_false hzk
    rw [hd,Bool.and_false]
    cases b
    all_goals skip
    repeat' (first | refine zA ?_ | ((apply W1.idxN e0; exact rfl; exact rfl; exact rfl; omega; omega)) | ((apply W1.idxN e1; exact rfl; exact rfl; exact rfl; omega; omega)) | ((apply W1.idxN e2; exact rfl; exact rfl; exact rfl; omega; omega)) | ((apply W1.subH m0; exact rfl; exact rfl; exact rfl; omega; omega)) | ((apply W1.subH m1; exact rfl; exact rfl; exact rfl; omega; omega)) | ((apply W1.subH m2; exact rfl; exact rfl; exact rfl; omega; omega)) | ((apply W1.u8to64; exact rfl; exact rfl; omega; omega)) | ((apply W1.mul64; exact rfl; exact rfl; exact rfl; omega; omega)) | refine WQ.cl f.a1.modes ?_ | refine W1.cl f.a1.modes (r1) ?_ | refine WQ.cl f.a2.modes ?_ | refine W1.cl f.a2.modes (r2) ?_ | ((with_reducible refine W.loop ?_)) | refine zB ?_ | (refine zC ?_ ?_ <;> intro hc; all_goals first | (cases hc; done) | ((try simp only [hc]); (try simp only [bm] at hc))) | refine zE ?_ | refine zNZ ?_ | fail)
    all_goals first | exact Qend.num rfl rfl rfl | trace_state
theorem spelled4_ret (f : U2Fns T) (s : Str) (i : Nat) {c0 c1 c2 c3 n0 n1 n2 n3 : Int} (hl : s.length ≤ 1073741824) (hi : i + 4 ≤ s.length) (e0 : ((bAt s i).toNat : Int) = c0) (e1 : ((bAt s (i + 1)).toNat : Int) = c1) (e2 : ((bAt s (i + 2)).toNat : Int) = c2) (e3 : ((bAt s (i + 3)).toNat : Int) = c3) (h0 : 240 ≤ c0) (h1 : 128 ≤ c1) (g1 : c1 ≤ 191) (h2 : 128 ≤ c2) (g2 : c2 ≤ 191) (h3 : 128 ≤ c3) (g3 : c3 ≤ 191) (m0 : c0 - 240 = n0) (m1 : 64 * n0 + c1 - 128 = n1) (m2 : 64 * n1 + c2 - 128 = n2) (m3 : 64 * n2 + c3 - 128 = n3) : Ret T F.h02_spelled [.val (.str s),.val (.int .i64 i),.val (.int .i64 4)] (one (.int .i64 (if runeB n3 && decide (sizeN n3 = 4) then n3 else -1))) := by
  have r1 := isRune_ret f n3
  have r2 := size2_ret f n3
  have b0 : 0 ≤ c0 ∧ c0 < 256 := by have := UInt8.toNat_lt (bAt s i); omega
  generalize runeB n3 = b at *
  generalize sizeN n3 = z at *
  refine Ret.mk f.a4 rfl ?_
  by_cases hzk : z = 4
  · subst hzk
    cases b
    all_goals skip
    repeat' (first | refine zA ?_ | ((apply W1.idxN e0; exact rfl; exact rfl; exact rfl; omega; omega)) | ((apply W1.idxN e1; exact rfl; exact rfl; exact rfl; omega; omega)) | ((apply W1.idxN e2; exact rfl; exact rfl; exact rfl; omega; omega)) | ((apply W1.idxN e3; exact rfl; exact rfl; exact rfl; omega; omega)) | ((apply W1.subH m0; exact rfl; exact rfl; exact rfl; omega; omega)) | ((apply W1.subH m1; exact rfl; exact rfl; exact rfl; omega; omega)) | ((apply W1.subH m2; exact rfl; exact rfl; exact rfl; omega; omega)) | ((apply W1.subH m3; exact rfl; exact rfl; exact rfl; omega; omega)) | ((apply W1.u8to64; exact rfl; exact rfl; omega; omega)) | ((apply W1.mul64; exact rfl; exact rfl; exact rfl; omega; omega)) | refine WQ.cl f.a1.modes ?_ | refine W1.cl f.a1.modes (r1) ?_ | refine WQ.cl f.a2.modes ?_ | refine W1.cl f.a2.modes (r2) ?_ | ((with_reducible refine W.loop ?_)) | refine zB ?_ | (refine zC ?_ ?_ <;> intro hc; all_goals first | (cases hc; done) | ((try simp only [hc]); (try simp only [bm] at hc))) | refine zE ?_ | refine zNZ ?_ | fail)
    all_goals first | exact Qend.num rfl rfl rfl | trace_state
  · have hd : decide (z = 4) = false := decide_eq_false hzk
    rw [hd,Bool.and_false]
    cases b
    all_goals skip
    repeat' (first | refine zA ?_ | ((apply W1.idxN e0; exact rfl; exact rfl; exact rfl; omega; omega)) | ((apply W1.idxN e1; exact rfl; exact rfl; exact rfl; omega; omega)) | ((apply W1.idxN e2; exact rfl; exact rfl; exact rfl; omega; omega)) | ((apply W1.idxN e3; exact rfl; exact rfl; exact rfl; omega; omega)) | ((apply W1.subH m0; exact rfl; exact rfl; exact rfl; omega; omega)) | ((apply W1.subH m1; exact rfl; exact rfl; exact rfl; omega; omega)) | ((apply W1.subH m2; exact rfl; exact rfl; exact rfl; omega; omega)) | ((apply W1.subH m3; exact rfl; exact rfl; exact rfl; omega; omega)) | ((apply W1.u8to64; exact rfl; exact rfl; omega; omega)) | ((apply W1.mul64; exact rfl; exact rfl; exact rfl; omega; omega)) | refine WQ.cl f.a1.modes ?_ | refine W1.cl f.a1.modes (r1) ?_ | refine WQ.cl f.a2.modes ?_ | refine W1.cl f.a2.modes (r2) ?_ | ((with_reducible refine W.loop ?_)) | refine zB ?_ | (refine zC ?_ ?_ <;> intro hc; all_goals first | (cases hc; done) | ((try simp only [hc]); (try simp only [bm] at hc))) | refine zE ?_ | refine zNZ ?_ | fail)
    all_goals first | exact Qend.num rfl rfl rfl | trace_state
end
end Hm

/- The reference's reading of UTF-8, piece by piece: encodings. NORMX NORMY NORMC Conditions: see each theorem. -/
namespace Hm
open Go (IntKind)
set_option maxHeartbeats 40000000
set_option maxRecDepth 4000
def Mod64 (a c : Int) : Prop := a % 64 = c
def Div64 (a c : Int) : Prop := a / 64 = c
section
variable {T : Tab} {st : St} {K : St → Prop}
theorem W1.remH {dst : Option Nat} {g : Option (Nat × Bool)} {x y : Opd} {a c : Int} (hc : Mod64 a c) (hg : wanted st g = some true) (hx : st.opd x = .av (.int .i64 a)) (hy : st.opd y = .av (.int .i64 64)) (h0 : 0 ≤ a)
    (hk : K (putD dst (.av (.int .i64 c)) st)) : W1 T ⟨dst,.bin .rem x y,g⟩ st K := by unfold Mod64 at hc; subst hc; exact W1.rem64 hg hx hy h0 (by decide) hk
theorem W1.quoH {dst : Option Nat} {g : Option (Nat × Bool)} {x y : Opd} {a c : Int} (hc : Div64 a c) (hg : wanted st g = some true) (hx : st.opd x = .av (.int .i64 a)) (hy : st.opd y = .av (.int .i64 64)) (h0 : 0 ≤ a) (h1 : a < 9223372036854775808)
    (hk : K (putD dst (.av (.int .i64 c)) st)) : W1 T ⟨dst,.bin .quo x y,g⟩ st K := by unfold Div64 at hc; subst hc; exact W1.quo64 hg hx hy h0 h1 (by decide) hk
theorem W1.storeL {n i : Nat} {a x : Opd} {R : List (List Cell)} {r : List Cell} {g0 : Bool} {z : Int} (ha : st.opd a = .plc ⟨.slot n,[(0,i)],0⟩) (hx : st.opd x = .av (.int .u8 z)) (hb : getE st.env n = .own [.own 1 R] g0) (hr : R[i]? = some r) (hrl : r.length = 1)
    (hk : K (putD none .und ⟨clrE ⟨.slot n,[(0,i)],0⟩ 1 (st.put n (.own [.own 1 (R.set i [.av (.int .u8 z)])] g0)).env,st.boxes⟩)) : W1 T ⟨none,.store 1 a x,none⟩ st K := by
  have he : x.eat st = st := by
    cases x with
    | v a => rfl
    | t m =>
      have hm : getE st.env m = .av (.int .u8 z) := hx
      simp only [Opd.eat,hm]
    | _ => rfl
  refine W1.go rfl (WS.op (v := .und) (st' := ⟨clrE ⟨.slot n,[(0,i)],0⟩ 1 (st.put n (.own [.own 1 (R.set i [.av (.int .u8 z)])] g0)).env,st.boxes⟩) rfl ?_ hk)
  have h1 : splice 0 [Cell.av (.int .u8 z)] r = some [.av (.int .u8 z)] := by
    obtain ⟨c,rfl⟩ := List.length_eq_one_iff.1 hrl
    rfl
  have h2 : getE (clrE ⟨.slot n,[(0,i)],0⟩ 1 st.env) n = .own [.own 1 R] g0 := by rw [getE_clrX,hb]; exact clr_own _ _ _ _
  have h3 : (fun k => clrE ⟨.slot n,[(0,i)],0⟩ 1 st.env k) = clrE ⟨.slot n,[(0,i)],0⟩ 1 st.env := rfl
  have h4 : upd (clrE ⟨.slot n,[(0,i)],0⟩ 1 st.env) n (.own [.own 1 (R.set i [.av (.int .u8 z)])] g0) = clrE ⟨.slot n,[(0,i)],0⟩ 1 (st.put n (.own [.own 1 (R.set i [.av (.int .u8 z)])] g0)).env := by
    funext k
    show (if k = n then _ else (st.env k).clr _ 1) = (if k = n then _ else st.env k).clr _ 1
    split
    · exact (clr_own _ _ _ _).symm
    · rfl
  simp only [stepOp,ha,hx,TV.give,cellsOf,List.length_cons,List.length_nil,Nat.zero_add,if_true,he,St.write,St.root,hb,setRow,List.getElem?_cons_zero,hr,h1,List.set_cons_zero,St.setRoot,h2,h4]
theorem W1.addH {dst : Option Nat} {g : Option (Nat × Bool)} {x y : Opd} {a b c : Int} (hc : a + b = c) (hg : wanted st g = some true) (hx : st.opd x = .av (.int .i64 a)) (hy : st.opd y = .av (.int .i64 b)) (h1 : -9223372036854775808 ≤ c) (h2 : c < 9223372036854775808)
    (hk : K (putD dst (.av (.int .i64 c)) st)) : W1 T ⟨dst,.bin .add x y,g⟩ st K := by subst hc; exact W1.add64 hg hx hy h1 h2 hk
end
section
variable {T : Tab}
theorem enc1_ret (f : U2Fns T) {n0 : Int} (z0 : 0 ≤ n0) (y0 : n0 < 128) : Ret T F.h02_Encoding [.val (.int .i64 n0)] ⟨[([.own 1 [[.av (.int .u8 n0)]]],false)],[]⟩ := by
  have r1 := isRune_ret f n0
  have r2 := size2_ret f n0
  rw [show runeB n0 = true by simp [runeB]; omega] at r1
  rw [show sizeN n0 = 1 by simp [sizeN]; omega] at r2
  refine Ret.mk f.a3 rfl ?_
  repeat' (first | refine zA ?_ | ((apply W1.toU8; exact rfl; exact rfl; omega; omega)) | refine WQ.cl f.a1.modes ?_ | refine W1.cl f.a1.modes (r1) ?_ | refine WQ.cl f.a2.modes ?_ | refine W1.cl f.a2.modes (r2) ?_ | refine zB ?_ | (refine zC ?_ ?_ <;> intro hc; all_goals first | (cases hc; done) | ((try simp only [hc]); (try simp only [bm] at hc))) | refine zE ?_ | refine zNZ ?_ | fail)
  all_goals first | exact ⟨.inr rfl,rfl,rfl⟩ | trace_state
theorem enc2_ret (f : U2Fns T) {n0 n1 d1 c0 c1 : Int} (q1 : Mod64 n1 d1) (p1 : Div64 n1 n0) (a1 : 128 + d1 = c1) (b1 : 0 ≤ c1) (u1 : c1 < 256) (z1 : 0 ≤ n1) (y1 : n1 ≤ 1114111) (a0 : 192 + n0 = c0) (b0 : 0 ≤ c0) (u0 : c0 < 256) (z0 : 0 ≤ n0) (hr : runeB n1 = true) (hs : sizeN n1 = 2) : Ret T F.h02_Encoding [.val (.int .i64 n1)] ⟨[([.own 1 [[.av (.int .u8 c0)],[.av (.int .u8 c1)]]],false)],[]⟩ := by
  have r1 := isRune_ret f n1
  have r2 := size2_ret f n1
  rw [hr] at r1
  rw [hs] at r2
  refine Ret.mk f.a3 rfl ?_
  repeat' (first | refine zA ?_ | ((apply W1.subH (show (1 : Int) - 1 = 0 by decide); exact rfl; exact rfl; exact rfl; omega; omega)) | ((apply W1.subH (show (2 : Int) - 1 = 1 by decide); exact rfl; exact rfl; exact rfl; omega; omega)) | ((apply W1.storeL; exact rfl; exact rfl; exact rfl; exact rfl; exact rfl)) | ((apply W1.remH q1; exact rfl; exact rfl; exact rfl; omega)) | ((apply W1.quoH p1; exact rfl; exact rfl; exact rfl; omega; omega)) | ((apply W1.addH a0; exact rfl; exact rfl; exact rfl; omega; omega)) | ((apply W1.addH a1; exact rfl; exact rfl; exact rfl; omega; omega)) | ((apply W1.toU8; exact rfl; exact rfl; omega; omega)) | refine WQ.cl f.a1.modes ?_ | refine W1.cl f.a1.modes (r1) ?_ | refine WQ.cl f.a2.modes ?_ | refine W1.cl f.a2.modes (r2) ?_ | ((with_reducible refine W.loop ?_)) | refine zB ?_ | (refine zC ?_ ?_ <;> intro hc; all_goals first | (cases hc; done) | ((try simp only [hc]); (try simp only [bm] at hc))) | refine zE ?_ | refine zNZ ?_ | fail)
  all_goals first | exact ⟨.inr rfl,rfl,rfl⟩ | trace_state
theorem enc3_ret (f : U2Fns T) {n0 n1 n2 d1 d2 c0 c1 c2 : Int} (q2 : Mod64 n2 d2) (p2 : Div64 n2 n1) (a2 : 128 + d2 = c2) (b2 : 0 ≤ c2) (u2 : c2 < 256) (z2 : 0 ≤ n2) (y2 : n2 ≤ 1114111) (q1 : Mod64 n1 d1) (p1 : Div64 n1 n0) (a1 : 128 + d1 = c1) (b1 : 0 ≤ c1) (u1 : c1 < 256) (z1 : 0 ≤ n1) (y1 : n1 ≤ 1114111) (a0 : 224 + n0 = c0) (b0 : 0 ≤ c0) (u0 : c0 < 256) (z0 : 0 ≤ n0) (hr : runeB n2 = true) (hs : sizeN n2 = 3) : Ret T F.h02_Encoding [.val (.int .i64 n2)] ⟨[([.own 1 [[.av (.int .u8 c0)],[.av (.int .u8 c1)],[.av (.int .u8 c2)]]],false)],[]⟩ := by
  have r1 := isRune_ret f n2
  have r2 := size2_ret f n2
  rw [hr] at r1
  rw [hs] at r2
  refine Ret.mk f.a3 rfl ?_
  repeat' (first | refine zA ?_ | ((apply W1.subH (show (1 : Int) - 1 = 0 by decide); exact rfl; exact rfl; exact rfl; omega; omega)) | ((apply W1.subH (show (2 : Int) - 1 = 1 by decide); exact rfl; exact rfl; exact rfl; omega; omega)) | ((apply W1.subH (show (3 : Int) - 1 = 2 by decide); exact rfl; exact rfl; exact rfl; omega; omega)) | ((apply W1.storeL; exact rfl; exact rfl; exact rfl; exact rfl; exact rfl)) | ((apply W1.remH q1; exact rfl; exact rfl; exact rfl; omega)) | ((apply W1.remH q2; exact rfl; exact rfl; exact rfl; omega)) | ((apply W1.quoH p1; exact rfl; exact rfl; exact rfl; omega; omega)) | ((apply W1.quoH p2; exact rfl; exact rfl; exact rfl; omega; omega)) | ((apply W1.addH a0; exact rfl; exact rfl; exact rfl; omega; omega)) | ((apply W1.addH a1; exact rfl; exact rfl; exact rfl; omega; omega)) | ((apply W1.addH a2; exact rfl; exact rfl; exact rfl; omega; omega)) | ((apply W1.toU8; exact rfl; exact rfl; omega; omega)) | refine WQ.cl f.a1.modes ?_ | refine W1.cl f.a1.modes (r1) ?_ | refine WQ.cl f.a2.modes ?_ | refine W1.cl f.a2.modes (r2) ?_ | ((with_reducible refine W.loop ?_)) | refine zB ?_ | (refine zC ?_ ?_ <;> intro hc; all_goals first | (cases hc; done) | ((try simp only [hc]); (try simp only [bm] at hc))) | refine zE ?_ | refine zNZ ?_ | fail)
  all_goals first | exact ⟨.inr rfl,rfl,rfl⟩ | trace_state
theorem enc4_ret (f : U2Fns T) {n0 n1 n2 n3 d1 d2 d3 c0 c1 c2 c3 : Int} (q3 : Mod64 n3 d3) (p3 : Div64 n3 n2) (a3 : 128 + d3 = c3) (b3 : 0 ≤ c3) (u3 : c3 < 256) (z3 : 0 ≤ n3) (y3 : n3 ≤ 1114111) (q2 : Mod64 n2 d2) (p2 : Div64 n2 n1) (a2 : 128 + d2 = c2) (b2 : 0 ≤ c2) (u2 : c2 < 256) (z2 : 0 ≤ n2) (y2 : n2 ≤ 1114111) (q1 : Mod64 n1 d1) (p1 : Div64 n1 n0) (a1 : 128 + d1 = c1) (b1 : 0 ≤ c1) (u1 : c1 < 256) (z1 : 0 ≤ n1) (y1 : n1 ≤ 1114111) (a0 : 240 + n0 = c0) (b0 : 0 ≤ c0) (u0 : c0 < 256) (z0 : 0 ≤ n0) (hr : runeB n3 = true) (hs : sizeN n3 = 4) : Ret T F.h02_Encoding [.val (.int .i64 n3)] ⟨[([.own 1 [[.av (.int .u8 c0)],[.av (.int .u8 c1)],[.av (.int .u8 c2)],[.av (.int .u8 c3)]]],false)],[]⟩ := by
  have r1 := isRune_ret f n3
  have r2 := size2_ret f n3
  rw [hr] at r1
  rw [hs] at r2
  refine Ret.mk f.a3 rfl ?_
  repeat' (first | refine zA ?_ | ((apply W1.subH (show (1 : Int) - 1 = 0 by decide); exact rfl; exact rfl; exact rfl; omega; omega)) | ((apply W1.subH (show (2 : Int) - 1 = 1 by decide); exact rfl; exact rfl; exact rfl; omega; omega)) | ((apply W1.subH (show (3 : Int) - 1 = 2 by decide); exact rfl; exact rfl; exact rfl; omega; omega)) | ((apply W1.subH (show (4 : Int) - 1 = 3 by decide); exact rfl; exact rfl; exact rfl; omega; omega)) | ((apply W1.storeL; exact rfl; exact rfl; exact rfl; exact rfl; exact rfl)) | ((apply W1.remH q1; exact rfl; exact rfl; exact rfl; omega)) | ((apply W1.remH q2; exact rfl; exact rfl; exact rfl; omega)) | ((apply W1.remH q3; exact rfl; exact rfl; exact rfl; omega)) | ((apply W1.quoH p1; exact rfl; exact rfl; exact rfl; omega; omega)) | ((apply W1.quoH p2; exact rfl; exact rfl; exact rfl; omega; omega)) | ((apply W1.quoH p3; exact rfl; exact rfl; exact rfl; omega; omega)) | ((apply W1.addH a0; exact rfl; exact rfl; exact rfl; omega; omega)) | ((apply W1.addH a1; exact rfl; exact rfl; exact rfl; omega; omega)) | ((apply W1.addH a2; exact rfl; exact rfl; exact rfl; omega; omega)) | ((apply W1.addH a3; exact rfl; exact rfl; exact rfl; omega; omega)) | ((apply W1.toU8; exact rfl; exact rfl; omega; omega)) | refine WQ.cl f.a1.modes ?_ | refine W1.cl f.a1.modes (r1) ?_ | refine WQ.cl f.a2.modes ?_ | refine W1.cl f.a2.modes (r2) ?_ | ((with_reducible refine W.loop ?_)) | refine zB ?_ | (refine zC ?_ ?_ <;> intro hc; all_goals first | (cases hc; done) | ((try simp only [hc]); (try simp only [bm] at hc))) | refine zE ?_ | refine zNZ ?_ | fail)
  all_goals first | exact ⟨.inr rfl,rfl,rfl⟩ | trace_state
end
end Hm

/- The reference's reading of UTF-8, piece by piece: the piece at a place. NORMX NORMY NORMC Conditions: see each theorem. -/
namespace Hm
open Go (IntKind)
set_option maxHeartbeats 40000000
set_option maxRecDepth 4000
def byR (l : List Int) : List (List AV) := l.map fun c => [.int .u8 c]
theorem byR_len (l : List Int) : (byR l).length = l.length := List.length_map ..
section
variable {T : Tab}
theorem same_ret (f : U2Fns T) (s : Str) (i : Nat) (l : List Int) (hl : s.length ≤ 1073741824) (hi : i + l.length ≤ s.length) (h : ∀ (j : Nat) (c : Int),l[j]? = some c → ((bAt s (i + j)).toNat : Int) = c) :
    Ret T F.h02_same [.val (.str s),.val (.int .i64 i),.val (.lst 1 (byR l))] (one (.bool true)) := by
  have e1 := byR_len l
  refine Ret.mk f.a5 rfl ?_
  repeat' (first | refine zA ?_ | refine zB ?_ | (refine zC ?_ ?_ <;> intro hc; all_goals first | (cases hc; done) | ((try simp only [hc]); (try simp only [bm] at hc))) | refine zE ?_ | refine zNZ ?_ | fail)
  all_goals first | (exfalso; omega) | skip
  refine W.listP l (fun j (_ : Unit) s => s.put 7 (.av (.int .i64 (j : Int)))) (fun _ _ => True) () trivial rfl ?_ ?_
  · intro j c u hx hj _
    have e2 := h j c hx
    have hr : (byR l)[j]? = some [.int .u8 c] := by simp [byR,hx]
    repeat' (first | refine zA ?_ | ((apply W1.idxN e2; exact rfl; exact rfl; exact rfl; omega; omega)) | ((apply W1.iadr; (iterate 3 exact rfl); omega; exact hr)) | refine zB ?_ | (refine zC ?_ ?_ <;> intro hc; all_goals first | (cases hc; done) | ((try simp only [hc]); (try simp only [bm] at hc))) | refine zE ?_ | refine zNZ ?_ | fail)
    all_goals first | exact ⟨(),trivial,rfl⟩ | (exfalso; simp_all; done) | trace_state
  · intro u _
    repeat' (first | refine zA ?_ | refine zB ?_ | (refine zC ?_ ?_ <;> intro hc; all_goals first | (cases hc; done) | ((try simp only [hc]); (try simp only [bm] at hc))) | refine zE ?_ | refine zNZ ?_ | fail)
    exact Qend.boo rfl rfl rfl
theorem at1_ret (f : U2Fns T) (s : Str) (i : Nat) {c0 : Int} (hl : s.length ≤ 1073741824) (hi : i + 1 ≤ s.length) (e0 : ((bAt s i).toNat : Int) = c0) (g0 : c0 < 128) : ∃ n : Int,Ret T F.h02_at [.val (.str s),.val (.int .i64 i)] ⟨[([.av (.int .i64 i),.av (.int .i64 ((i : Int) + 1)),.av (.int .i64 n),.av (.bool false)],true)],[]⟩ := by
  have b0 : 0 ≤ c0 ∧ c0 < 256 := by have := UInt8.toNat_lt (bAt s i); omega
  have s1 := spelled1_ret f s i hl (by omega) e0
  have hr : runeB c0 = true := by simp only [runeB,Bool.and_eq_true,Bool.or_eq_true,decide_eq_true_eq]; omega
  have hs : sizeN c0 = 1 := by unfold sizeN; (repeat' split) <;> omega
  rw [show (if runeB c0 && decide (sizeN c0 = 1) then c0 else -1) = c0 from by rw [hr,hs]; rfl] at s1
  have q := enc1_ret f (n0 := c0) (by omega) (by omega)
  have m := same_ret f s i [c0] hl (by simp only [List.length_cons,List.length_nil]; omega) (by
    intro j c hj
    match j,hj with
    | 0,hj => cases hj; simpa using e0
    | j + 1,hj => simp at hj)
  rw [show byR [c0] = [[.int .u8 c0]] from rfl] at m
  refine ⟨c0,Ret.mk f.a6 rfl ?_⟩
  clear hr hs
  repeat' (first | refine zA ?_ | refine WQ.cl f.a4.modes ?_ | refine W1.cl f.a4.modes (s1) ?_ | ((apply W1.callDL (hm := f.a3.modes) (show sealRows [[Cell.av (.int .u8 c0)]] = [[.int .u8 c0]] from rfl); (iterate 5 exact rfl); exact q; exact rfl)) | refine WQ.cl f.a5.modes ?_ | refine W1.cl f.a5.modes (m) ?_ | ((with_reducible refine W.loop ?_)) | refine zB ?_ | (refine zC ?_ ?_ <;> intro hc; all_goals first | (cases hc; done) | ((try simp only [hc]); (try simp only [bm] at hc))) | refine zE ?_ | refine zNZ ?_ | fail)
  all_goals first | exact ⟨.inr rfl,rfl,rfl⟩ | (exfalso; omega) | trace_state
theorem at2_ret (f : U2Fns T) (s : Str) (i : Nat) {c0 c1 : Int} (hl : s.length ≤ 1073741824) (hi : i + 2 ≤ s.length) (e0 : ((bAt s i).toNat : Int) = c0) (e1 : ((bAt s (i + 1)).toNat : Int) = c1) (h0 : 194 ≤ c0) (g0 : c0 ≤ 223) (h1 : 128 ≤ c1) (g1 : c1 ≤ 191) : ∃ n : Int,Ret T F.h02_at [.val (.str s),.val (.int .i64 i)] ⟨[([.av (.int .i64 i),.av (.int .i64 ((i : Int) + 2)),.av (.int .i64 n),.av (.bool false)],true)],[]⟩ := by
  have b0 : 0 ≤ c0 ∧ c0 < 256 := by have := UInt8.toNat_lt (bAt s i); omega
  have s1 := spelled1_ret f s i hl (by omega) e0
  rw [show (if runeB c0 && decide (sizeN c0 = 1) then c0 else -1) = -1 from by
    rw [show sizeN c0 = 2 from by unfold sizeN; (repeat' split) <;> omega]; simp] at s1
  have s2 := spelled2_ret f s i hl (by omega) e0 e1 (by omega) (by omega) (by omega) rfl rfl
  obtain ⟨n,hn⟩ : ∃ n,n = (64 * (c0 - 192) + c1 - 128) := ⟨_,rfl⟩
  rw [← hn] at s2
  have hr : runeB n = true := by simp only [runeB,Bool.and_eq_true,Bool.or_eq_true,decide_eq_true_eq]; omega
  have hs : sizeN n = 2 := by unfold sizeN; (repeat' split) <;> omega
  have n0 : 0 ≤ n := by omega
  rw [show (if runeB n && decide (sizeN n = 2) then n else -1) = n from by rw [hr,hs]; rfl] at s2
  have q := enc2_ret f (n0 := (c0 - 192)) (n1 := n) (d1 := c1 - 128) (c0 := c0) (c1 := c1) (show _ % 64 = _ by omega) (show _ / 64 = _ by omega) (by omega) (by omega) (by omega) (by omega) (by omega) (by omega) (by omega) (by omega) (by omega) hr hs
  have m := same_ret f s i [c0,c1] hl (by simp only [List.length_cons,List.length_nil]; omega) (by
    intro j c hj
    match j,hj with
    | 0,hj => cases hj; simpa using e0
    | 1,hj => cases hj; exact e1
    | j + 2,hj => simp at hj)
  rw [show byR [c0,c1] = [[.int .u8 c0],[.int .u8 c1]] from rfl] at m
  refine ⟨n,Ret.mk f.a6 rfl ?_⟩
  clear hr hs hn
  repeat' (first | refine zA ?_ | refine WQ.cl f.a4.modes ?_ | refine W1.cl f.a4.modes (s1) ?_ | refine WQ.cl f.a4.modes ?_ | refine W1.cl f.a4.modes (s2) ?_ | ((apply W1.callDL (hm := f.a3.modes) (show sealRows [[Cell.av (.int .u8 c0)],[Cell.av (.int .u8 c1)]] = [[.int .u8 c0],[.int .u8 c1]] from rfl); (iterate 5 exact rfl); exact q; exact rfl)) | refine WQ.cl f.a5.modes ?_ | refine W1.cl f.a5.modes (m) ?_ | ((apply W1.addH (show (1 : Int) + 1 = 2 by decide); exact rfl; exact rfl; exact rfl; omega; omega)) | ((with_reducible refine W.loop ?_)) | refine zB ?_ | (refine zC ?_ ?_ <;> intro hc; all_goals first | (cases hc; done) | ((try simp only [hc]); (try simp only [bm] at hc))) | refine zE ?_ | refine zNZ ?_ | fail)
  all_goals first | exact ⟨.inr rfl,rfl,rfl⟩ | (exfalso; omega) | trace_state
theorem at3_ret (f : U2Fns T) (s : Str) (i : Nat) {c0 c1 c2 : Int} (hl : s.length ≤ 1073741824) (hi : i + 3 ≤ s.length) (e0 : ((bAt s i).toNat : Int) = c0) (e1 : ((bAt s (i + 1)).toNat : Int) = c1) (e2 : ((bAt s (i + 2)).toNat : Int) = c2) (h0 : 224 ≤ c0) (g0 : c0 ≤ 239) (k0 : c0 = 224 → 160 ≤ c1) (k1 : c0 = 237 → c1 ≤ 159) (h1 : 128 ≤ c1) (g1 : c1 ≤ 191) (h2 : 128 ≤ c2) (g2 : c2 ≤ 191) : ∃ n : Int,Ret T F.h02_at [.val (.str s),.val (.int .i64 i)] ⟨[([.av (.int .i64 i),.av (.int .i64 ((i : Int) + 3)),.av (.int .i64 n),.av (.bool false)],true)],[]⟩ := by
  have b0 : 0 ≤ c0 ∧ c0 < 256 := by have := UInt8.toNat_lt (bAt s i); omega
  have s1 := spelled1_ret f s i hl (by omega) e0
  rw [show (if runeB c0 && decide (sizeN c0 = 1) then c0 else -1) = -1 from by
    rw [show sizeN c0 = 2 from by unfold sizeN; (repeat' split) <;> omega]; simp] at s1
  have s2 := spelled2_ret f s i hl (by omega) e0 e1 (by omega) (by omega) (by omega) rfl rfl
  rw [show (if runeB (64 * (c0 - 192) + c1 - 128) && decide (sizeN (64 * (c0 - 192) + c1 - 128) = 2) then (64 * (c0 - 192) + c1 - 128) else -1) = -1 from by
    rw [show sizeN (64 * (c0 - 192) + c1 - 128) = 3 from by unfold sizeN; (repeat' split) <;> omega]; simp] at s2
  have s3 := spelled3_ret f s i hl (by omega) e0 e1 e2 (by omega) (by omega) (by omega) (by omega) (by omega) rfl rfl rfl
  obtain ⟨n,hn⟩ : ∃ n,n = (64 * (64 * (c0 - 224) + c1 - 128) + c2 - 128) := ⟨_,rfl⟩
  rw [← hn] at s3
  have hr : runeB n = true := by simp only [runeB,Bool.and_eq_true,Bool.or_eq_true,decide_eq_true_eq]; omega
  have hs : sizeN n = 3 := by unfold sizeN; (repeat' split) <;> omega
  have n0 : 0 ≤ n := by omega
  rw [show (if runeB n && decide (sizeN n = 3) then n else -1) = n from by rw [hr,hs]; rfl] at s3
  have q := enc3_ret f (n0 := (c0 - 224)) (n1 := (64 * (c0 - 224) + c1 - 128)) (n2 := n) (d1 := c1 - 128) (d2 := c2 - 128) (c0 := c0) (c1 := c1) (c2 := c2) (show _ % 64 = _ by omega) (show _ / 64 = _ by omega) (by omega) (by omega) (by omega) (by omega) (by omega) (show _ % 64 = _ by omega) (show _ / 64 = _ by omega) (by omega) (by omega) (by omega) (by omega) (by omega) (by omega) (by omega) (by omega) (by omega) hr hs
  have m := same_ret f s i [c0,c1,c2] hl (by simp only [List.length_cons,List.length_nil]; omega) (by
    intro j c hj
    match j,hj with
    | 0,hj => cases hj; simpa using e0
    | 1,hj => cases hj; exact e1
    | 2,hj => cases hj; exact e2
    | j + 3,hj => simp at hj)
  rw [show byR [c0,c1,c2] = [[.int .u8 c0],[.int .u8 c1],[.int .u8 c2]] from rfl] at m
  refine ⟨n,Ret.mk f.a6 rfl ?_⟩
  clear hr hs hn
  repeat' (first | refine zA ?_ | refine WQ.cl f.a4.modes ?_ | refine W1.cl f.a4.modes (s1) ?_ | refine WQ.cl f.a4.modes ?_ | refine W1.cl f.a4.modes (s2) ?_ | refine WQ.cl f.a4.modes ?_ | refine W1.cl f.a4.modes (s3) ?_ | ((apply W1.callDL (hm := f.a3.modes) (show sealRows [[Cell.av (.int .u8 c0)],[Cell.av (.int .u8 c1)],[Cell.av (.int .u8 c2)]] = [[.int .u8 c0],[.int .u8 c1],[.int .u8 c2]] from rfl); (iterate 5 exact rfl); exact q; exact rfl)) | refine WQ.cl f.a5.modes ?_ | refine W1.cl f.a5.modes (m) ?_ | ((apply W1.addH (show (1 : Int) + 1 = 2 by decide); exact rfl; exact rfl; exact rfl; omega; omega)) | ((apply W1.addH (show (2 : Int) + 1 = 3 by decide); exact rfl; exact rfl; exact rfl; omega; omega)) | ((with_reducible refine W.loop ?_)) | refine zB ?_ | (refine zC ?_ ?_ <;> intro hc; all_goals first | (cases hc; done) | ((try simp only [hc]); (try simp only [bm] at hc))) | refine zE ?_ | refine zNZ ?_ | fail)
  all_goals first | exact ⟨.inr rfl,rfl,rfl⟩ | (exfalso; omega) | trace_state
theorem at4_ret (f : U2Fns T) (s : Str) (i : Nat) {c0 c1 c2 c3 : Int} (hl : s.length ≤ 1073741824) (hi : i + 4 ≤ s.length) (e0 : ((bAt s i).toNat : Int) = c0) (e1 : ((bAt s (i + 1)).toNat : Int) = c1) (e2 : ((bAt s (i + 2)).toNat : Int) = c2) (e3 : ((bAt s (i + 3)).toNat : Int) = c3) (h0 : 240 ≤ c0) (g0 : c0 ≤ 244) (k0 : c0 = 240 → 144 ≤ c1) (k1 : c0 = 244 → c1 ≤ 143) (h1 : 128 ≤ c1) (g1 : c1 ≤ 191) (h2 : 128 ≤ c2) (g2 : c2 ≤ 191) (h3 : 128 ≤ c3) (g3 : c3 ≤ 191) : ∃ n : Int,Ret T F.h02_at [.val (.str s),.val (.int .i64 i)] ⟨[([.av (.int .i64 i),.av (.int .i64 ((i : Int) + 4)),.av (.int .i64 n),.av (.bool false)],true)],[]⟩ := by
  have b0 : 0 ≤ c0 ∧ c0 < 256 := by have := UInt8.toNat_lt (bAt s i); omega
  have s1 := spelled1_ret f s i hl (by omega) e0
  rw [show (if runeB c0 && decide (sizeN c0 = 1) then c0 else -1) = -1 from by
    rw [show sizeN c0 = 2 from by unfold sizeN; (repeat' split) <;> omega]; simp] at s1
  have s2 := spelled2_ret f s i hl (by omega) e0 e1 (by omega) (by omega) (by omega) rfl rfl
  rw [show (if runeB (64 * (c0 - 192) + c1 - 128) && decide (sizeN (64 * (c0 - 192) + c1 - 128) = 2) then (64 * (c0 - 192) + c1 - 128) else -1) = -1 from by
    rw [show sizeN (64 * (c0 - 192) + c1 - 128) = 3 from by unfold sizeN; (repeat' split) <;> omega]; simp] at s2
  have s3 := spelled3_ret f s i hl (by omega) e0 e1 e2 (by omega) (by omega) (by omega) (by omega) (by omega) rfl rfl rfl
  rw [show (if runeB (64 * (64 * (c0 - 224) + c1 - 128) + c2 - 128) && decide (sizeN (64 * (64 * (c0 - 224) + c1 - 128) + c2 - 128) = 3) then (64 * (64 * (c0 - 224) + c1 - 128) + c2 - 128) else -1) = -1 from by
    rw [show sizeN (64 * (64 * (c0 - 224) + c1 - 128) + c2 - 128) = 4 from by unfold sizeN; (repeat' split) <;> omega]; simp] at s3
  have s4 := spelled4_ret f s i hl (by omega) e0 e1 e2 e3 (by omega) (by omega) (by omega) (by omega) (by omega) (by omega) (by omega) rfl rfl rfl rfl
  obtain ⟨n,hn⟩ : ∃ n,n = (64 * (64 * (64 * (c0 - 240) + c1 - 128) + c2 - 128) + c3 - 128) := ⟨_,rfl⟩
  rw [← hn] at s4
  have hr : runeB n = true := by simp only [runeB,Bool.and_eq_true,Bool.or_eq_true,decide_eq_true_eq]; omega
  have hs : sizeN n = 4 := by unfold sizeN; (repeat' split) <;> omega
  have n0 : 0 ≤ n := by omega
  rw [show (if runeB n && decide (sizeN n = 4) then n else -1) = n from by rw [hr,hs]; rfl] at s4
  have q := enc4_ret f (n0 := (c0 - 240)) (n1 := (64 * (c0 - 240) + c1 - 128)) (n2 := (64 * (64 * (c0 - 240) + c1 - 128) + c2 - 128)) (n3 := n) (d1 := c1 - 128) (d2 := c2 - 128) (d3 := c3 - 128) (c0 := c0) (c1 := c1) (c2 := c2) (c3 := c3) (show _ % 64 = _ by omega) (show _ / 64 = _ by omega) (by omega) (by omega) (by omega) (by omega) (by omega) (show _ % 64 = _ by omega) (show _ / 64 = _ by omega) (by omega) (by omega) (by omega) (by omega) (by omega) (show _ % 64 = _ by omega) (show _ / 64 = _ by omega) (by omega) (by omega) (by omega) (by omega) (by omega) (by omega) (by omega) (by omega) (by omega) hr hs
  have m := same_ret f s i [c0,c1,c2,c3] hl (by simp only [List.length_cons,List.length_nil]; omega) (by
    intro j c hj
    match j,hj with
    | 0,hj => cases hj; simpa using e0
    | 1,hj => cases hj; exact e1
    | 2,hj => cases hj; exact e2
    | 3,hj => cases hj; exact e3
    | j + 4,hj => simp at hj)
  rw [show byR [c0,c1,c2,c3] = [[.int .u8 c0],[.int .u8 c1],[.int .u8 c2],[.int .u8 c3]] from rfl] at m
  refine ⟨n,Ret.mk f.a6 rfl ?_⟩
  clear hr hs hn
  repeat' (first | refine zA ?_ | refine WQ.cl f.a4.modes ?_ | refine W1.cl f.a4.modes (s1) ?_ | refine WQ.cl f.a4.modes ?_ | refine W1.cl f.a4.modes (s2) ?_ | refine WQ.cl f.a4.modes ?_ | refine W1.cl f.a4.modes (s3) ?_ | refine WQ.cl f.a4.modes ?_ | refine W1.cl f.a4.modes (s4) ?_ | ((apply W1.callDL (hm := f.a3.modes) (show sealRows [[Cell.av (.int .u8 c0)],[Cell.av (.int .u8 c1)],[Cell.av (.int .u8 c2)],[Cell.av (.int .u8 c3)]] = [[.int .u8 c0],[.int .u8 c1],[.int .u8 c2],[.int .u8 c3]] from rfl); (iterate 5 exact rfl); exact q; exact rfl)) | refine WQ.cl f.a5.modes ?_ | refine W1.cl f.a5.modes (m) ?_ | ((apply W1.addH (show (1 : Int) + 1 = 2 by decide); exact rfl; exact rfl; exact rfl; omega; omega)) | ((apply W1.addH (show (2 : Int) + 1 = 3 by decide); exact rfl; exact rfl; exact rfl; omega; omega)) | ((apply W1.addH (show (3 : Int) + 1 = 4 by decide); exact rfl; exact rfl; exact rfl; omega; omega)) | ((with_reducible refine W.loop ?_)) | refine zB ?_ | (refine zC ?_ ?_ <;> intro hc; all_goals first | (cases hc; done) | ((try simp only [hc]); (try simp only [bm] at hc))) | refine zE ?_ | refine zNZ ?_ | fail)
  all_goals first | exact ⟨.inr rfl,rfl,rfl⟩ | (exfalso; omega) | trace_state
end
end Hm

/- The reference's reading of UTF-8: a text that is right is told so. NORMX NORMY NORMC Conditions: see each theorem. -/
namespace Hm
open Go (IntKind)
set_option maxHeartbeats 40000000
set_option maxRecDepth 4000
theorem tr_spec {s : Str} {i n : Nat} {lo hi : Int} (h : tr (s.drop (i + 1)) n lo hi = true) (hn : 0 < n) : i + n < s.length ∧ (∀ j,j < n → 128 ≤ ((bAt s (i + 1 + j)).toNat : Int) ∧ ((bAt s (i + 1 + j)).toNat : Int) ≤ 191) ∧ lo ≤ ((bAt s (i + 1)).toNat : Int) ∧ ((bAt s (i + 1)).toNat : Int) ≤ hi := by
  rw [tr] at h
  simp only [Bool.and_eq_true,decide_eq_true_eq,List.length_drop,bAt_drop,Nat.add_zero] at h
  obtain ⟨h1,h2,h3,h4⟩ := h
  refine ⟨by omega,fun j hj => ?_,h3,h4⟩
  have hm : bAt s (i + 1 + j) ∈ (s.drop (i + 1)).take n := by
    have hlt : i + 1 + j < s.length := by omega
    have e : bAt s (i + 1 + j) = s[i + 1 + j] := by simp [bAt,List.getD,List.getElem?_eq_getElem hlt]
    rw [e]
    refine List.mem_iff_getElem?.2 ⟨j,?_⟩
    rw [List.getElem?_take_of_lt hj,List.getElem?_drop,List.getElem?_eq_getElem hlt]
  have := List.all_eq_true.1 h2 _ hm
  rw [cont,Bool.and_eq_true,decide_eq_true_eq,decide_eq_true_eq] at this
  exact this
theorem wd_case {s : Str} {i : Nat} (hi : i < s.length) : wd (s.drop i) =
    (if ((bAt s i).toNat : Int) < 128 then 1
    else if (194 ≤ ((bAt s i).toNat : Int) ∧ ((bAt s i).toNat : Int) ≤ 223) ∧ tr (s.drop (i + 1)) 1 128 191 = true then 2
    else if (224 ≤ ((bAt s i).toNat : Int) ∧ ((bAt s i).toNat : Int) ≤ 239) ∧ tr (s.drop (i + 1)) 2 (if ((bAt s i).toNat : Int) = 224 then 160 else 128) (if ((bAt s i).toNat : Int) = 237 then 159 else 191) = true then 3
    else if (240 ≤ ((bAt s i).toNat : Int) ∧ ((bAt s i).toNat : Int) ≤ 244) ∧ tr (s.drop (i + 1)) 3 (if ((bAt s i).toNat : Int) = 240 then 144 else 128) (if ((bAt s i).toNat : Int) = 244 then 143 else 191) = true then 4
    else 0) := by
  rw [List.drop_eq_getElem_cons hi,wd]
  have e : bAt s i = s[i] := by simp [bAt,List.getD,List.getElem?_eq_getElem hi]
  rw [e]
def pcR (l : List (Int × Int × Int)) : List (List AV) := l.map fun p => [.int .i64 p.1,.int .i64 p.2.1,.int .i64 p.2.2,.bool false]
theorem pcR_len (l : List (Int × Int × Int)) : (pcR l).length = l.length := List.length_map ..
section
variable {T : Tab}
theorem at_ret (f : U2Fns T) (s : Str) (i : Nat) (hl : s.length ≤ 1073741824) (hi : i < s.length) (hw : wd (s.drop i) ≠ 0) : i + wd (s.drop i) ≤ s.length ∧ ∃ n : Int,Ret T F.h02_at [.val (.str s),.val (.int .i64 i)] ⟨[([.av (.int .i64 i),.av (.int .i64 ((i : Int) + wd (s.drop i))),.av (.int .i64 n),.av (.bool false)],true)],[]⟩ := by
  rw [wd_case hi] at hw ⊢
  by_cases c1 : ((bAt s i).toNat : Int) < 128
  · rw [if_pos c1]
    exact ⟨by omega,at1_ret f s i hl (by omega) rfl c1⟩
  rw [if_neg c1] at hw ⊢
  by_cases c2 : (194 ≤ ((bAt s i).toNat : Int) ∧ ((bAt s i).toNat : Int) ≤ 223) ∧ tr (s.drop (i + 1)) 1 128 191 = true
  · rw [if_pos c2]
    obtain ⟨a1,a2,a3,a4⟩ := tr_spec c2.2 (by decide)
    exact ⟨by omega,at2_ret f s i hl (by omega) rfl rfl c2.1.1 c2.1.2 (a2 0 (by decide)).1 (a2 0 (by decide)).2⟩
  rw [if_neg c2] at hw ⊢
  by_cases c3 : (224 ≤ ((bAt s i).toNat : Int) ∧ ((bAt s i).toNat : Int) ≤ 239) ∧ tr (s.drop (i + 1)) 2 (if ((bAt s i).toNat : Int) = 224 then 160 else 128) (if ((bAt s i).toNat : Int) = 237 then 159 else 191) = true
  · rw [if_pos c3]
    obtain ⟨a1,a2,a3,a4⟩ := tr_spec c3.2 (by decide)
    exact ⟨by omega,at3_ret f s i hl (by omega) rfl rfl rfl c3.1.1 c3.1.2 (fun e => by rw [if_pos e] at a3; exact a3) (fun e => by rw [if_pos e] at a4; exact a4) (a2 0 (by decide)).1 (a2 0 (by decide)).2 (a2 1 (by decide)).1 (a2 1 (by decide)).2⟩
  rw [if_neg c3] at hw ⊢
  by_cases c4 : (240 ≤ ((bAt s i).toNat : Int) ∧ ((bAt s i).toNat : Int) ≤ 244) ∧ tr (s.drop (i + 1)) 3 (if ((bAt s i).toNat : Int) = 240 then 144 else 128) (if ((bAt s i).toNat : Int) = 244 then 143 else 191) = true
  · rw [if_pos c4]
    obtain ⟨a1,a2,a3,a4⟩ := tr_spec c4.2 (by decide)
    exact ⟨by omega,at4_ret f s i hl (by omega) rfl rfl rfl rfl c4.1.1 c4.1.2 (fun e => by rw [if_pos e] at a3; exact a3) (fun e => by rw [if_pos e] at a4; exact a4) (a2 0 (by decide)).1 (a2 0 (by decide)).2 (a2 1 (by decide)).1 (a2 1 (by decide)).2 (a2 2 (by decide)).1 (a2 2 (by decide)).2⟩
  rw [if_neg c4] at hw
  exact absurd rfl hw
theorem pieces_ret (f : U2Fns T) (s : Str) (hl : s.length ≤ 1073741824) (hu : utf s = true) : ∃ l : List (Int × Int × Int),l.length ≤ s.length ∧ Ret T F.h02_Pieces [.val (.str s)] ⟨[([.own 4 (crow (pcR l))],false)],[]⟩ := by
  have main : ∃ r : CR,(∃ l : List (Int × Int × Int),l.length ≤ s.length ∧ r = ⟨[([.own 4 (crow (pcR l))],false)],[]⟩) ∧ Ret T F.h02_Pieces [.val (.str s)] r := by
    refine Ret.ex f.a7 rfl ?_
    repeat' (first | refine zA ?_ | refine zB ?_ | (refine zC ?_ ?_ <;> intro hc; all_goals first | (cases hc; done) | ((try simp only [hc]); (try simp only [bm] at hc))) | refine zE ?_ | refine zNZ ?_ | fail)
    refine W.iter (β := List (Int × Int × Int) × Nat) (fun b => ⟨lstE [(0,.av (.str s)),(3,.own [.own 4 (crow (pcR b.1))] false),(4,.av (.int .i64 (b.2 : Int)))],lstB [(0,none),(3,none),(4,none)]⟩)
      (fun b => b.1.length ≤ b.2 ∧ b.2 ≤ s.length ∧ utf (s.drop b.2) = true) (fun b => s.length - b.2) ([],0) rfl ⟨Nat.le_refl _,Nat.zero_le _,hu⟩ ?_
    rintro ⟨l,i⟩ ⟨p1,p2,p3⟩
    simp only at p1 p2 p3
    have e1 := crow_len (pcR l)
    rw [pcR_len] at e1
    by_cases hi : i < s.length
    · have hne : s.drop i ≠ [] := fun e => by
        have := congrArg List.length e
        rw [List.length_drop,List.length_nil] at this; omega
      rw [utf_cons hne,Bool.and_eq_true,Bool.not_eq_true',beq_eq_false_iff_ne,List.drop_drop] at p3
      obtain ⟨q1,n,r⟩ := at_ret f s i hl hi p3.1
      have q0 : 0 < wd (s.drop i) := by have := p3.1; omega
      have p4 := p3.2
      generalize wd (s.drop i) = w at *
      obtain ⟨j,hj⟩ : ∃ j : Int,(i : Int) + w = j := ⟨_,rfl⟩
      have e3 : crow (pcR (l ++ [((i : Int),j,n)])) = crow (pcR l) ++ [[.av (.int .i64 i),.av (.int .i64 j),.av (.int .i64 n),.av (.bool false)]] := by simp [crow,pcR]
      rw [hj] at r
      repeat' (first | refine zA ?_ | ((apply W1.callD1 (hm := f.a6.modes) (show sealRow [.av (.int .i64 i),.av (.int .i64 j),.av (.int .i64 n),.av (.bool false)] = [.int .i64 i,.int .i64 j,.int .i64 n,.bool false] from rfl); (iterate 5 exact rfl); exact r; exact rfl)) | (refine W1.bL ?_) | ((apply W1.appendO; (iterate 3 exact rfl); (simp only [e1,List.length_cons,List.length_nil,limit]; omega))) | refine zB ?_ | (refine zC ?_ ?_ <;> intro hc; all_goals first | (cases hc; done) | ((try simp only [hc]); (try simp only [bm] at hc))) | refine zE ?_ | refine zNZ ?_ | fail)
      refine ⟨(l ++ [((i : Int),j,n)],i + w),⟨?_,q1,p4⟩,?_,?_⟩
      · simp only [List.length_append,List.length_cons,List.length_nil]; omega
      · dsimp only; omega
      · dsimp only
        rw [e3,show (((i + w : Nat)) : Int) = j by omega]
    · clear hu
      repeat' (first | refine zA ?_ | refine zB ?_ | (refine zC ?_ ?_ <;> intro hc; all_goals first | (cases hc; done) | ((try simp only [hc]); (try simp only [bm] at hc))) | refine zE ?_ | refine zNZ ?_ | fail)
      exact ⟨_,⟨l,by omega,rfl⟩,.inr rfl,rfl,rfl⟩
  obtain ⟨r,⟨l,h1,rfl⟩,hr⟩ := main
  exact ⟨l,h1,hr⟩
theorem valid2_ret (f : U2Fns T) (s : Str) (hl : s.length ≤ 1073741824) (hu : utf s = true) : Ret T F.h02_Valid [.val (.str s)] (one (.bool true)) := by
  obtain ⟨l,hll,r⟩ := pieces_ret f s hl hu
  have e1 := pcR_len l
  refine Ret.mk f.a8 rfl ?_
  repeat' (first | refine zA ?_ | ((apply W1.callDL (hm := f.a7.modes) (seal_crow (pcR l)); (iterate 5 exact rfl); exact r; exact rfl)) | refine zB ?_ | (refine zC ?_ ?_ <;> intro hc; all_goals first | (cases hc; done) | ((try simp only [hc]); (try simp only [bm] at hc))) | refine zE ?_ | refine zNZ ?_ | fail)
  refine W.listP l (fun i (_ : Unit) s => s.put 4 (.av (.int .i64 (i : Int)))) (fun _ _ => True) () trivial rfl ?_ ?_
  · intro i x u hx hi _
    have hr : (pcR l)[i]? = some [.int .i64 x.1,.int .i64 x.2.1,.int .i64 x.2.2,.bool false] := by simp [pcR,hx]
    repeat' (first | refine zA ?_ | ((apply W1.iadr; (iterate 3 exact rfl); omega; exact hr)) | refine zB ?_ | (refine zC ?_ ?_ <;> intro hc; all_goals first | (cases hc; done) | ((try simp only [hc]); (try simp only [bm] at hc))) | refine zE ?_ | refine zNZ ?_ | fail)
    all_goals first | exact ⟨(),trivial,rfl⟩ | trace_state
  · intro u _
    repeat' (first | refine zA ?_ | refine zB ?_ | (refine zC ?_ ?_ <;> intro hc; all_goals first | (cases hc; done) | ((try simp only [hc]); (try simp only [bm] at hc))) | refine zE ?_ | refine zNZ ?_ | fail)
    exact Qend.boo rfl rfl rfl
end
end Hm

/- The text of a number, and the number of a text: plain laws. Conditions: none (definitions and plain lemmas). -/
namespace Hm
open Go (IntKind)
set_option maxRecDepth 4000
def digF (n : Nat) (c : UInt8) : Nat := 10 * n + (c.toNat - 48)
def isDg (c : UInt8) : Prop := 48 ≤ c.toNat ∧ c.toNat ≤ 57
theorem dig_byte {m : Nat} (h : m < 10) : (UInt8.ofNat (48 + m)).toNat = 48 + m := by
  rw [UInt8.toNat_ofNat']; omega
theorem digits_spec : ∀ (k m : Nat),m < 10 ^ (k + 1) → (∀ c ∈ digits (k + 1) m,isDg c) ∧ digits (k + 1) m ≠ [] ∧ (digits (k + 1) m).foldl digF 0 = m ∧ ((digits (k + 1) m).length = 1 ∨ (∃ c r,digits (k + 1) m = c :: r ∧ c.toNat ≠ 48)) ∧ (digits (k + 1) m).length ≤ k + 1
  | 0,m,h => by
    have h9 : m < 10 := by simpa using h
    have hb := dig_byte h9
    rw [digits,if_pos h9]
    refine ⟨fun c hc => ?_,by simp,?_,.inl rfl,Nat.le_refl _⟩
    · rw [List.mem_singleton] at hc; rw [hc,isDg,hb]; omega
    · simp only [List.foldl_cons,List.foldl_nil,digF,hb]; omega
  | k + 1,m,h => by
    rw [digits]
    by_cases h9 : m < 10
    · have hb := dig_byte h9
      rw [if_pos h9]
      refine ⟨fun c hc => ?_,by simp,?_,.inl rfl,by simp⟩
      · rw [List.mem_singleton] at hc; rw [hc,isDg,hb]; omega
      · simp only [List.foldl_cons,List.foldl_nil,digF,hb]; omega
    · have hm : m / 10 < 10 ^ (k + 1) := by rw [Nat.pow_succ] at h; omega
      obtain ⟨h1,h2,h3,h4,h5⟩ := digits_spec k (m / 10) hm
      have hb := dig_byte (show m % 10 < 10 by omega)
      rw [if_neg h9]
      refine ⟨fun c hc => ?_,by simp,?_,.inr ?_,by simp only [List.length_append,List.length_cons,List.length_nil]; omega⟩
      · rcases List.mem_append.1 hc with hc | hc
        · exact h1 c hc
        · rw [List.mem_singleton] at hc; rw [hc,isDg,hb]; omega
      · rw [List.foldl_append,h3]
        simp only [List.foldl_cons,List.foldl_nil,digF,hb]; omega
      · obtain ⟨c,r,hcr⟩ := List.exists_cons_of_ne_nil h2
        refine ⟨c,r ++ [UInt8.ofNat (48 + m % 10)],by rw [hcr]; rfl,?_⟩
        rcases h4 with h4 | ⟨c',r',hcr',hc'⟩
        · rw [hcr] at h3 h4
          have : r = [] := by
            rw [List.length_cons] at h4
            exact List.eq_nil_of_length_eq_zero (by omega)
          rw [this] at h3
          simp only [List.foldl_cons,List.foldl_nil,digF] at h3
          have := (h1 c (by rw [hcr]; simp)).1
          omega
        · rw [hcr] at hcr'
          cases hcr'; exact hc'
/-- What is so of the text of a number that isn't below nought. -/
structure NumT (s : Str) (m : Nat) : Prop where
  dg : ∀ c ∈ s,isDg c
  val : s.foldl digF 0 = m
  hd : s.length = 1 ∨ (bAt s 0).toNat ≠ 48
  pos : 0 < s.length
  len : s.length ≤ 20
theorem itoa_num (m : Nat) (h : m ≤ 1073741824) : NumT (itoa (m : Int)) m := by
  have e : itoa (m : Int) = digits 20 m := by
    unfold itoa
    rw [if_neg (by omega)]
    simp
  obtain ⟨h1,h2,h3,h4,h5⟩ := digits_spec 19 m (by
    have : (10 : Nat) ^ 20 = 100000000000000000000 := by decide
    omega)
  rw [e]
  refine ⟨h1,h3,?_,List.length_pos_iff.2 h2,h5⟩
  rcases h4 with h4 | ⟨c,r,hcr,hc⟩
  · exact .inl h4
  · rw [hcr]; exact .inr hc
theorem dig_mono : ∀ (l : List UInt8) (n : Nat),n ≤ l.foldl digF n
  | [],n => Nat.le_refl _
  | c :: l,n => by
    rw [List.foldl_cons]
    refine Nat.le_trans ?_ (dig_mono l _)
    rw [digF]; omega
theorem dig_take (s : List UInt8) (i : Nat) : (s.take i).foldl digF 0 ≤ s.foldl digF 0 := by
  have : s.foldl digF 0 = (s.drop i).foldl digF ((s.take i).foldl digF 0) := by rw [← List.foldl_append,List.take_append_drop]
  rw [this]
  exact dig_mono _ _
theorem dig_take_succ {s : List UInt8} {i : Nat} {c : UInt8} (h : s[i]? = some c) : (s.take (i + 1)).foldl digF 0 = 10 * (s.take i).foldl digF 0 + (c.toNat - 48) := by
  rw [List.take_add_one,h,List.foldl_append]; rfl
end Hm

/- Keys, as the reference tests them: numerals and values without parts. NORMX NORMY NORMC Conditions: see each theorem. -/
namespace Hm
open Go (IntKind)
set_option maxHeartbeats 40000000
set_option maxRecDepth 4000
theorem W1.slcH {T : Tab} {st : St} {K : St → Prop} {dst : Option Nat} {g : Option (Nat × Bool)} {k : Nat} {x : Opd} {lo hi : Option Opd} {s s' : List UInt8} {l h : Nat} (he : (s.take h).drop l = s') (hg : wanted st g = some true) (hx : st.opd x = .av (.str s)) (hl : st.bnd 0 lo = some l) (hh : st.bnd s.length hi = some h) (hc : l ≤ h ∧ h ≤ s.length)
    (hk : K (putD dst (.av (.str s')) st)) : W1 T ⟨dst,.slc true k x lo hi,g⟩ st K := by subst he; exact W1.slcS hg hx hl hh hc hk
structure R5Fns (T : Tab) : Prop where
  a1 : Fn T F.h05_isDigit h05_isDigit.fn
  a2 : Fn T F.h05_isLetter h05_isLetter.fn
  a3 : Fn T F.h05_numeral h05_numeral.fn
  a4 : Fn T F.h05_Right h05_Right.fn
  u2 : U2Fns T
section
variable {T : Tab}
theorem isDigit5_ret (f : R5Fns T) (c : Int) (h0 : 48 ≤ c) (h1 : c ≤ 57) : Ret T F.h05_isDigit [.val (.int .u8 c)] (one (.bool true)) := by
  refine Ret.mk f.a1 rfl ?_
  repeat' (first | refine zA ?_ | refine zB ?_ | (refine zC ?_ ?_ <;> intro hc; all_goals first | (cases hc; done) | ((try simp only [hc]); (try simp only [bm] at hc))) | refine zE ?_ | refine zNZ ?_ | fail)
  all_goals first | (refine Qend.boo rfl rfl ?_; simp; omega) | (exfalso; omega) | trace_state
theorem isLetter5_ret (f : R5Fns T) (c : Int) (h0 : 48 ≤ c) (h1 : c ≤ 57) : Ret T F.h05_isLetter [.val (.int .u8 c)] (one (.bool false)) := by
  refine Ret.mk f.a2 rfl ?_
  repeat' (first | refine zA ?_ | refine zB ?_ | (refine zC ?_ ?_ <;> intro hc; all_goals first | (cases hc; done) | ((try simp only [hc]); (try simp only [bm] at hc))) | refine zE ?_ | refine zNZ ?_ | fail)
  all_goals first | (refine Qend.boo rfl rfl ?_; simp; omega) | (exfalso; omega) | trace_state
theorem numeral_ret (f : R5Fns T) (s : Str) (m : Nat) (h : NumT s m) : Ret T F.h05_numeral [.val (.str s),.val (.int .i64 0)] ⟨[([.av (.int .u8 0),.av (.int .i64 0),.av (.int .i64 s.length),.av (.str s),.av (.int .i64 0)],true)],[]⟩ := by
  obtain ⟨h1,-,h3,h4,h5⟩ := h
  have hget : ∀ (i : Nat) (c : UInt8),s[i]? = some c → ((bAt s i).toNat : Int) = (c.toNat : Int) ∧ 48 ≤ (c.toNat : Int) ∧ (c.toNat : Int) ≤ 57 := fun i c hi => by
    have := h1 c (List.mem_of_getElem? hi)
    rw [isDg] at this
    refine ⟨by simp [bAt,List.getD,hi],by omega,by omega⟩
  refine Ret.mk f.a3 rfl ?_
  repeat' (first | refine zA ?_ | refine zB ?_ | (refine zC ?_ ?_ <;> intro hc; all_goals first | (cases hc; done) | ((try simp only [hc]); (try simp only [bm] at hc))) | refine zE ?_ | refine zNZ ?_ | fail)
  refine W.listP s (fun j (_ : Unit) st => st.put 5 (.av (.int .i64 (j : Int)))) (fun _ _ => True) () trivial rfl ?_ ?_
  · intro i c u hx hi _
    obtain ⟨e0,g0,g1⟩ := hget i c hx
    have r1 := isDigit5_ret f c.toNat g0 g1
    have r2 := isLetter5_ret f c.toNat g0 g1
    repeat' (first | refine zA ?_ | ((apply W1.idxN e0; exact rfl; exact rfl; exact rfl; omega; omega)) | refine WQ.cl f.a1.modes ?_ | refine W1.cl f.a1.modes (r1) ?_ | refine WQ.cl f.a2.modes ?_ | refine W1.cl f.a2.modes (r2) ?_ | refine zB ?_ | (refine zC ?_ ?_ <;> intro hc; all_goals first | (cases hc; done) | ((try simp only [hc]); (try simp only [bm] at hc))) | refine zE ?_ | refine zNZ ?_ | fail)
    all_goals first | exact ⟨(),trivial,rfl⟩ | trace_state
  · intro u _
    obtain ⟨c,hc⟩ : ∃ c,s[0]? = some c := ⟨s[0],List.getElem?_eq_getElem h4⟩
    obtain ⟨e0,g0,g1⟩ := hget 0 c hc
    have hz : (s.take s.length).drop 0 = s := by rw [List.take_length,List.drop_zero]
    repeat' (first | refine zA ?_ | ((apply W1.slcH hz; exact rfl; exact rfl; exact rfl; exact rfl; omega)) | ((apply W1.idxN e0; exact rfl; exact rfl; exact rfl; omega; omega)) | refine zB ?_ | (refine zC ?_ ?_ <;> intro hc; all_goals first | (cases hc; done) | ((try simp only [hc]); (try simp only [bm] at hc))) | refine zE ?_ | refine zNZ ?_ | fail)
    all_goals first
      | (refine W.listP s (fun j (_ : Unit) st => (st.put 8 (.av (.bool true))).put 9 (.av (.int .i64 (j : Int)))) (fun _ _ => True) () trivial rfl ?_ ?_)
      | (have hb : ((s.length : Int) == 1) = true := by rw [beq_iff_eq]; omega
         rw [hb]
         refine W.listP s (fun j (_ : Unit) st => (st.put 8 (.av (.bool true))).put 9 (.av (.int .i64 (j : Int)))) (fun _ _ => True) () trivial rfl ?_ ?_)
      | trace_state
    all_goals first
      | (intro i c u hx hi _
         obtain ⟨e0,g0,g1⟩ := hget i c hx
         have r1 := isDigit5_ret f c.toNat g0 g1
         repeat' (first | refine zA ?_ | ((apply W1.idxN e0; exact rfl; exact rfl; exact rfl; omega; omega)) | refine WQ.cl f.a1.modes ?_ | refine W1.cl f.a1.modes (r1) ?_ | refine zB ?_ | (refine zC ?_ ?_ <;> intro hc; all_goals first | (cases hc; done) | ((try simp only [hc]); (try simp only [bm] at hc))) | refine zE ?_ | refine zNZ ?_ | fail)
         all_goals exact ⟨(),trivial,rfl⟩)
      | (intro u _
         repeat' (first | refine zA ?_ | refine zB ?_ | (refine zC ?_ ?_ <;> intro hc; all_goals first | (cases hc; done) | ((try simp only [hc]); (try simp only [bm] at hc))) | refine zE ?_ | refine zNZ ?_ | fail)
         all_goals first | exact ⟨.inr rfl,rfl,rfl⟩ | (rename_i hcs; subst hcs; exact ⟨.inr rfl,rfl,rfl⟩) | (subst hc; exact ⟨.inr rfl,rfl,rfl⟩) | trace_state)
end
end Hm

/- Keys, as the reference tests them, and where they lead. NORMX NORMY NORMC Conditions: see each theorem. -/
namespace Hm
open Go (IntKind)
set_option maxHeartbeats 40000000
set_option maxRecDepth 4000
structure R8Fns (T : Tab) : Prop where
  a1 : Fn T F.h08_Right h08_Right.fn
  a2 : Fn T F.h08_IsKey h08_IsKey.fn
  a3 : Fn T F.h08_Fits h08_Fits.fn
  a4 : Fn T F.h08_Place h08_Place.fn
  a5 : Fn T F.h08_Find h08_Find.fn
  a6 : Fn T F.h08_Step h08_Step.fn
  r5 : R5Fns T
section
variable {T : Tab}
theorem right5_num (f : R5Fns T) (s : Str) (m : Nat) (h : NumT s m) : Ret T F.h05_Right [.val (.agg [.int .i64 3,.str s,.str [],.lst 5 [],.lst 1 []]),.val (.int .i64 1073741824)] (one (.bool true)) := by
  have r1 := numeral_ret f s m h
  have r2 := valid2_ret f.u2 [] (by decide) rfl
  obtain ⟨h1,-,-,h4,h5⟩ := h
  obtain ⟨c,hc⟩ : ∃ c,s[0]? = some c := ⟨s[0],List.getElem?_eq_getElem h4⟩
  have hd := h1 c (List.mem_of_getElem? hc)
  rw [isDg] at hd
  have e0 : ((bAt s 0).toNat : Int) = (c.toNat : Int) := by simp [bAt,List.getD,hc]
  have r3 := isDigit5_ret f c.toNat (by omega) (by omega)
  have hne : s ≠ [] := List.length_pos_iff.1 h4
  refine Ret.mk f.a4 rfl ?_
  repeat' (first | refine zA ?_ | ((apply W1.idxN e0; exact rfl; exact rfl; exact rfl; omega; omega)) | refine WQ.cl f.a1.modes ?_ | refine W1.cl f.a1.modes (r3) ?_ | ((apply W1.callD1 (hm := f.a3.modes) (show sealRow [.av (.int .u8 0),.av (.int .i64 0),.av (.int .i64 s.length),.av (.str s),.av (.int .i64 0)] = [.int .u8 0,.int .i64 0,.int .i64 s.length,.str s,.int .i64 0] from rfl); (iterate 5 exact rfl); exact r1; exact rfl)) | refine WQ.cl f.u2.a8.modes ?_ | refine W1.cl f.u2.a8.modes (r2) ?_ | ((with_reducible refine W.loop ?_)) | refine zB ?_ | (refine zC ?_ ?_ <;> intro hc; all_goals first | (cases hc; done) | ((try simp only [hc]); (try simp only [bm] at hc))) | refine zE ?_ | refine zNZ ?_ | fail)
  all_goals first | exact Qend.boo rfl rfl rfl | (exfalso; simp_all; done) | trace_state
theorem right5_txt (f : R5Fns T) (s : Str) (hu : utf s = true) (hl : s.length ≤ 1073741824) : Ret T F.h05_Right [.val (.agg [.int .i64 4,.str [],.str s,.lst 5 [],.lst 1 []]),.val (.int .i64 1073741824)] (one (.bool true)) := by
  have r2 := valid2_ret f.u2 s hl hu
  refine Ret.mk f.a4 rfl ?_
  repeat' (first | refine zA ?_ | refine WQ.cl f.u2.a8.modes ?_ | refine W1.cl f.u2.a8.modes (r2) ?_ | ((with_reducible refine W.loop ?_)) | refine zB ?_ | (refine zC ?_ ?_ <;> intro hc; all_goals first | (cases hc; done) | ((try simp only [hc]); (try simp only [bm] at hc))) | refine zE ?_ | refine zNZ ?_ | fail)
  all_goals first | exact Qend.boo rfl rfl rfl | (exfalso; simp_all; done) | trace_state
end
end Hm

/- Steps along a way, as the reference takes them. NORMX NORMY NORMC Conditions: see each theorem. -/
namespace Hm
open Go (IntKind)
set_option maxHeartbeats 40000000
set_option maxRecDepth 100000
section
variable {T : Tab}
theorem isKey_num (f : R8Fns T) (s : Str) (m : Nat) (h : NumT s m) : Ret T F.h08_IsKey [.val (.agg [.int .i64 3,.str s,.str [],.lst 5 [],.lst 1 []])] (one (.bool true)) := by
  have r1 := right5_num f.r5 s m h
  have r2 : Ret T F.h08_Right [.val (.agg [.int .i64 3,.str s,.str [],.lst 5 [],.lst 1 []])] (one (.bool true)) := by
    refine Ret.mk f.a1 rfl ?_
    repeat' (first | refine zA ?_ | refine WQ.cl f.r5.a4.modes ?_ | refine W1.cl f.r5.a4.modes (r1) ?_ | refine zB ?_ | (refine zC ?_ ?_ <;> intro hc; all_goals first | (cases hc; done) | ((try simp only [hc]); (try simp only [bm] at hc))) | refine zE ?_ | refine zNZ ?_ | fail)
    all_goals first | exact Qend.boo rfl rfl rfl | trace_state
  refine Ret.mk f.a2 rfl ?_
  repeat' (first | refine zA ?_ | refine WQ.cl f.a1.modes ?_ | refine W1.cl f.a1.modes (r2) ?_ | refine zB ?_ | (refine zC ?_ ?_ <;> intro hc; all_goals first | (cases hc; done) | ((try simp only [hc]); (try simp only [bm] at hc))) | refine zE ?_ | refine zNZ ?_ | fail)
  all_goals first | exact Qend.boo rfl rfl rfl | (exfalso; simp_all; done) | trace_state
theorem isKey_txt (f : R8Fns T) (s : Str) (hu : utf s = true) (hl : s.length ≤ 1073741824) : Ret T F.h08_IsKey [.val (.agg [.int .i64 4,.str [],.str s,.lst 5 [],.lst 1 []])] (one (.bool true)) := by
  have r1 := right5_txt f.r5 s hu hl
  have r2 : Ret T F.h08_Right [.val (.agg [.int .i64 4,.str [],.str s,.lst 5 [],.lst 1 []])] (one (.bool true)) := by
    refine Ret.mk f.a1 rfl ?_
    repeat' (first | refine zA ?_ | refine WQ.cl f.r5.a4.modes ?_ | refine W1.cl f.r5.a4.modes (r1) ?_ | refine zB ?_ | (refine zC ?_ ?_ <;> intro hc; all_goals first | (cases hc; done) | ((try simp only [hc]); (try simp only [bm] at hc))) | refine zE ?_ | refine zNZ ?_ | fail)
    all_goals first | exact Qend.boo rfl rfl rfl | trace_state
  refine Ret.mk f.a2 rfl ?_
  repeat' (first | refine zA ?_ | refine WQ.cl f.a1.modes ?_ | refine W1.cl f.a1.modes (r2) ?_ | refine zB ?_ | (refine zC ?_ ?_ <;> intro hc; all_goals first | (cases hc; done) | ((try simp only [hc]); (try simp only [bm] at hc))) | refine zE ?_ | refine zNZ ?_ | fail)
  all_goals first | exact Qend.boo rfl rfl rfl | (exfalso; simp_all; done) | trace_state
theorem fits_num (f : R8Fns T) (x : V) (hk : x.kind = 5) (s : Str) (m : Nat) (h : NumT s m) : Ret T F.h08_Fits [.val x.av,.val (.agg [.int .i64 3,.str s,.str [],.lst 5 [],.lst 1 []])] (one (.bool true)) := by
  have r := isKey_num f s m h
  refine Ret.mk f.a3 rfl ?_
  rw [V.av_eq,hk]
  repeat' (first | refine zA ?_ | refine WQ.cl f.a2.modes ?_ | refine W1.cl f.a2.modes (r) ?_ | refine zB ?_ | (refine zC ?_ ?_ <;> intro hc; all_goals first | (cases hc; done) | ((try simp only [hc]); (try simp only [bm] at hc))) | refine zE ?_ | refine zNZ ?_ | fail)
  all_goals first | exact Qend.boo rfl rfl rfl | (exfalso; simp_all; done) | trace_state
theorem fits_txt (f : R8Fns T) (x : V) (hk : x.kind = 6) (s : Str) (hu : utf s = true) (hl : s.length ≤ 1073741824) : Ret T F.h08_Fits [.val x.av,.val (.agg [.int .i64 4,.str [],.str s,.lst 5 [],.lst 1 []])] (one (.bool true)) := by
  have r := isKey_txt f s hu hl
  refine Ret.mk f.a3 rfl ?_
  rw [V.av_eq,hk]
  repeat' (first | refine zA ?_ | refine WQ.cl f.a2.modes ?_ | refine W1.cl f.a2.modes (r) ?_ | refine zB ?_ | (refine zC ?_ ?_ <;> intro hc; all_goals first | (cases hc; done) | ((try simp only [hc]); (try simp only [bm] at hc))) | refine zE ?_ | refine zNZ ?_ | fail)
  all_goals first | exact Qend.boo rfl rfl rfl | (exfalso; simp_all; done) | trace_state
theorem W1.subU8 {st : St} {K : St → Prop} {dst : Option Nat} {g : Option (Nat × Bool)} {x y : Opd} {a b c : Int} (hc : a - b = c) (hg : wanted st g = some true) (hx : st.opd x = .av (.int .u8 a)) (hy : st.opd y = .av (.int .u8 b)) (h0 : 0 ≤ c) (h1 : c < 256)
    (hk : K (putD dst (.av (.int .u8 c)) st)) : W1 T ⟨dst,.bin .sub x y,g⟩ st K := by
  have e : IntKind.wrap .u8 (a - b) = c := by subst hc; simp [IntKind.wrap,IntKind.bits,IntKind.signed]; omega
  exact W1.go hg (WS.op (v := .av (.int .u8 c)) rfl (by simp only [stepOp,hx,hy,binA,ne_eq,not_true_eq_false,if_false,inRange,e]) hk)
theorem W1.lssT {st : St} {K : St → Prop} {dst : Option Nat} {g : Option (Nat × Bool)} {x y : Opd} {a b : Int} (hab : a < b) (hg : wanted st g = some true) (hx : st.opd x = .av (.int .i64 a)) (hy : st.opd y = .av (.int .i64 b))
    (hk : K (putD dst (.av (.bool true)) st)) : W1 T ⟨dst,.bin .lss x y,g⟩ st K := by
  exact W1.go hg (WS.op (v := .av (.bool true)) rfl (by simp only [stepOp,hx,hy,binA,ne_eq,not_true_eq_false,if_false,decide_eq_true hab]) hk)
theorem place_ret (f : R8Fns T) (s : Str) (m : Nat) (h : NumT s m) (hm : m ≤ 1073741824) (n : Int) : Ret T F.h08_Place [.val (.str s),.val (.int .i64 n)] (one (.int .i64 m)) := by
  obtain ⟨h1,hv,-,h4,h5⟩ := h
  obtain ⟨c,hc⟩ : ∃ c,s[0]? = some c := ⟨s[0],List.getElem?_eq_getElem h4⟩
  have hd := h1 c (List.mem_of_getElem? hc)
  rw [isDg] at hd
  have e0 : ((bAt s 0).toNat : Int) = (c.toNat : Int) := by simp [bAt,List.getD,hc]
  refine Ret.mk f.a4 rfl ?_
  repeat' (first | refine zA ?_ | ((apply W1.idxN e0; exact rfl; exact rfl; exact rfl; omega; omega)) | refine zB ?_ | (refine zC ?_ ?_ <;> intro hc; all_goals first | (cases hc; done) | ((try simp only [hc]); (try simp only [bm] at hc))) | refine zE ?_ | refine zNZ ?_ | fail)
  have hb : ((c.toNat : Int) == 45) = false := by rw [beq_eq_false_iff_ne]; omega
  rw [hb]
  refine W.listP s (fun j (b : Nat) st => (st.put 6 (.av (.int .i64 (b : Int)))).put 7 (.av (.int .i64 (j : Int)))) (fun j b => b = (s.take j).foldl digF 0) 0 rfl rfl ?_ ?_
  · intro i x b hx hi hp
    have hdx := h1 x (List.mem_of_getElem? hx)
    rw [isDg] at hdx
    have ex : ((bAt s i).toNat : Int) = (x.toNat : Int) := by simp [bAt,List.getD,hx]
    have hle := dig_take s (i + 1)
    have hle0 := dig_take s i
    have hsu := dig_take_succ hx
    rw [hv] at hle hle0
    rw [← hp] at hsu hle0
    obtain ⟨d,hdd⟩ : ∃ d : Int,(x.toNat : Int) - 48 = d := ⟨_,rfl⟩
    generalize hq : (s.take (i + 1)).foldl digF 0 = q at *
    clear hc e0 hb
    have hbig : (b : Int) < 1099511627776 := by omega
    repeat' (first | refine zA ?_ | ((apply W1.lssT hbig; exact rfl; exact rfl; exact rfl)) | ((apply W1.idxN ex; exact rfl; exact rfl; exact rfl; omega; omega)) | ((apply W1.subU8 hdd; exact rfl; exact rfl; exact rfl; omega; omega)) | ((apply W1.u8to64; exact rfl; exact rfl; omega; omega)) | ((apply W1.mul64; exact rfl; exact rfl; exact rfl; omega; omega)) | refine zB ?_ | (refine zC ?_ ?_ <;> intro hc; all_goals first | (cases hc; done) | ((try simp only [hc]); (try simp only [bm] at hc))) | refine zE ?_ | refine zNZ ?_ | fail)
    all_goals first
      | (refine ⟨q,rfl,?_⟩
         have hqi : ((q : Nat) : Int) = 10 * (b : Int) + d := by omega
         rw [hqi]
         first | done | rfl)
      | trace_state
  · intro b hp
    rw [List.take_length,hv] at hp
    subst hp
    repeat' (first | refine zA ?_ | refine zB ?_ | (refine zC ?_ ?_ <;> intro hc; all_goals first | (cases hc; done) | ((try simp only [hc]); (try simp only [bm] at hc))) | refine zE ?_ | refine zNZ ?_ | fail)
    all_goals first | exact Qend.num rfl rfl rfl | trace_state
theorem find_arr (f : R8Fns T) (x : V) (hk : x.kind = 5) (s : Str) (m : Nat) (h : NumT s m) (hb : x.items.length ≤ 1073741824) (hm : m < x.items.length) : Ret T F.h08_Find [.val x.av,.val (.agg [.int .i64 3,.str s,.str [],.lst 5 [],.lst 1 []])] (one (.int .i64 m)) := by
  have e5 : (x.items.map V.row).length = x.items.length := List.length_map ..
  have r := place_ret f s m h (by omega) (x.items.length : Int)
  refine Ret.mk f.a5 rfl ?_
  rw [V.av_eq,hk]
  repeat' (first | refine zA ?_ | refine WQ.cl f.a4.modes ?_ | refine W1.cl f.a4.modes (r) ?_ | refine zB ?_ | (refine zC ?_ ?_ <;> intro hc; all_goals first | (cases hc; done) | ((try simp only [hc]); (try simp only [bm] at hc))) | refine zE ?_ | refine zNZ ?_ | fail)
  all_goals first | exact Qend.num rfl rfl rfl | (exfalso; omega) | trace_state
theorem find_obj (f : R8Fns T) (x : V) (hk : x.kind = 6) (s : Str) (i : Nat) (hi : x.keys[i]? = some s) (hd : ∀ j,j < i → x.keys[j]? ≠ some s) (hb : x.keys.length ≤ 1073741824) : Ret T F.h08_Find [.val x.av,.val (.agg [.int .i64 4,.str [],.str s,.lst 5 [],.lst 1 []])] (one (.int .i64 i)) := by
  have e1 := srow_len x.keys
  have hlt := (List.getElem?_eq_some_iff.1 hi).1
  refine Ret.mk f.a5 rfl ?_
  rw [V.av_eq,hk]
  repeat' (first | refine zA ?_ | refine zB ?_ | (refine zC ?_ ?_ <;> intro hc; all_goals first | (cases hc; done) | ((try simp only [hc]); (try simp only [bm] at hc))) | refine zE ?_ | refine zNZ ?_ | fail)
  refine W.listP x.keys (fun j (_ : Unit) st => st.put 5 (.av (.int .i64 (j : Int)))) (fun j _ => j ≤ i) () (Nat.zero_le _) rfl ?_ ?_
  · intro j k u hx hj hp
    by_cases hji : j = i
    · subst hji
      rw [hi] at hx
      cases hx
      have hgr := get_srow hi
      repeat' (first | refine zA ?_ | ((apply W1.iadr; (iterate 3 exact rfl); omega; exact hgr)) | refine zB ?_ | (refine zC ?_ ?_ <;> intro hc; all_goals first | (cases hc; done) | ((try simp only [hc]); (try simp only [bm] at hc))) | refine zE ?_ | refine zNZ ?_ | fail)
      all_goals first | exact Qend.num rfl rfl rfl | (exfalso; simp_all; done) | trace_state
    · have hne : k ≠ s := fun e => hd j (by omega) (by rw [hx,e])
      have hne' : (k == s) = false := beq_eq_false_iff_ne.2 hne
      have hgr := get_srow hx
      repeat' (first | refine zA ?_ | ((apply W1.iadr; (iterate 3 exact rfl); omega; exact hgr)) | refine zB ?_ | (refine zC ?_ ?_ <;> intro hc; all_goals first | (cases hc; done) | ((try simp only [hc]); (try simp only [bm] at hc))) | refine zE ?_ | refine zNZ ?_ | fail)
      all_goals first | exact ⟨(),by omega,rfl⟩ | (exfalso; simp_all; done) | trace_state
  · intro u hp
    exfalso; omega
theorem step_arr (f : R8Fns T) (x y : V) (hk : x.kind = 5) (m : Nat) (hb : x.items.length ≤ 1073741824) (hy : x.items[m]? = some y) : Ret T F.h08_Step [.val x.av,.val (numV (itoa (m : Int))).av] ⟨[(y.row.map .av,true),([.av (.bool true)],false)],[]⟩ := by
  have e5 : (x.items.map V.row).length = x.items.length := List.length_map ..
  have hm := (List.getElem?_eq_some_iff.1 hy).1
  have hn := itoa_num m (by omega)
  have r1 := fits_num f x hk _ m hn
  have r2 := find_arr f x hk _ m hn hb hm
  have hgr : (x.items.map V.row)[m]? = some y.row := by simp [hy]
  rw [V.row_eq] at hgr ⊢
  refine Ret.mk f.a6 rfl ?_
  rw [V.av_eq,hk] at *
  rw [V.av_eq (numV _)]
  generalize itoa (m : Int) = s at *
  show W T _ ⟨lstE (entry 0 [.val (.agg [.int .i64 5,.str x.num,.str x.text,.lst 5 (x.items.map V.row),.lst 1 (srow x.keys)]),.val (.agg [.int .i64 3,.str s,.str [],.lst 5 [],.lst 1 []])]).1,lstB (entry 0 [.val (.agg [.int .i64 5,.str x.num,.str x.text,.lst 5 (x.items.map V.row),.lst 1 (srow x.keys)]),.val (.agg [.int .i64 3,.str s,.str [],.lst 5 [],.lst 1 []])]).2⟩ (Qend _ [.val (.agg [.int .i64 5,.str x.num,.str x.text,.lst 5 (x.items.map V.row),.lst 1 (srow x.keys)]),.val (.agg [.int .i64 3,.str s,.str [],.lst 5 [],.lst 1 []])] _)
  repeat' (first | refine zA ?_ | refine WQ.cl f.a3.modes ?_ | refine W1.cl f.a3.modes (r1) ?_ | refine WQ.cl f.a5.modes ?_ | refine W1.cl f.a5.modes (r2) ?_ | ((apply W1.iadr; (iterate 3 exact rfl); omega; exact hgr)) | refine zB ?_ | (refine zC ?_ ?_ <;> intro hc; all_goals first | (cases hc; done) | ((try simp only [hc]); (try simp only [bm] at hc))) | refine zE ?_ | refine zNZ ?_ | fail)
  all_goals first | exact ⟨.inr rfl,rfl,rfl⟩ | (exfalso; omega) | (exfalso; simp_all; done) | trace_state
theorem step_obj (f : R8Fns T) (x y : V) (hk : x.kind = 6) (s : Str) (hu : utf s = true) (i : Nat) (hi : x.keys[i]? = some s) (hd : ∀ j,j < i → x.keys[j]? ≠ some s) (hy : x.items[i]? = some y) (hb : x.bk ≤ 1073741824) :
    Ret T F.h08_Step [.val x.av,.val (txtV s).av] ⟨[(y.row.map .av,true),([.av (.bool true)],false)],[]⟩ := by
  have e5 : (x.items.map V.row).length = x.items.length := List.length_map ..
  have hm := (List.getElem?_eq_some_iff.1 hy).1
  have hbk := V.bk_eq x
  have l1 := len_sbk x.keys
  have l2 := V.len_bks x.items
  have hsb := sbk_mem (List.mem_of_getElem? hi)
  have r1 := fits_txt f x hk s hu (by omega)
  have r2 := find_obj f x hk s i hi hd (by omega)
  have hgr : (x.items.map V.row)[i]? = some y.row := by simp [hy]
  rw [V.row_eq] at hgr ⊢
  refine Ret.mk f.a6 rfl ?_
  rw [V.av_eq,hk] at *
  rw [V.av_eq (txtV _)]
  show W T _ ⟨lstE (entry 0 [.val (.agg [.int .i64 6,.str x.num,.str x.text,.lst 5 (x.items.map V.row),.lst 1 (srow x.keys)]),.val (.agg [.int .i64 4,.str [],.str s,.lst 5 [],.lst 1 []])]).1,lstB (entry 0 [.val (.agg [.int .i64 6,.str x.num,.str x.text,.lst 5 (x.items.map V.row),.lst 1 (srow x.keys)]),.val (.agg [.int .i64 4,.str [],.str s,.lst 5 [],.lst 1 []])]).2⟩ (Qend _ [.val (.agg [.int .i64 6,.str x.num,.str x.text,.lst 5 (x.items.map V.row),.lst 1 (srow x.keys)]),.val (.agg [.int .i64 4,.str [],.str s,.lst 5 [],.lst 1 []])] _)
  repeat' (first | refine zA ?_ | refine WQ.cl f.a3.modes ?_ | refine W1.cl f.a3.modes (r1) ?_ | refine WQ.cl f.a5.modes ?_ | refine W1.cl f.a5.modes (r2) ?_ | ((apply W1.iadr; (iterate 3 exact rfl); omega; exact hgr)) | refine zB ?_ | (refine zC ?_ ?_ <;> intro hc; all_goals first | (cases hc; done) | ((try simp only [hc]); (try simp only [bm] at hc))) | refine zE ?_ | refine zNZ ?_ | fail)
  all_goals first | exact ⟨.inr rfl,rfl,rfl⟩ | (exfalso; omega) | (exfalso; simp_all; done) | trace_state
end
end Hm

/- Counting the parts of a value. Conditions: see each theorem. NORMX NORMY -/
namespace Hm
open Go (IntKind)
set_option maxHeartbeats 40000000
set_option maxRecDepth 4000
section
variable {T : Tab}
theorem partsOf_ret (h : Fn T F.hk_PartsOf hk_PartsOf.fn) : ∀ (v : V),v.bk ≤ 1073741824 → ∀ (most : Int),0 ≤ most → most ≤ 10000000000 → ∃ n : Int,(1 ≤ n ∧ n ≤ v.bk) ∧ Ret T F.hk_PartsOf [.val v.av,.val (.int .i64 most)] (one (.int .i64 n)) := by
  intro v
  induction v using V.ind with
  | h v ih =>
  intro hb most h1 h2
  have hbk := V.bk_eq v
  have hk := len_sbk v.keys
  have hl := V.len_bks v.items
  have e1 := srow_len v.keys
  have e2 : (v.items.map V.row).length = v.items.length := List.length_map ..
  refine Ret.ex1 (g := fun n => AV.int .i64 n) (R := fun n => (1 ≤ n ∧ n ≤ v.bk)) h rfl ?_
  rw [V.av_eq]
  repeat' (first | refine zA ?_ | refine zB ?_ | (refine zC ?_ ?_ <;> intro hc; all_goals first | (cases hc; done) | ((try simp only [hc]); (try simp only [bm] at hc))) | refine zE ?_ | refine zNV ?_ | fail)
  refine W.listP v.items (fun i n s => (s.put 5 (.av (.int .i64 n))).put 6 (.av (.int .i64 (i : Int)))) (fun i n => 1 ≤ n ∧ n ≤ (1 + V.bks (v.items.take i) : Nat)) (1 : Int) (by simp [V.bks]) rfl ?_ ?_
  · intro i x n hx hi hp
    have e3 := V.bks_take_succ hx
    have e4 := V.bks_take_le v.items (i + 1)
    have hm : x ∈ v.items := List.mem_of_getElem? hx
    by_cases hle : n ≤ most
    · obtain ⟨r,hr,hret⟩ := ih x hm (by omega) (most - n) (by omega) (by omega)
      rw [V.av_eq] at hret
      repeat' (first | refine zA ?_ | refine WQ.cl h.modes ?_ | refine W1.cl h.modes (hret) ?_ | refine zB ?_ | (refine zC ?_ ?_ <;> intro hc; all_goals first | (cases hc; done) | ((try simp only [hc]); (try simp only [bm] at hc))) | refine zE ?_ | refine zNV ?_ | fail)
      exact ⟨_,by omega,rfl⟩
    · skip
      repeat' (first | refine zA ?_ | refine zB ?_ | (refine zC ?_ ?_ <;> intro hc; all_goals first | (cases hc; done) | ((try simp only [hc]); (try simp only [bm] at hc))) | refine zE ?_ | refine zNV ?_ | fail)
      exact ⟨_,⟨by omega,by omega⟩,Qend.num rfl rfl rfl⟩
  · intro n hp
    have e4 := V.bks_take_le v.items v.items.length
    repeat' (first | refine zA ?_ | refine zB ?_ | (refine zC ?_ ?_ <;> intro hc; all_goals first | (cases hc; done) | ((try simp only [hc]); (try simp only [bm] at hc))) | refine zE ?_ | refine zNV ?_ | fail)
    exact ⟨_,⟨by omega,by omega⟩,Qend.num rfl rfl rfl⟩
end
end Hm
