/-
  MemberAgrees: whatever value and type are given (together of bulk at most 1048576), the law answers true and its arguments read as before; its row lists five tables and the handle of the type error, tied to the text. Conditions: none but the statement's own.
-/
import Derived.Test.YtaemcgnkpfbenaaGreatDoorCards
import Derived.Test.YtaemcgnkpfbenaaGreatDoorTie
import Derived.Test.YtaemcgnkpfbenaaGreatDoorHD
import Derived.Test.YtaemcgnkpfbenaaGreatDoorGAgr
import Derived.WalkKit
import Derived.Shelf.Strconv.Itoa3
import Derived.ProofKit
import Derived.OpenShut
import Derived.JoinedCond
import Derived.Deep.DeepHandedRow
import Derived.Lib.LaidTab
import Derived.LaidHandle
import Derived.LaidEql
import Derived.Stop.Asserts
import Derived.RowKitTokens
import Derived.Stop.Joined
namespace Go.Proofs.YtaemcgnkpfbenaaGreatDoor.hAgr
open Go.ChangeShapes Go.WideShapes Go.ChangeAt Go.RowKit Hm
set_option linter.unusedVariables false
set_option linter.unnecessarySimpa false
set_option linter.unusedSimpArgs false

def fl : List (Nat × Nat) := [(F.h03_Formed,7),(F.h03_Number,19),(F.h03_UTF,20),(F.h03_Rise,21),(F.h03_All,14),(F.value_Twin,89),(F.h03_width,33),(F.tens_Cmp,64),(F.h03_trail,52),(F.tens_Formed,55),(F.tens_split,80),(F.tens_size,81),(F.cmp_isNaN_string,98),(F.value_Formed,38),(F.value_Get,83),(F.value_empty,54),(F.utf_Valid,56),(F.value_allFormed,57),(F.value_rise,58),(F.slices_Index_Ls,65),(F.slices_BinarySearch_Ls,84),(F.h03_Numbers,35),(F.h03_Texts,53),(F.unicode_utf8_ValidString,73),(F.slices_ContainsFunc_LV,74),(F.value_allFormed_S1,75),(F.cmp_Less_string,90),(F.slices_isNaN_string,91),(F.slices_IndexFunc_LV,87),(F.unicode_utf8_word_string,86),(F.h09_Formed,8),(F.h09_Bare,22),(F.h09_Spans,23),(F.h09_arrays,24),(F.h09_objects,25),(F.hk_SameStrings,72),(F.h09_bound,34),(F.h09_Never,36),(F.h09_object,37),(F.shape_worth,77),(F.shape_Kinds,40),(F.shape_Formed,39),(F.hk_Fit,9),(F.shape_piece_every,59),(F.shape_piece_nums,60),(F.shape_piece_texts,61),(F.shape_piece_arrays,62),(F.shape_piece_objects,63),(F.hk_PartsOf,26),(F.h09_Has,13),(F.shape_piece_bare,76),(F.shape_rise,78),(F.shape_never,79),(F.hk_SameValue,51),(F.hk_SameValues,32),(F.slices_Contains_Ls,42),(F.l10_MemberKnown,6),(F.l10_whole,15),(F.member_In,10),(F.l10_why,16),(F.l10_word,17),(F.l10_fields,18),(F.member_Why,11),(F.member_formed,27),(F.member_look,28),(F.member_inSpan,41),(F.member_lookArray,43),(F.member_lookObject,44),(F.tens_Of,66),(F.member_lookFields,67),(F.l10_MemberAgrees,3),(F.h08_Step,12),(F.h08_Fits,30),(F.h08_Find,31),(F.h08_IsKey,49),(F.h08_Place,50),(F.h08_Right,71),(F.h05_Right,85),(F.h05_isDigit,92),(F.h05_numeral,93),(F.h02_Valid,94),(F.h05_isLetter,99),(F.h02_Pieces,100),(F.h02_at,105),(F.h02_spelled,111),(F.h02_Encoding,113),(F.h02_same,112),(F.h02_IsRune,116),(F.h02_Size,117),(F.slices_Clone_Ls,96),(F.slices_Clone_LV,97),(F.strconv_Itoa,82),(F.errors_As,29)]
def tl : List (Nat × Nat) := [(1,62),(0,64)]
def gA : Nat := 2
def gF : Nat := 1
def gE : Nat := 0
def gP : Nat := 3
theorem gpN : Tryz.prog.globalNamed "internal/strconv.uint64pow10" = some gP := by kernel_rfl
def nm : Nm := ⟨fun f => (Hm.look fl f).getD 0,fun t => (Hm.look tl t).getD 0,[(.vptr (zavs accZ),.pointer (some ⟨gA,0,none⟩)),(.vptr (zavs firZ),.pointer (some ⟨gF,0,none⟩)),(.tab 1,.pointer (some ⟨gE,0,none⟩)),(.tab 0,.pointer (some ⟨gP,0,none⟩))],fun _ => .nilFunc,
  fun n => match n with | 0 => (Lib.pow10Tab.map fun z => Value.int .u64 z).toArray | 1 => #[.iface 104 (.agg #[.pointer (some ⟨6,60,none⟩)])] | _ => #[]⟩
def sf : List (Nat × AFun) := [(F.h03_Formed,h03_Formed.fn),(F.h03_Number,h03_Number.fn),(F.h03_UTF,h03_UTF.fn),(F.h03_Rise,h03_Rise.fn),(F.h03_All,h03_All.fn),(F.value_Twin,value_Twin.fn),(F.h03_width,h03_width.fn),(F.tens_Cmp,tens_Cmp.fn),(F.h03_trail,h03_trail.fn),(F.tens_Formed,tens_Formed.fn),(F.tens_split,tens_split.fn),(F.tens_size,tens_size.fn),(F.cmp_isNaN_string,cmp_isNaN_string.fn),(F.value_Formed,value_Formed.fn),(F.value_Get,value_Get.fn),(F.value_empty,value_empty.fn),(F.utf_Valid,utf_Valid.fn),(F.value_allFormed,value_allFormed.fn),(F.value_rise,value_rise.fn),(F.slices_Index_Ls,slices_Index_Ls.fn),(F.slices_BinarySearch_Ls,slices_BinarySearch_Ls.fn),(F.h03_Numbers,h03_Numbers.fn),(F.h03_Texts,h03_Texts.fn),(F.unicode_utf8_ValidString,unicode_utf8_ValidString.fn),(F.slices_ContainsFunc_LV,slices_ContainsFunc_LV.fn),(F.value_allFormed_S1,value_allFormed_S1.fn),(F.cmp_Less_string,cmp_Less_string.fn),(F.slices_isNaN_string,slices_isNaN_string.fn),(F.slices_IndexFunc_LV,slices_IndexFunc_LV.fn),(F.unicode_utf8_word_string,unicode_utf8_word_string.fn),(F.h09_Formed,h09_Formed.fn),(F.h09_Bare,h09_Bare.fn),(F.h09_Spans,h09_Spans.fn),(F.h09_arrays,h09_arrays.fn),(F.h09_objects,h09_objects.fn),(F.hk_SameStrings,hk_SameStrings.fn),(F.h09_bound,h09_bound.fn),(F.h09_Never,h09_Never.fn),(F.h09_object,h09_object.fn),(F.shape_worth,shape_worth.fn),(F.shape_Kinds,shape_Kinds.fn),(F.shape_Formed,shape_Formed.fn),(F.hk_Fit,hk_Fit.fn),(F.shape_piece_every,shape_piece_every.fn),(F.shape_piece_nums,shape_piece_nums.fn),(F.shape_piece_texts,shape_piece_texts.fn),(F.shape_piece_arrays,shape_piece_arrays.fn),(F.shape_piece_objects,shape_piece_objects.fn),(F.hk_PartsOf,hk_PartsOf.fn),(F.h09_Has,h09_Has.fn),(F.shape_piece_bare,shape_piece_bare.fn),(F.shape_rise,shape_rise.fn),(F.shape_never,shape_never.fn),(F.hk_SameValue,hk_SameValue.fn),(F.hk_SameValues,hk_SameValues.fn),(F.slices_Contains_Ls,slices_Contains_Ls.fn),(F.l10_MemberKnown,l10_MemberKnown.fn),(F.l10_whole,l10_whole.fn),(F.member_In,member_In.fn),(F.l10_why,l10_why.fn),(F.l10_word,l10_word.fn),(F.l10_fields,l10_fields.fn),(F.member_Why,member_Why.fn),(F.member_formed,member_formed.fn),(F.member_look,member_look.fn),(F.member_inSpan,member_inSpan.fn),(F.member_lookArray,member_lookArray.fn),(F.member_lookObject,member_lookObject.fn),(F.tens_Of,tens_Of.fn),(F.member_lookFields,member_lookFields.fn),(F.l10_MemberAgrees,l10_MemberAgrees.fn),(F.h08_Step,h08_Step.fn),(F.h08_Fits,h08_Fits.fn),(F.h08_Find,h08_Find.fn),(F.h08_IsKey,h08_IsKey.fn),(F.h08_Place,h08_Place.fn),(F.h08_Right,h08_Right.fn),(F.h05_Right,h05_Right.fn),(F.h05_isDigit,h05_isDigit.fn),(F.h05_numeral,h05_numeral.fn),(F.h02_Valid,h02_Valid.fn),(F.h05_isLetter,h05_isLetter.fn),(F.h02_Pieces,h02_Pieces.fn),(F.h02_at,h02_at.fn),(F.h02_spelled,h02_spelled.fn),(F.h02_Encoding,h02_Encoding.fn),(F.h02_same,h02_same.fn),(F.h02_IsRune,h02_IsRune.fn),(F.h02_Size,h02_Size.fn)]
def tds : List (TD × Nat) := [(.struct [1,2,2,3,4],5),(.int .i64,1),(.str,1),(.slice 0,1),(.slice 2,1),(.struct [6,6,6,6,7,6,4,9,11],9),(.bool,1),(.slice 8,1),(.struct [2,2],2),(.slice 10,1),(.struct [5,1,1],11),(.slice 12,1),(.struct [4,13,14,5],12),(.slice 5,1),(.slice 6,1)]
def taus : List Nat := [25,3,9,22,23,30,4,26,49,27,45,28,73,70,71]
theorem okF : okFns Tryz.prog nm sf = true := by kernel_rfl
theorem okT : ((List.range tds.length).all fun i => okTy Tryz.prog (tauOf taus) (tsOf tds) i) = true := by kernel_rfl
theorem okR : (tds.all fun x => refsOk tds.length x.1) = true := by kernel_rfl
theorem mixed : Tryz.prog.follows .mixedOrders = true := by kernel_rfl
theorem okC_slices_Clone_Ls : okFns Tryz.prog nm [(F.slices_Clone_Ls,slices_Clone_Ls.fn)] = true := by kernel_rfl
theorem mc_slices_Clone_Ls : ∀ ys cr,pClone 1 ys = some cr → Meets Tryz.prog nm F.slices_Clone_Ls ys cr :=
  meets_clone (Hm.linked mixed okC_slices_Clone_Ls (by simp)) (fun rows hne hl => slices_Clone_Ls_ret ⟨rfl,rfl,rfl⟩ rows hne hl) (fun nn => slices_Clone_Ls_emp ⟨rfl,rfl,rfl⟩ nn)
theorem okC_slices_Clone_LV : okFns Tryz.prog nm [(F.slices_Clone_LV,slices_Clone_LV.fn)] = true := by kernel_rfl
theorem mc_slices_Clone_LV : ∀ ys cr,pClone 5 ys = some cr → Meets Tryz.prog nm F.slices_Clone_LV ys cr :=
  meets_clone (Hm.linked mixed okC_slices_Clone_LV (by simp)) (fun rows hne hl => slices_Clone_LV_ret ⟨rfl,rfl,rfl⟩ rows hne hl) (fun nn => slices_Clone_LV_emp ⟨rfl,rfl,rfl⟩ nn)
def laysItoa_ren : Go.Shelf.Ren := ⟨fun | 171 => 82 | 243 => 88 | 246 => 95 | 283 => 101 | 284 => 102 | 285 => 103 | 286 => 104 | 129 => 107 | 317 => 106 | 318 => 108 | 319 => 109 | 320 => 110 | 337 => 114 | 338 => 115 | n => n,fun | 3 => 3 | 9 => 9 | 2 => 2 | 4 => 4 | 171 => 146 | 0 => 0 | 53 => 138 | 37 => 149 | 5 => 5 | 173 => 150 | 212 => 155 | 51 => 156 | 20 => 20 | 213 => 157 | 46 => 130 | 232 => 164 | 233 => 165 | n => n,fun | 17 => 3 | 18 => 4 | 19 => 5 | n => n⟩
theorem laysItoa : Go.Proofs.LaysM.n171 Tryz.prog laysItoa_ren := {
  mixed := by kernel_rfl
  f129 := Tryz.func107.trans (congrArg some (by kernel_rfl))
  f171 := Tryz.func82.trans (congrArg some (by kernel_rfl))
  f243 := Tryz.func88.trans (congrArg some (by kernel_rfl))
  f246 := Tryz.func95.trans (congrArg some (by kernel_rfl))
  f283 := Tryz.func101.trans (congrArg some (by kernel_rfl))
  f284 := Tryz.func102.trans (congrArg some (by kernel_rfl))
  f285 := Tryz.func103.trans (congrArg some (by kernel_rfl))
  f286 := Tryz.func104.trans (congrArg some (by kernel_rfl))
  f317 := Tryz.func106.trans (congrArg some (by kernel_rfl))
  f318 := Tryz.func108.trans (congrArg some (by kernel_rfl))
  f319 := Tryz.func109.trans (congrArg some (by kernel_rfl))
  f320 := Tryz.func110.trans (congrArg some (by kernel_rfl))
  f337 := Tryz.func114.trans (congrArg some (by kernel_rfl))
  f338 := Tryz.func115.trans (congrArg some (by kernel_rfl))
  t0 := Tryz.underlying0
  a0 := Tryz.isAgg0
  z0 := Tryz.sizeOf0
  v0 := Tryz.zeroValue0
  t2 := Tryz.underlying2
  a2 := Tryz.isAgg2
  z2 := Tryz.sizeOf2
  v2 := Tryz.zeroValue2
  t3 := Tryz.underlying3
  a3 := Tryz.isAgg3
  z3 := Tryz.sizeOf3
  v3 := Tryz.zeroValue3
  t4 := Tryz.underlying4
  a4 := Tryz.isAgg4
  z4 := Tryz.sizeOf4
  v4 := Tryz.zeroValue4
  t5 := Tryz.underlying5
  a5 := Tryz.isAgg5
  z5 := Tryz.sizeOf5
  v5 := Tryz.zeroValue5
  t9 := Tryz.underlying9
  a9 := Tryz.isAgg9
  z9 := Tryz.sizeOf9
  v9 := Tryz.zeroValue9
  t20 := Tryz.underlying20
  a20 := Tryz.isAgg20
  z20 := Tryz.sizeOf20
  v20 := Tryz.zeroValue20
  t37 := Tryz.underlying149
  a37 := Tryz.isAgg149
  z37 := Tryz.sizeOf149
  v37 := Tryz.zeroValue149
  t46 := Tryz.underlying130
  a46 := Tryz.isAgg130
  z46 := Tryz.sizeOf130
  v46 := Tryz.zeroValue130
  t51 := Tryz.underlying156
  a51 := Tryz.isAgg156
  z51 := Tryz.sizeOf156
  v51 := Tryz.zeroValue156
  t53 := Tryz.underlying138
  a53 := Tryz.isAgg138
  z53 := Tryz.sizeOf138
  v53 := Tryz.zeroValue138
  t171 := Tryz.underlying146
  a171 := Tryz.isAgg146
  z171 := Tryz.sizeOf146
  v171 := Tryz.zeroValue146
  t173 := Tryz.underlying150
  a173 := Tryz.isAgg150
  z173 := Tryz.sizeOf150
  v173 := Tryz.zeroValue150
  t212 := Tryz.underlying155
  a212 := Tryz.isAgg155
  z212 := Tryz.sizeOf155
  v212 := Tryz.zeroValue155
  t213 := Tryz.underlying157
  a213 := Tryz.isAgg157
  z213 := Tryz.sizeOf157
  t232 := Tryz.underlying164
  a232 := Tryz.isAgg164
  z232 := Tryz.sizeOf164
  v232 := Tryz.zeroValue164
  t233 := Tryz.underlying165
  a233 := Tryz.isAgg165
  z233 := Tryz.sizeOf165
  v233 := Tryz.zeroValue165
  g17 := by kernel_rfl
  g18 := by kernel_rfl
  g19 := by kernel_rfl
  i0 := by kernel_rfl
  i2 := by kernel_rfl
  i3 := by kernel_rfl
  i4 := by kernel_rfl
  i5 := by kernel_rfl
  i9 := by kernel_rfl
  i20 := by kernel_rfl
  i37 := by kernel_rfl
  i46 := by kernel_rfl
  i51 := by kernel_rfl
  i53 := by kernel_rfl
  i171 := by kernel_rfl
  i173 := by kernel_rfl
  i212 := by kernel_rfl
  i232 := by kernel_rfl
  i233 := by kernel_rfl
  m17 := by kernel_rfl
  m18 := by kernel_rfl
  m19 := by kernel_rfl }
theorem m_itoa : ∀ ys cr,pItoa ys = some cr → Meets Tryz.prog nm F.strconv_Itoa ys cr :=
  meets_itoa gpN (by simp [nm]) rfl (fun n h0 h1 w ht => Any.strconv_Itoa laysItoa n h0 h1 w ht)
/-! ### errors.As at this variable: the library's own text, walked (after the kit's worked toy) -/
open Go.RowKit Go.Extern.Stop Go.Stop Go.Extern in
theorem as_nil (t : Value) (w : World) :
    Calls Tryz.prog 29 #[.nilIface,t] w fun e w' => e = .returned (.bool false) ∧ w' = w := by
  go_enter Tryz.func29,Tryz.ntmps29
  go_wp2
  go_ret
  exact ⟨rfl,rfl⟩
section
open Go.RowKit Go.Extern.Stop Go.Stop Go.Extern
theorem ax.valueOfP (t : Addr) (w : World) : (ReflectliteValue.unpack (.iface 64 (.pointer (some t)))).run Tryz.prog w
    = .ok (.agg #[.pointer (some ⟨6,64,none⟩),.pointer (some ⟨w.heap.size,0,none⟩),.int .u64 150]) (w.alloc (.cells #[.pointer (some t)] 64)) := by kernel_rfl
theorem ax.typeP (a : Addr) (w : World) : (ReflectliteValue.methodAny (ReflectliteValue.valueError "reflectlite.Value.Type" 0) (fun t _ _ _ => ReflectliteType.toType t) #[.agg #[.pointer (some ⟨6, 64, none⟩), .pointer (some a), .int .u64 150]]).run Tryz.prog w
    = .ok (.iface 104 (.agg #[.pointer (some ⟨6,64,none⟩)])) w := by kernel_rfl
theorem ax.methodKind (h : Value) (w : World) : (Go.method 295 104 (.agg #[h]) "Kind").run Tryz.prog w = .ok (132, h) w := by kernel_rfl
theorem ax.kindP (w : World) : ((ReflectliteType.abiMethod fun t => (fun a : Nat => Value.int IntKind.u8 (a : Int)) <$> Rtype.kind t) #[.pointer (some ⟨6,64,none⟩)]).run Tryz.prog w = .ok (.int .u8 22) w := by kernel_rfl
theorem ax.kindE (w : World) : ((ReflectliteType.abiMethod fun t => (fun a : Nat => Value.int IntKind.u8 (a : Int)) <$> Rtype.kind t) #[.pointer (some ⟨6,62,none⟩)]).run Tryz.prog w = .ok (.int .u8 22) w := by kernel_rfl
theorem ax.rlm (z : Sem Value) (f : TypeId → Addr → Nat → Nat → Sem Value) (v : Value) :
    ReflectliteValue.method z f #[v] = (do match ← ReflectliteValue.parts v with | none => z | some (t,a,fl) => f t a fl (fl % 32)) := rfl
theorem ax.partsP (a : Addr) (w : World) : (ReflectliteValue.parts (.agg #[.pointer (some ⟨6,64,none⟩),.pointer (some a),.int .u64 150])).run Tryz.prog w = .ok (some (64,a,150)) w := by kernel_rfl
theorem ax.isNilP (a p : Addr) (W : World) (ha : W.cell? a = some (.pointer (some p))) :
    (ReflectliteValue.method (ReflectliteValue.valueError "reflectlite.Value.IsNil" 0) ReflectliteValue.isNil #[.agg #[.pointer (some ⟨6, 64, none⟩), .pointer (some a), .int .u64 150]]).run Tryz.prog W = .ok (.bool false) W := by
  rw [ax.rlm]
  simp only [Sem.run_bind,ax.partsP,Result.andThen]
  simp [ReflectliteValue.isNil,loadVar,isAgg,underlying,Tryz.underlying64,ha,Result.andThen]
theorem ax.methodElem (h : Value) (w : World) : (Go.method 295 104 (.agg #[h]) "Elem").run Tryz.prog w = .ok (143, .agg #[h]) w := by kernel_rfl
theorem ax.methodImplements (h : Value) (w : World) : (Go.method 295 104 (.agg #[h]) "Implements").run Tryz.prog w = .ok (144, .agg #[h]) w := by kernel_rfl
theorem ax.methodAssignableTo (h : Value) (w : World) : (Go.method 295 104 (.agg #[h]) "AssignableTo").run Tryz.prog w = .ok (141, .agg #[h]) w := by kernel_rfl
theorem ax.elemP (w : World) : (ReflectliteType.method ReflectliteType.elem #[.agg #[.pointer (some ⟨6,64,none⟩)]]).run Tryz.prog w = .ok (.iface 104 (.agg #[.pointer (some ⟨6,62,none⟩)])) w := by kernel_rfl
theorem ax.implementsE (w : World) : (ReflectliteType.relation "Implements" ReflectliteType.implements_ #[.agg #[.pointer (some ⟨6, 62, none⟩)], .iface 104 (.agg #[.pointer (some ⟨6, 60, none⟩)])]).run Tryz.prog w = .ok (.bool true) w := by kernel_rfl
theorem ax.typeOfE (v : Value) (w : World) : (ReflectliteType.typeOf #[.iface 62 v]).run Tryz.prog w = .ok (.iface 104 (.agg #[.pointer (some ⟨6,62,none⟩)])) w := by kernel_rfl
theorem ax.assignableE (w : World) : (ReflectliteType.relation "AssignableTo" ReflectliteType.assignableTo #[.agg #[.pointer (some ⟨6, 62, none⟩)], .iface 104 (.agg #[.pointer (some ⟨6, 62, none⟩)])]).run Tryz.prog w = .ok (.bool true) w := by kernel_rfl
theorem ax.valueOfE (e : Addr) (w : World) : (ReflectliteValue.unpack (.iface 62 (.pointer (some e)))).run Tryz.prog w
    = .ok (.agg #[.pointer (some ⟨6,62,none⟩),.pointer (some ⟨w.heap.size,0,none⟩),.int .u64 150]) (w.alloc (.cells #[.pointer (some e)] 62)) := by kernel_rfl
theorem ax.elemOfP (w : World) : (Rtype.elem? 64).run Tryz.prog w = .ok (some 62) w := by kernel_rfl
theorem ax.mkE (p : Addr) (w : World) : (ReflectliteValue.mk 62 p ReflectliteValue.flagAddr).run Tryz.prog w = .ok (.agg #[.pointer (some ⟨6,62,none⟩),.pointer (some p),.int .u64 406]) w := by kernel_rfl
theorem ax.elemVP (a p : Addr) (W : World) (ha : W.cell? a = some (.pointer (some p))) :
    (ReflectliteValue.method (ReflectliteValue.valueError "reflectlite.Value.Elem" 0) ReflectliteValue.elem #[.agg #[.pointer (some ⟨6, 64, none⟩), .pointer (some a), .int .u64 150]]).run Tryz.prog W
      = .ok (.agg #[.pointer (some ⟨6,62,none⟩),.pointer (some p),.int .u64 406]) W := by
  rw [ax.rlm]
  simp only [Sem.run_bind,ax.partsP,Result.andThen]
  simp [ReflectliteValue.elem,loadVar,isAgg,underlying,Tryz.underlying64,ha,Result.andThen,ax.elemOfP,ax.mkE]
theorem ax.rls (v x : Value) : ReflectliteValue.set #[v,x] = (do
    let (some (dst,a,fl),some (src,b,_)) := (← ReflectliteValue.parts v,← ReflectliteValue.parts x)
      | unsupported (.noEntry "extern/(internal/reflectlite.Value).Set.zeroValue")
    if fl / ReflectliteValue.flagAddr % 2 == 0 then unsupported (.noEntry "extern/(internal/reflectlite.Value).Set.unaddressable")
    let val ← loadVar src b
    if ← Rtype.directlyAssignable dst src then storeVar dst a val
    else if ← Rtype.implements dst src then
      if (← Rtype.kind src) == 20 then
        match val with
        | .nilIface => unsupported (.noEntry "extern/reflectlite: a nil value of one interface type handed on as a value of another")
        | _ => storeVar dst a val
      else storeVar dst a (.iface src val)
    else panicString ("reflectlite.Set: value of type " ++ (← Rtype.spelt src) ++ " is not assignable to type " ++ (← Rtype.spelt dst))
    pure (.tuple #[])) := rfl
theorem ax.partsEa (a : Addr) (w : World) : (ReflectliteValue.parts (.agg #[.pointer (some ⟨6,62,none⟩),.pointer (some a),.int .u64 406])).run Tryz.prog w = .ok (some (62,a,406)) w := by kernel_rfl
theorem ax.partsE (a : Addr) (w : World) : (ReflectliteValue.parts (.agg #[.pointer (some ⟨6,62,none⟩),.pointer (some a),.int .u64 150])).run Tryz.prog w = .ok (some (62,a,150)) w := by kernel_rfl
theorem ax.directE (w : World) : (Rtype.directlyAssignable 62 62).run Tryz.prog w = .ok true w := by kernel_rfl
theorem ax.setE (ta b e : Addr) (old : Value) (W : World) (hb : W.cell? b = some (.pointer (some e))) (ht : W.cell? ta = some old) (hf : W.frozen? ta = false) :
    (ReflectliteValue.set #[.agg #[.pointer (some ⟨6,62,none⟩),.pointer (some ta),.int .u64 406],.agg #[.pointer (some ⟨6,62,none⟩),.pointer (some b),.int .u64 150]]).run Tryz.prog W
      = .ok (.tuple #[]) (W.setCell ta (.pointer (some e))) := by
  rw [ax.rls]
  simp only [Sem.run_bind,ax.partsEa,ax.partsE,Result.andThen]
  simp [ReflectliteValue.flagAddr,loadVar,isAgg,underlying,Tryz.underlying62,hb,Result.andThen,ax.directE,storeVar,Value.cells,storeCells,Addr.add]
  rw [run_store Tryz.prog W ta _ _ (by rfl)]
  simp [ht,hf]
set_option maxHeartbeats 4000000 in
set_option maxRecDepth 100000 in
theorem as_hit (e t : Addr) (old : Value) (w : World) (hg : w.cell? ⟨0,0,none⟩ = some (.iface 104 (.agg #[.pointer (some ⟨6,60,none⟩)]))) (ht0 : w.cell? t = some old) (hf0 : w.frozen? t = false) :
    Calls Tryz.prog 29 #[.iface 62 (.pointer (some e)),.iface 64 (.pointer (some t))] w fun ev w' => ev = .returned (.bool true) ∧ w' = ((((w.alloc (.cells #[.pointer (some t)] 64)).alloc (.cells #[.pointer (some ⟨6,64,none⟩),.pointer (some ⟨w.heap.size,0,none⟩),.int .u64 150] 84)).alloc (.cells #[.pointer (some ⟨6,64,none⟩),.pointer (some ⟨w.heap.size,0,none⟩),.int .u64 150] 84)).alloc (.cells #[.pointer (some e)] 62)).setCell t (.pointer (some e)) := by
  have h6 := @run_callFunc_extern Tryz.prog 45 _ (fun args => ReflectliteValue.unpack (args.getD 0 (.tuple #[]))) Tryz.func45 (by kernel_rfl) (by kernel_rfl) (by kernel_rfl) (by kernel_rfl)
  have h7 := @run_callFunc_extern Tryz.prog 46 _ (ReflectliteValue.methodAny (ReflectliteValue.valueError "reflectlite.Value.Type" 0) (fun t _ _ _ => ReflectliteType.toType t)) Tryz.func46 (by kernel_rfl) (by kernel_rfl) (by kernel_rfl) (by kernel_rfl)
  have h8 := @run_callFunc_extern Tryz.prog 47 _ (ReflectliteValue.method (ReflectliteValue.valueError "reflectlite.Value.IsNil" 0) ReflectliteValue.isNil) Tryz.func47 (by kernel_rfl) (by kernel_rfl) (by kernel_rfl) (by kernel_rfl)
  have h27 := @run_callFunc_extern Tryz.prog 132 _ (ReflectliteType.abiMethod fun t => do pure (.int .u8 (← Rtype.kind t))) Tryz.func132 (by kernel_rfl) (by kernel_rfl) (by kernel_rfl) (by kernel_rfl)
  have h37 := @run_callFunc_extern Tryz.prog 143 _ (ReflectliteType.method ReflectliteType.elem) Tryz.func143 (by kernel_rfl) (by kernel_rfl) (by kernel_rfl) (by kernel_rfl)
  have h38 := @run_callFunc_extern Tryz.prog 144 _ (ReflectliteType.relation "Implements" ReflectliteType.implements_) Tryz.func144 (by kernel_rfl) (by kernel_rfl) (by kernel_rfl) (by kernel_rfl)
  have h10 := @run_callFunc_extern Tryz.prog 68 _ ReflectliteType.typeOf Tryz.func68 (by kernel_rfl) (by kernel_rfl) (by kernel_rfl) (by kernel_rfl)
  have h35 := @run_callFunc_extern Tryz.prog 141 _ (ReflectliteType.relation "AssignableTo" ReflectliteType.assignableTo) Tryz.func141 (by kernel_rfl) (by kernel_rfl) (by kernel_rfl) (by kernel_rfl)
  have h11 := @run_callFunc_extern Tryz.prog 69 _ (ReflectliteValue.method (ReflectliteValue.valueError "reflectlite.Value.Elem" 0) ReflectliteValue.elem) Tryz.func69 (by kernel_rfl) (by kernel_rfl) (by kernel_rfl) (by kernel_rfl)
  have h12 := @run_callFunc_extern Tryz.prog 70 _ ReflectliteValue.set Tryz.func70 (by kernel_rfl) (by kernel_rfl) (by kernel_rfl) (by kernel_rfl)
  have tO := ax.typeOfE
  have mA := ax.methodAssignableTo
  have aE := ax.assignableE
  have vE := ax.valueOfE
  have f6 := ax.valueOfP
  have f7 := ax.typeP
  have mK := ax.methodKind
  have mE := ax.methodElem
  have mI := ax.methodImplements
  have kP := ax.kindP
  have kE := ax.kindE
  have eP := ax.elemP
  have iE := ax.implementsE
  have n8 := ax.isNilP ⟨w.heap.size,0,none⟩ t ((w.alloc (.cells #[.pointer (some t)] 64)).alloc (.cells #[.pointer (some ⟨6,64,none⟩),.pointer (some ⟨w.heap.size,0,none⟩),.int .u64 150] 84)) (by simp)
  have hlt : 0 < w.heap.size := by
    rcases Nat.lt_or_ge 0 w.heap.size with h | h
    · exact h
    · simp [World.cell?,Array.getElem?_eq_none h] at hg
  have hg2 : ((w.alloc (.cells #[.pointer (some t)] 64)).alloc (.cells #[.pointer (some ⟨6,64,none⟩),.pointer (some ⟨w.heap.size,0,none⟩),.int .u64 150] 84)).cell? ⟨0,0,none⟩ = some (.iface 104 (.agg #[.pointer (some ⟨6,60,none⟩)])) := by
    rw [World.cell?_alloc_lt _ _ ⟨0,0,none⟩ (by simp <;> omega),World.cell?_alloc_lt _ _ ⟨0,0,none⟩ hlt]; exact hg
  have htl : t.block < w.heap.size := by
    rcases Nat.lt_or_ge t.block w.heap.size with h | h
    · exact h
    · simp [World.cell?,Array.getElem?_eq_none h] at ht0
  have el := ax.elemVP ⟨w.heap.size,0,none⟩ t (((w.alloc (.cells #[.pointer (some t)] 64)).alloc (.cells #[.pointer (some ⟨6,64,none⟩),.pointer (some ⟨w.heap.size,0,none⟩),.int .u64 150] 84)).alloc (.cells #[.pointer (some ⟨6,64,none⟩),.pointer (some ⟨w.heap.size,0,none⟩),.int .u64 150] 84)) (by rw [World.cell?_alloc_lt _ _ ⟨w.heap.size,0,none⟩ (by simp; omega)]; simp)
  have st := ax.setE t ⟨w.heap.size + 1 + 1 + 1,0,none⟩ e old ((((w.alloc (.cells #[.pointer (some t)] 64)).alloc (.cells #[.pointer (some ⟨6,64,none⟩),.pointer (some ⟨w.heap.size,0,none⟩),.int .u64 150] 84)).alloc (.cells #[.pointer (some ⟨6,64,none⟩),.pointer (some ⟨w.heap.size,0,none⟩),.int .u64 150] 84)).alloc (.cells #[.pointer (some e)] 62))
    (by rw [World.cell?_alloc_at _ _ _ _ (by simp)]; rfl)
    (by rw [World.cell?_alloc_lt _ _ t (by simp; omega),World.cell?_alloc_lt _ _ t (by simp; omega),World.cell?_alloc_lt _ _ t (by simp; omega),World.cell?_alloc_lt _ _ t htl]; exact ht0)
    (by rw [World.frozen?_alloc_old _ _ t (by simp; omega),World.frozen?_alloc_old _ _ t (by simp; omega),World.frozen?_alloc_old _ _ t (by simp; omega),World.frozen?_alloc_old _ _ t (Nat.ne_of_lt htl)]; exact hf0)
  go_enter Tryz.func29,Tryz.ntmps29
  go_wp2
  refine wp_loop_rounds 1 ?_
  rw [rounds_succ]
  go_wp2
  go_ret
  exact ⟨rfl,rfl⟩
end
theorem askOk : AskOk Tryz.prog nm F.errors_As 1 0 := by
  refine ⟨fun vs w => run_callFunc (func := Tryz.f29) Tryz.func29 (by kernel_rfl) (by kernel_rfl) vs w,fun t w => as_nil t w,fun S w xa b old e hg hsp hb => ?_⟩
  have h := hg (.tab 1,.pointer (some ⟨0,0,none⟩)) (by simp [nm,gE])
  have hc : w.cell? ⟨0,0,none⟩ = some (.iface 104 (.agg #[.pointer (some ⟨6,60,none⟩)])) := by
    cases h with
    | tab n b ty fr hS hc => simp [World.cell?,hc]; rfl
  have hbl : b < w.heap.size := (Array.getElem?_eq_some_iff.1 hb).1
  refine (as_hit xa ⟨b,0,none⟩ old w hc (by simp [World.cell?,hb]) (by simp [World.frozen?,hb])).mono fun ev w' ⟨he,hw⟩ => ?_
  subst hw
  exact ⟨he,frm_ask w _ _ _ _ b old _ e hb⟩
def pr : List (Nat × (List PMode × (List Arg → Option CR))) := [(F.slices_Clone_Ls,([.val],pClone 1)),(F.slices_Clone_LV,([.val],pClone 5)),(F.strconv_Itoa,([.val],pItoa))]
theorem lk : Linked Tryz.prog nm (tabA sf pr F.errors_As 1 0) := Hm.linkedA mixed okF askOk (by
  intro x hx
  simp only [pr,List.mem_cons,List.not_mem_nil,or_false] at hx
  rcases hx with rfl | rfl | rfl
  · exact ⟨⟨Tryz.f96,Tryz.func96,by kernel_rfl,by kernel_rfl⟩,mc_slices_Clone_Ls⟩
  · exact ⟨⟨Tryz.f97,Tryz.func97,by kernel_rfl,by kernel_rfl⟩,mc_slices_Clone_LV⟩
  · exact ⟨⟨Tryz.f82,Tryz.func82,by kernel_rfl,by kernel_rfl⟩,m_itoa⟩)
theorem fn0 (n : Nat) (c : AFun) (h : Hm.look sf n = some c := by rfl) (h0 : Hm.look pr n = none := by rfl) : Hm.Fn (tabA sf pr F.errors_As 1 0) n c := ⟨by simp only [tabA,tabOf,h0]; rfl,h,by simp only [tabA,tabOf,h]⟩
theorem own : ownKnob Tryz.prog.godebug = none := by kernel_rfl
theorem laid : laidOutB Tryz.prog = true := by kernel_rfl
theorem readable : ∀ t ∈ Tryz.f3.params.toList,Tryz.prog.readableRec t = true ∧ t < Tryz.prog.types.size := by
  have h : (Tryz.f3.params.toList.all fun t => Tryz.prog.readableRec t && decide (t < Tryz.prog.types.size)) = true := by kernel_rfl
  intro t ht
  have := List.all_eq_true.1 h t ht
  simpa using this
theorem ptys : ([0,5] : List Nat).map (tauOf taus) = Tryz.f3.params.toList := by kernel_rfl

mutual
theorem ub1 {H : Type} : ∀ d : DataW H,Rows.uptoBulk d = bulkD d
  | .lit l => by cases l <;> rfl
  | .nil => rfl
  | .ptr d => by rw [Rows.uptoBulk,bulkD,ub1 d]
  | .slice a b => by rw [Rows.uptoBulk,bulkD,ub2 a,ub2 b]
  | .agg a => by rw [Rows.uptoBulk,bulkD,ub2 a]
  | .iface _ d => by rw [Rows.uptoBulk,bulkD,ub1 d]
  | .map a => by rw [Rows.uptoBulk,bulkD,ub3 a]
  | .held _ => rfl
theorem ub2 {H : Type} : ∀ l : List (DataW H),Rows.uptoBulkAll l = bulkAll l
  | [] => rfl
  | d :: r => by rw [Rows.uptoBulkAll,bulkAll,ub1 d,ub2 r]
theorem ub3 {H : Type} : ∀ l : List (Lit × DataW H),Rows.uptoBulkEntries l = bulkEntries l
  | [] => rfl
  | x :: r => by rw [Rows.uptoBulkEntries,bulkEntries,ub4 x,ub3 r]
theorem ub4 {H : Type} : ∀ x : Lit × DataW H,Rows.uptoBulkEntry x = bulkEntry x
  | (l,d) => by cases l <;> simp only [Rows.uptoBulkEntry,bulkEntry,ub1 d]
end

theorem gaN : Tryz.prog.globalNamed "unicode/utf8.acceptRanges" = some gA := by kernel_rfl
theorem gfN : Tryz.prog.globalNamed "unicode/utf8.first" = some gF := by kernel_rfl
theorem gaT : (Tryz.prog.globals[gA]?).map (·.type) = some 129 := by kernel_rfl
theorem gfT : (Tryz.prog.globals[gF]?).map (·.type) = some 126 := by kernel_rfl
def tabsL : List (String × DataW Unit) := [("math/bits.deBruijn32tab", Rows.laid_math_bits_deBruijn32tab), ("math/bits.deBruijn64tab", Rows.laid_math_bits_deBruijn64tab), ("internal/strconv.uint64pow10", Rows.laid_internal_strconv_uint64pow10), ("unicode/utf8.acceptRanges", Rows.laid_unicode_utf8_acceptRanges), ("unicode/utf8.first", Rows.laid_unicode_utf8_first)]
theorem laidH {W : World} (h : laidMetH Tryz.prog Rows.memberAgreesUptoRow.laid W) : laidMet Tryz.prog tabsL W ∧ handlesMet Tryz.prog [("errors.errorType", Rows.laid_errors_errorType)] W := h
theorem geN : Tryz.prog.globalNamed "errors.errorType" = some gE := by kernel_rfl
theorem geR : (Tryz.prog.cutTypes.find? (·.1 == "internal/reflectlite.rtype")).map (·.2) = some 104 := by kernel_rfl
theorem geOne : ((List.range 195).filter fun t => Tryz.prog.rowNamed t [101,114,114,111,114]) = [60] := by kernel_rfl
theorem geSize : Tryz.prog.types.size = 195 := by kernel_rfl
theorem var_block {P : Program} {w : World} {name : String} {g : Nat} {cs : Array Value} (hg : P.globalNamed name = some g) (h : w.var? P name = some cs) : ∃ ty fr,w.heap[g]? = some (.cells cs ty fr) := by
  unfold World.var? at h
  simp only [hg,Option.bind_some] at h
  split at h
  · rename_i c ty fr he
    cases h
    exact ⟨ty,fr,he⟩
  · cases h
theorem handle_of {W : World} (h : handlesMet Tryz.prog [("errors.errorType", Rows.laid_errors_errorType)] W) : W.var? Tryz.prog "errors.errorType" = some #[.iface 104 (.agg #[.pointer (some ⟨6, 60, none⟩)])] := by
  obtain ⟨name,u,ty,e1,e2,e3,e4,e5⟩ := h _ (List.mem_singleton.2 rfl)
  have en : name = [101,114,114,111,114] := (Option.some.inj e1).symm
  subst en
  obtain rfl := Option.some.inj (geR.symm.trans e2)
  have hm : ty ∈ (List.range 195).filter fun t => Tryz.prog.rowNamed t [101,114,114,111,114] := List.mem_filter.2 ⟨List.mem_range.2 (by rw [← geSize]; exact e3),e4⟩
  rw [geOne] at hm
  obtain rfl := List.mem_singleton.1 hm
  have hh : typeHandle Tryz.prog 60 = .pointer (some ⟨6,60,none⟩) := by kernel_rfl
  rw [hh] at e5
  exact e5
theorem gpT : (Tryz.prog.globals[gP]?).map (·.type) = some 155 := by kernel_rfl
theorem pow10_is {W : World} (h : laidMet Tryz.prog tabsL W) : W.var? Tryz.prog "internal/strconv.uint64pow10" = some (Lib.pow10Tab.map fun z => Value.int .u64 z).toArray := by
  obtain ⟨ps,h1,_⟩ := h
  obtain ⟨g', t', cs, fuel, p, k1, k2, k3, k4⟩ := laid_mem h1 ("internal/strconv.uint64pow10", Rows.laid_internal_strconv_uint64pow10) (by simp [tabsL])
  obtain rfl := Option.some.inj (gpN.symm.trans k1)
  obtain rfl := Option.some.inj (gpT.symm.trans k2)
  have e : (Rows.laid_internal_strconv_uint64pow10 : DataW Unit) = Lib.tabData .u64 Lib.pow10Tab := by kernel_rfl
  rw [e] at k4
  have hc := Lib.cells_of_tab (n := 20) (e := 138) (by kernel_rfl) (by kernel_rfl) (by kernel_rfl) (by kernel_rfl) k4
  rw [k3,← hc]
theorem glob {W : World} (h : laidMetH Tryz.prog Rows.memberAgreesUptoRow.laid W) : ∀ x ∈ nm.g,VR nm W (fun b => b < W.heap.size) x.1 x.2 := by
  obtain ⟨h',hh⟩ := laidH h
  intro x hx
  simp only [nm,List.mem_cons,List.not_mem_nil,or_false] at hx
  rcases hx with rfl | rfl | rfl | rfl
  · exact vr_of_laid h' (name := "unicode/utf8.acceptRanges") (d := Rows.laid_unicode_utf8_acceptRanges) (by simp [tabsL]) gaN gaT (FlatTy.array (e := 128) (n := 16) (c := 2) (by kernel_rfl) (by kernel_rfl) (by kernel_rfl) (FlatTy.pair (e := 5) (by kernel_rfl) (by kernel_rfl) (by kernel_rfl) (FlatTy.int (by kernel_rfl)))) (by kernel_rfl)
  · exact vr_of_laid h' (name := "unicode/utf8.first") (d := Rows.laid_unicode_utf8_first) (by simp [tabsL]) gfN gfT (FlatTy.array (e := 5) (n := 256) (c := 1) (by kernel_rfl) (by kernel_rfl) (by kernel_rfl) (FlatTy.int (by kernel_rfl))) (by kernel_rfl)
  · obtain ⟨ty,fr,hc⟩ := var_block geN (handle_of hh)
    exact VR.tab 1 gE ty fr (Array.getElem?_eq_some_iff.1 hc).1 hc
  · obtain ⟨ty,fr,hc⟩ := var_block gpN (pow10_is h')
    exact VR.tab 0 gP ty fr (Array.getElem?_eq_some_iff.1 hc).1 hc

set_option maxRecDepth 100000 in
theorem known : Hm.Ret (tabA sf pr F.errors_As 1 0) F.l10_MemberKnown [] (one (.bool true)) := ⟨⟨3000,by kernel_rfl⟩⟩
theorem mif : MiFns (tabA sf pr F.errors_As 1 0) :=
  have gg : GgFns (tabA sf pr F.errors_As 1 0) := ⟨fn0 _ _,fn0 _ _,⟨fn0 _ _,rfl,rfl,rfl,rfl⟩⟩
  have ch : ChFns (tabA sf pr F.errors_As 1 0) := ⟨fn0 _ _,gg⟩
  have bs : BsFns (tabA sf pr F.errors_As 1 0) := ⟨fn0 _ _,fn0 _ _,fn0 _ _,fn0 _ _⟩
  have tn : TnFns (tabA sf pr F.errors_As 1 0) := ⟨fn0 _ _,fn0 _ _,fn0 _ _,fn0 _ _⟩
  have to : ToFns (tabA sf pr F.errors_As 1 0) := ⟨fn0 _ _,rfl,rfl⟩
  have lk : LkFns (tabA sf pr F.errors_As 1 0) := ⟨fn0 _ _,fn0 _ _,fn0 _ _,fn0 _ _,fn0 _ _,fn0 _ _,tn,to,ch,bs⟩
  have vf : VfFns (tabA sf pr F.errors_As 1 0) := ⟨fn0 _ _,fn0 _ _,fn0 _ _,fn0 _ _,fn0 _ _,fn0 _ _,fn0 _ _,fn0 _ _,fn0 _ _⟩
  have sp : SpFns (tabA sf pr F.errors_As 1 0) := ⟨fn0 _ _,fn0 _ _,fn0 _ _,fn0 _ _,fn0 _ _,fn0 _ _,fn0 _ _,fn0 _ _,fn0 _ _,fn0 _ _,fn0 _ _,fn0 _ _,fn0 _ _,fn0 _ _,fn0 _ _⟩
  ⟨fn0 _ _,fn0 _ _,vf,sp,validOk (fn0 _ _) (fn0 _ _) (fn0 _ _),lk⟩
theorem r8f : R8Fns (tabA sf pr F.errors_As 1 0) :=
  have u2 : U2Fns (tabA sf pr F.errors_As 1 0) := ⟨fn0 _ _,fn0 _ _,fn0 _ _,fn0 _ _,fn0 _ _,fn0 _ _,fn0 _ _,fn0 _ _⟩
  ⟨fn0 _ _,fn0 _ _,fn0 _ _,fn0 _ _,fn0 _ _,fn0 _ _,⟨fn0 _ _,fn0 _ _,fn0 _ _,fn0 _ _,u2⟩⟩
theorem rsf : RsFns (tabA sf pr F.errors_As 1 0) := ⟨fn0 _ _,fn0 _ _,fn0 _ _,fn0 _ _,fn0 _ _,fn0 _ _,fn0 _ _,fn0 _ _,fn0 _ _,fn0 _ _,fn0 _ _,fn0 _ _,fn0 _ _,fn0 _ _,fn0 _ _,fn0 _ _,fn0 _ _⟩
theorem answers (xs : List AV) (h : HasAs (tsOf tds) [0,5] xs) (hb : bkRow xs ≤ 1048576) : Hm.Ret (tabA sf pr F.errors_As 1 0) F.l10_MemberAgrees (xs.map .val) ⟨[([.av (.bool true)],false)],[]⟩ := by
  obtain ⟨a,r,rfl,ha,h⟩ := h.inv
  obtain ⟨b,r,rfl,hb',h⟩ := h.inv
  obtain rfl := h.nil_inv
  obtain ⟨v,rfl,h1⟩ := V.of_arg (tv := 0) (ti := 1) (ts := 2) (tvs := 3) (tss := 4) rfl rfl rfl rfl rfl rfl rfl ha
  obtain ⟨t,rfl,h2⟩ := Ty.of_arg (tb := 6) (tsps := 7) (tsp := 8) (ts := 2) (tss := 4) (tas := 9) (ta := 10) (ti := 1) (tos := 11) (to := 12) (tts := 13) (tbs := 14) ⟨rfl,rfl,rfl,rfl,rfl,rfl,rfl,rfl,rfl,rfl,rfl,rfl,rfl,rfl,rfl,rfl,rfl,rfl,rfl⟩ hb'
  simp only [bkRow,h1,h2] at hb
  exact MemberAgrees_ret (fn0 _ _) (fn0 _ _) known ⟨mif,rsf,r8f,fn0 _ _,rfl,fn0 _ _,fn0 _ _,fn0 _ _⟩ v t (by omega)

set_option maxRecDepth 100000 in
theorem contract (H : Type) (enc : TypeId × Value → H) (W : World) (base : Nat) (args : Array Value) (ds gs : List (DataW H)) (before : List MemPlace)
    (hval : ∀ (j : Nat) t v,Tryz.f3.params[j]? = some t → args[j]? = some v → Value.okWide Tryz.prog W .any base t v)
    (hW : DataW.Whole enc Tryz.prog Tryz.f3.params.toList Rows.memberAgreesSpec.vars false W args.toList ds gs before) (hk : Rows.uptoSmall H (ds ++ gs) = true) (hL : laidMetH Tryz.prog Rows.memberAgreesUptoRow.laid W) :
    Calls Tryz.prog 3 args W fun e W' => ∃ v,e = .returned v ∧ Rows.memberAgreesSpec.post enc Tryz.prog Tryz.f3 false true false false W args v W' := by
  have hW0 := hW
  obtain ⟨p,q,hA,hV,rfl,hfz,hnd⟩ := hW
  rw [← ptys] at hA
  obtain ⟨xs,a1,a2,a3⟩ := args_has (N := nm) (okTy_all okT) (refs_struct okR) (refs_slice okR) (b := base) (r := .any) (by decide) (fun j t v ht hv => by
    rw [ptys] at ht
    exact hval j t v (by simpa using ht) (by simpa using hv)) hA
  obtain ⟨rfl,rfl⟩ := trodVars_none hV
  have hbulk : bkRow xs ≤ 1048576 := by
    have h1 := of_decide_eq_true hk
    rw [List.append_nil,ub2] at h1
    exact Nat.le_trans a3 h1
  obtain ⟨n,hn⟩ := (answers xs a1 hbulk).out
  refine (law_call lk hn a2 (glob hL)).mono fun e W' ⟨he,hb⟩ => ?_
  refine ⟨_,he,law_post (tb := 4) laid readable Tryz.underlying4 (by kernel_rfl) rfl hW0 ?_ hb⟩
  have hl : ds.length = 2 := by
    have h1 := trodAll_len hA
    simpa using h1
  match ds,hl with
  | [d0,d1],_ => rfl

def lay (cs : Array Value) : Obj → Obj
  | .cells _ t frozen => .cells cs t frozen
  | o => o
def cellsF : DataW Unit → Array Value
  | .agg l => (l.map fun d => match d with | .lit (.int k n) => Value.int k n | _ => .nilFunc).toArray
  | _ => #[]
noncomputable def laidWorld (os : Os) : World :=
  let w0 := World.holding Tryz.prog os ⟨#[],#[],[]⟩
  { w0 with heap := ((((((w0.heap.modify gA (lay (zcells accZ).toArray)).modify gF (lay (zcells firZ).toArray)).modify gE (lay #[.iface 104 (.agg #[.pointer (some ⟨6,60,none⟩)])])).modify 4 (lay (cellsF Rows.laid_math_bits_deBruijn32tab))).modify 5 (lay (cellsF Rows.laid_math_bits_deBruijn64tab))).modify 3 (lay (cellsF Rows.laid_internal_strconv_uint64pow10))) }
def wargs : Array Value := #[.agg #[.int .i64 0,.string ⟨#[]⟩,.string ⟨#[]⟩,.slice none 0 0,.slice none 0 0],.agg #[.bool false,.bool false,.bool false,.bool false,.slice none 0 0,.bool false,.slice none 0 0,.slice none 0 0,.slice none 0 0]]
theorem laid_met0 (os : Os) : laidMet Tryz.prog tabsL ((laidWorld os).forCall (fun _ _ => 0) ⟨#[],wargs,[]⟩).memory :=
  laidMet_of_run' 8 (by kernel_rfl) (by kernel_rfl)
theorem laid_met (os : Os) : laidMetH Tryz.prog Rows.memberAgreesUptoRow.laid ((laidWorld os).forCall (fun _ _ => 0) ⟨#[],wargs,[]⟩).memory :=
  laidMetH_of_parts (laid_met0 os) (by kernel_rfl)
theorem reads (os : Os) {H : Type} (enc : TypeId × Value → H) : ∃ places,DataW.whole enc Tryz.prog ((laidWorld os).forCall (fun _ _ => 0) ⟨#[],wargs,[]⟩).memory Tryz.f3.params.toList Rows.memberAgreesSpec.vars false wargs.toList 8 = some ([.agg [.lit (.int .i64 0),.lit (.string []),.lit (.string []),.nil,.nil],.agg [.lit (.bool false),.lit (.bool false),.lit (.bool false),.lit (.bool false),.nil,.lit (.bool false),.nil,.nil,.nil]],[],places) :=
  ⟨[],by kernel_rfl⟩

set_option maxRecDepth 100000 in
theorem lifted (os : Os) (started : os.Started) (H : Type) (enc : TypeId × Value → H) (F : Stop.Interp) :
    ReturnsInHanded {} Tryz.checked os 3 .any ((Rows.OpenSpec.upto Rows.memberAgreesSpec).preRow enc Tryz.prog Tryz.f3 Rows.memberAgreesUptoRow.domain false Rows.memberAgreesUptoRow.laid) (((Rows.OpenSpec.upto Rows.memberAgreesSpec).at F).post enc Tryz.prog Tryz.f3 false true false false) := by
  obtain ⟨places,hx⟩ := reads os enc
  refine returnsInHanded_of_row (C := Tryz.checked) (s := Rows.OpenSpec.upto Rows.memberAgreesSpec) own started (by kernel_rfl) Tryz.func3
    (witness_row_at (enc := enc) (C := Tryz.checked) false (laidWorld os) wargs rfl (by kernel_rfl) (by kernel_rfl) (by kernel_rfl)
      (OpenSpec.preRow_of_cond 8 hx (by kernel_rfl) (fun k hk => by cases hk; kernel_rfl) (by kernel_rfl) (laid_met os))) ?_
  intro W base args ds gs before hval hW _ hcond _ hL _ _
  exact contract H enc W base args ds gs before hval hW (hcond _ rfl) hL

theorem over : Rows.memberAgreesUptoRow.holds Tryz.pinned (Rows.OpenSpec.upto Rows.memberAgreesSpec) :=
  OpenClaim.holds_of_cond 3 Tryz.f3 rfl rfl rfl rfl rfl rfl rfl ⟨rfl,rfl,rfl,rfl,rfl⟩ rfl rfl rfl rfl rfl (by kernel_rfl) Tryz.func3 (by kernel_rfl)
    (of_decide_eq_true (by kernel_rfl)) (by unfold Func.isWrapper; first | (rw [if_pos (by decide +kernel)]; kernel_rfl) | (rw [if_neg (by decide +kernel)]; exact ⟨rfl,rfl⟩))
    (fun os started H enc _ F => by rw [OpenClaim.pre_eq_preRow]; exact lifted os started H enc F)

theorem standIn : (Tryz.prog.funcs[3]?.map fun fn => fn.params.toList.all fun t => !Tryz.prog.wantsStandIn t) = some true := by kernel_rfl
theorem plain (f : FuncId) (fn : Func) (hf : Tryz.pinned.checked.prog.funcNamed "hallmark/hallmarklaw10.MemberAgrees" = some f) (hfn : Tryz.pinned.checked.prog.funcs[f]? = some fn) :
    true = Tryz.pinned.checked.prog.looks [] ∧ ∀ (j : Nat) t,fn.params[j]? = some t → Tryz.pinned.checked.prog.wantsStandIn t = false := by
  obtain rfl : f = 3 := Option.some.inj ((show Tryz.prog.funcNamed "hallmark/hallmarklaw10.MemberAgrees" = some 3 by kernel_rfl).symm.trans hf) |>.symm
  obtain rfl : fn = Tryz.f3 := (Option.some.inj (Tryz.func3.symm.trans hfn)).symm
  refine ⟨by kernel_rfl,fun j t ht => ?_⟩
  have h := standIn
  rw [Tryz.func3] at h
  simp only [Option.map_some,Option.some.injEq,List.all_eq_true,Bool.not_eq_true'] at h
  exact h t (Array.mem_toList_iff.2 (Array.mem_of_getElem? ht))

theorem proved : Rows.MemberAgreesUptoCardSaid :=
  Claim7.holds_tied_plain_at .later [] _ _ _ _ over (fun _ h => by cases h) (by kernel_rfl) (fun _ h => by cases h) memberAgreesUpto_row_tie rfl ⟨rfl,rfl⟩ (by kernel_rfl) rfl plain (by kernel_rfl)
end Go.Proofs.YtaemcgnkpfbenaaGreatDoor.hAgr
#print axioms Go.Proofs.YtaemcgnkpfbenaaGreatDoor.hAgr.proved
