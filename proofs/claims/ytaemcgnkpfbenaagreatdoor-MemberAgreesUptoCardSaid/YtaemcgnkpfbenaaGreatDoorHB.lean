/- The tie between the abstract machine and the model, first part. Conditions: none (plain lemmas). -/
import Derived.Test.YtaemcgnkpfbenaaGreatDoorHA
import Derived.Laws.AppendOwn
import Derived.Below
import GoSem.Step
import Derived.Orders
import Derived.Laws.Strings
import Derived.Laws.NewFold
import Derived.Lib.Strings
import Derived.Laws.StructEq
set_option linter.unusedVariables false
set_option linter.unusedSimpArgs false
/- The tie between the abstract machine's values and the model's memory. Conditions: none (definitions and plain lemmas). -/
namespace Hm
open Go
structure Nm where
  f : Nat → Nat
  t : Nat → Nat
  g : List (AV × Value) := []
  v : Nat → Value := fun _ => .nilFunc
  a : Nat → Array Value := fun _ => #[]
inductive VR (N : Nm) (w : World) (S : Nat → Prop) : AV → Value → Prop
  | int (k : IntKind) (n : Int) : VR N w S (.int k n) (.int k n)
  | bool (b : Bool) : VR N w S (.bool b) (.bool b)
  | str (b : ByteArray) : VR N w S (.str b.data.toList) (.string b)
  | lstNil (st : Nat) (a : Option Addr) (c : Nat) (hc : c ≤ maxLen) (ha : a = none → c = 0) : VR N w S (.lst st []) (.slice a 0 c)
  | lst (rows : List (List AV)) (a : Addr) (c st : Nat) (cv : Nat → Nat → Value) (h0 : rows ≠ []) (hS : S a.block) (hsp : a.spot = none)
      (hl : rows.length ≤ c) (hc : c ≤ maxLen) (hst : 0 < st) (hr : ∀ (i : Nat) (r : List AV),rows[i]? = some r → r.length = st)
      (hcell : ∀ (i : Nat) (r : List AV) (j : Nat) (x : AV),rows[i]? = some r → r[j]? = some x → w.cell? ⟨a.block,a.off + (i * st + j),none⟩ = some (cv i j))
      (h1 : ∀ (i : Nat) (r : List AV) (j : Nat) (x : AV),rows[i]? = some r → r[j]? = some x → (cv i j).oneCell' = true)
      (hv : ∀ (i : Nat) (r : List AV) (j : Nat) (x : AV),rows[i]? = some r → r[j]? = some x → VR N w S x (cv i j)) : VR N w S (.lst st rows) (.slice (some a) rows.length c)
  | agg (cs : List AV) (vs : Array Value) (hl : cs.length = vs.size) (h1 : ∀ (j : Nat) (v : Value),vs[j]? = some v → v.oneCell' = true)
      (hv : ∀ (j : Nat) (x : AV) (v : Value),cs[j]? = some x → vs[j]? = some v → VR N w S x v) : VR N w S (.agg cs) (.agg vs)
  | vptr (cs : List AV) (a : Addr) (cv : Nat → Value) (hS : cs ≠ [] → S a.block) (hsp : a.spot = none)
      (hcell : ∀ (j : Nat) (x : AV),cs[j]? = some x → w.cell? ⟨a.block,a.off + j,none⟩ = some (cv j)) (h1 : ∀ (j : Nat) (x : AV),cs[j]? = some x → (cv j).oneCell' = true)
      (hv : ∀ (j : Nat) (x : AV),cs[j]? = some x → VR N w S x (cv j)) : VR N w S (.vptr cs) (.pointer (some a))
  | nilp : VR N w S .nilp (.pointer none)
  | clo (f : Nat) (first caps : List AV) (fs cs : Array Value) (hf : first.length = fs.size) (hc : caps.length = cs.size)
      (h1 : ∀ (j : Nat) (x : AV) (v : Value),first[j]? = some x → fs[j]? = some v → VR N w S x v) (h2 : ∀ (j : Nat) (x : AV) (v : Value),caps[j]? = some x → cs[j]? = some v → VR N w S x v) :
      VR N w S (.clo f first caps) (.func (.func (N.f f)) fs cs)
  | nilf : VR N w S .nilf .nilFunc
  | iface (t : Nat) (v : AV) (cv : Value) (h : VR N w S v cv) : VR N w S (.iface t v) (.iface (N.t t) cv)
  | nili : VR N w S .nili .nilIface
  | emp (st : Nat) (a : Option Addr) (c : Nat) (hc : c ≤ maxLen) (ha : a = none → c = 0) : VR N w S (.emp st a.isSome) (.slice a 0 c)
  | tag (n : Nat) (cv : Value) (h : cv = N.v n) (h1 : cv.oneCell' = true) (h2 : cv.cells = #[cv]) : VR N w S (.tag n) cv
  | tab (n b : Nat) (ty : TypeId) (fr : Nat × Nat) (hS : S b) (hc : w.heap[b]? = some (.cells (N.a n) ty fr)) : VR N w S (.tab n) (.pointer (some ⟨b,0,none⟩))
  | und (v : Value) : VR N w S .und v
theorem cell_of_same {w w' : World} {a : Addr} (h : w'.heap[a.block]? = w.heap[a.block]?) : w'.cell? a = w.cell? a := by simp [World.cell?,h]
theorem VR.mono {N : Nm} {w w' : World} {S S' : Nat → Prop} (hw : ∀ b,S b → w'.heap[b]? = w.heap[b]?) (hS : ∀ b,S b → S' b) {v : AV} {cv : Value}
    (h : VR N w S v cv) : VR N w' S' v cv := by
  induction h with
  | int k n => exact .int k n
  | bool b => exact .bool b
  | str b => exact .str b
  | lstNil st a c hc ha => exact .lstNil st a c hc ha
  | lst rows a c st cv h0 hb hsp hl hc hst hr hcell h1 _ ih =>
    exact .lst rows a c st cv h0 (hS _ hb) hsp hl hc hst hr (fun i r j x hi hj => (cell_of_same (a := ⟨a.block,a.off + (i * st + j),none⟩) (hw a.block hb)).trans (hcell i r j x hi hj)) h1 ih
  | agg cs vs hl h1 _ ih => exact .agg cs vs hl h1 ih
  | vptr cs a cv hb hsp hcell h1 _ ih =>
    exact .vptr cs a cv (fun h => hS _ (hb h)) hsp (fun j x hj => (cell_of_same (a := ⟨a.block,a.off + j,none⟩) (hw a.block (hb (by rintro rfl; simp at hj)))).trans (hcell j x hj)) h1 ih
  | nilp => exact .nilp
  | clo f first caps fs cs hf hc _ _ ih1 ih2 => exact .clo f first caps fs cs hf hc ih1 ih2
  | nilf => exact .nilf
  | iface t v cv _ ih => exact .iface t v cv ih
  | nili => exact .nili
  | emp st a c hc ha => exact .emp st a c hc ha
  | tag n cv h h1 h2 => exact .tag n cv h h1 h2
  | tab n b ty fr hb hc => exact .tab n b ty fr (hS _ hb) ((hw b hb).trans hc)
  | und v => exact .und v
inductive GC where
  | av (v : AV) (cv : Value)
  | nil (st : Nat)
  | own (b cap st : Nat) (e : TypeId) (rows : List (List GC))
  | dead (cv : Value)
  deriving Inhabited
def GC.val : GC → Value
  | .av _ cv => cv
  | .nil _ => .slice none 0 0
  | .own b cap _ _ rows => .slice (some ⟨b,0,none⟩) rows.length cap
  | .dead cv => cv
mutual
def GC.cell : GC → Cell
  | .av v _ => .av v
  | .nil st => .own st []
  | .own _ _ st _ rows => .own st (cellRows rows)
  | .dead _ => .dead
def cellRow : List GC → List Cell
  | [] => []
  | c :: r => c.cell :: cellRow r
def cellRows : List (List GC) → List (List Cell)
  | [] => []
  | r :: rs => cellRow r :: cellRows rs
end
mutual
def GC.blocks : GC → List Nat
  | .own b _ _ _ rows => b :: blocksRows rows
  | _ => []
def blocksRow : List GC → List Nat
  | [] => []
  | c :: r => c.blocks ++ blocksRow r
def blocksRows : List (List GC) → List Nat
  | [] => []
  | r :: rs => blocksRow r ++ blocksRows rs
end
theorem cellRow_eq (l : List GC) : cellRow l = l.map GC.cell := by
  induction l with
  | nil => rfl
  | cons c r ih => simp [cellRow,ih]
theorem cellRows_eq (l : List (List GC)) : cellRows l = l.map cellRow := by
  induction l with
  | nil => rfl
  | cons c r ih => simp [cellRows,ih]
theorem sealRow_eq (l : List Cell) : sealRow l = l.map Cell.shut := by
  induction l with
  | nil => rfl
  | cons c r ih => simp [sealRow,ih]
theorem sealRows_eq (l : List (List Cell)) : sealRows l = l.map sealRow := by
  induction l with
  | nil => rfl
  | cons c r ih => simp [sealRows,ih]
theorem blocksRow_eq (l : List GC) : blocksRow l = l.flatMap GC.blocks := by
  induction l with
  | nil => rfl
  | cons c r ih => simp [blocksRow,ih]
theorem blocksRows_eq (l : List (List GC)) : blocksRows l = l.flatMap blocksRow := by
  induction l with
  | nil => rfl
  | cons c r ih => simp [blocksRows,ih]
inductive GC.ok (N : Nm) (w : World) (S : Nat → Prop) : GC → Prop
  | av (v : AV) (cv : Value) (h : VR N w S v cv) (h1 : cv.oneCell' = true) : GC.ok N w S (.av v cv)
  | nil (st : Nat) : GC.ok N w S (.nil st)
  | own (b cap st : Nat) (e : TypeId) (rows : List (List GC)) (cur : Array Value) (hst : 0 < st) (hl : rows.length ≤ cap) (hc : cap ≤ maxLen)
      (hr : ∀ (i : Nat) (r : List GC),rows[i]? = some r → r.length = st) (hb : w.heap[b]? = some (.cells cur e (0,0))) (hs : cur.size = cap * st)
      (hcur : ∀ (i : Nat) (r : List GC) (j : Nat) (c : GC),rows[i]? = some r → r[j]? = some c → cur[i * st + j]? = some c.val)
      (hok : ∀ (i : Nat) (r : List GC) (j : Nat) (c : GC),rows[i]? = some r → r[j]? = some c → GC.ok N w S c) : GC.ok N w S (.own b cap st e rows)
  | dead (cv : Value) (h1 : cv.oneCell' = true) : GC.ok N w S (.dead cv)
theorem mem_blocksRow {l : List GC} {x : Nat} {j : Nat} {c : GC} (h : l[j]? = some c) (hx : x ∈ c.blocks) : x ∈ blocksRow l := by
  rw [blocksRow_eq]; exact List.mem_flatMap.2 ⟨c,List.mem_of_getElem? h,hx⟩
theorem mem_blocksRows {l : List (List GC)} {x : Nat} {i : Nat} {r : List GC} (h : l[i]? = some r) (hx : x ∈ blocksRow r) : x ∈ blocksRows l := by
  rw [blocksRows_eq]; exact List.mem_flatMap.2 ⟨r,List.mem_of_getElem? h,hx⟩
theorem GC.ok.mono {N : Nm} {w w' : World} {S S' : Nat → Prop} (hw : ∀ b,S b → w'.heap[b]? = w.heap[b]?) (hS : ∀ b,S b → S' b) {c : GC}
    (h : GC.ok N w S c) (hb : ∀ b ∈ c.blocks,w'.heap[b]? = w.heap[b]?) : GC.ok N w' S' c := by
  induction h with
  | av v cv h h1 => exact .av v cv (h.mono hw hS) h1
  | nil st => exact .nil st
  | own b cap st e rows cur hst hl hc hr hb' hs hcur _ ih =>
    refine .own b cap st e rows cur hst hl hc hr (by rw [hb b (by simp [GC.blocks])]; exact hb') hs hcur fun i r j c hi hj => ih i r j c hi hj fun x hx => hb x ?_
    simp only [GC.blocks,List.mem_cons]
    exact .inr (mem_blocksRows hi (mem_blocksRow hj hx))
  | dead cv h1 => exact .dead cv h1
theorem GC.ok.one {N : Nm} {w : World} {S : Nat → Prop} {c : GC} (h : GC.ok N w S c) : c.val.oneCell' = true := by
  cases h <;> first | assumption | rfl
theorem GC.ok.lt {N : Nm} {w : World} {S : Nat → Prop} {c : GC} (h : GC.ok N w S c) : ∀ b ∈ c.blocks,b < w.heap.size := by
  induction h with
  | av v cv h h1 => intro b hb; simp [GC.blocks] at hb
  | nil st => intro b hb; simp [GC.blocks] at hb
  | own b cap st e rows cur hst hl hc hr hb' hs hcur _ ih =>
    intro x hx
    simp only [GC.blocks,List.mem_cons,blocksRows_eq,blocksRow_eq,List.mem_flatMap] at hx
    rcases hx with rfl | ⟨r,hr',c,hc',hx⟩
    · exact (Array.getElem?_eq_some_iff.1 hb').1
    · obtain ⟨i,hi⟩ := List.mem_iff_getElem?.1 hr'
      obtain ⟨j,hj⟩ := List.mem_iff_getElem?.1 hc'
      exact ih i r j c hi hj x hx
  | dead cv h1 => intro b hb; simp [GC.blocks] at hb
theorem GC.ok.view {N : Nm} {w : World} {S S' : Nat → Prop} {c : GC} (h : GC.ok N w S c) (hS : ∀ b,S b → S' b) (hb : ∀ b ∈ c.blocks,S' b) :
    VR N w S' c.cell.shut c.val := by
  induction h with
  | av v cv h h1 => exact h.mono (fun _ _ => rfl) hS
  | nil st => simp only [GC.cell,Cell.shut,sealRows,GC.val]; exact .lstNil _ _ _ (Nat.zero_le _) fun _ => rfl
  | own b cap st e rows cur hst hl hc hr hb' hs hcur hok ih =>
    simp only [GC.cell,Cell.shut,GC.val,sealRows_eq,cellRows_eq,List.map_map]
    by_cases h0 : rows = []
    · subst h0; exact .lstNil _ _ _ hc (by simp)
    have hlen : (rows.map (sealRow ∘ cellRow)).length = rows.length := by simp
    have key : ∀ (i : Nat) (r : List AV) (j : Nat) (x : AV),(rows.map (sealRow ∘ cellRow))[i]? = some r → r[j]? = some x →
        ∃ r' c,rows[i]? = some r' ∧ r'[j]? = some c ∧ x = c.cell.shut := by
      intro i r j x hi hj
      simp only [List.getElem?_map,Option.map_eq_some_iff,Function.comp] at hi
      obtain ⟨r',hr',rfl⟩ := hi
      rw [sealRow_eq,cellRow_eq,List.map_map,List.getElem?_map,Option.map_eq_some_iff] at hj
      obtain ⟨c,hc',rfl⟩ := hj
      exact ⟨r',c,hr',hc',rfl⟩
    rw [show rows.length = (rows.map (sealRow ∘ cellRow)).length from hlen.symm]
    refine .lst _ ⟨b,0,none⟩ cap st (fun i j => (((rows[i]?).bind (·[j]?)).getD default).val) (by simpa using h0) (hb b (by simp [GC.blocks])) rfl (by simpa using hl) hc hst ?_ ?_ ?_ ?_
    · intro i r hi
      simp only [List.getElem?_map,Option.map_eq_some_iff,Function.comp] at hi
      obtain ⟨r',hr',rfl⟩ := hi
      simp [sealRow_eq,cellRow_eq,hr i r' hr']
    · intro i r j x hi hj
      obtain ⟨r',c,h1,h2,rfl⟩ := key i r j x hi hj
      simp only [World.cell?,hb',Nat.zero_add,h1,h2,Option.bind_some,Option.getD_some]
      simpa using hcur i r' j c h1 h2
    · intro i r j x hi hj
      obtain ⟨r',c,h1,h2,rfl⟩ := key i r j x hi hj
      simp only [h1,h2,Option.bind_some,Option.getD_some]
      exact (hok i r' j c h1 h2).one
    · intro i r j x hi hj
      obtain ⟨r',c,h1,h2,rfl⟩ := key i r j x hi hj
      simp only [h1,h2,Option.bind_some,Option.getD_some]
      refine ih i r' j c h1 h2 fun y hy => hb y ?_
      simp only [GC.blocks,List.mem_cons]
      exact .inr (mem_blocksRows h1 (mem_blocksRow h2 hy))
  | dead cv h1 => exact .und cv
end Hm
/- Does a cleaned operation stand for one of the model's? Conditions: none (definitions, decided by the kernel at a program). -/
namespace Hm
open Go
def tyAgg (P : Program) (t : TypeId) : Option Bool :=
  match P.underlying t with
  | some (.struct _) | some (.array _ _) => some true
  | some _ => some false
  | none => none
def tySize (P : Program) (t : TypeId) : Option Nat :=
  match P.info? t with
  | some i => some i.size
  | none => none
def tyIs (P : Program) (t : TypeId) (n : Nat) (g : Bool) : Bool := tySize P t == some n && tyAgg P t == some g && (g || n == 1)
def okV : AV → Value → Bool
  | .int k n,.int k' n' => decide (k = k') && decide (n = n')
  | .bool b,.bool b' => b == b'
  | .str s,.string b => b.data.toList == s
  | .nilp,.pointer none => true
  | .nilf,.nilFunc => true
  | .nili,.nilIface => true
  | _,_ => false
def okCell : Cell → Value → Bool
  | .av v,cv => okV v cv
  | .own _ [],.slice none 0 0 => true
  | _,_ => false
def okCells : List Cell → List Value → Bool
  | [],[] => true
  | c :: r,v :: s => okCell c v && okCells r s
  | _,_ => false
def eqAV : AV → AV → Bool
  | .int k n,.int k' n' => decide (k = k') && decide (n = n')
  | .bool b,.bool b' => b == b'
  | .str s,.str t => s == t
  | _,_ => false
def eqAVs : List AV → List AV → Bool
  | [],[] => true
  | x :: r,y :: s => eqAV x y && eqAVs r s
  | _,_ => false
def okG (N : Nm) (cs : List AV) (g : Nat) : Bool :=
  N.g.any fun x => match x with
    | (.vptr ds,.pointer (some ⟨b,0,none⟩)) => b == g && eqAVs cs ds
    | _ => false
def okO (N : Nm) : Opd → Operand → Bool
  | .t n,.tmp m => n == m
  | .v (.vptr cs),.global g => okG N cs g
  | .v (.clo f [] []),.func g => N.f f == g
  | .v a,.const v => okV a v
  | .w cs true,.const (.agg vs) => okCells cs vs.toList
  | .w [c] false,.const v => okCell c v
  | _,_ => false
def okOs (N : Nm) : List Opd → List Operand → Bool
  | [],[] => true
  | x :: r,y :: s => okO N x y && okOs N r s
  | _,_ => false
def okE (N : Nm) (roots : List Nat) (x : Opd) (y : Operand) : Bool := okO N x y && (match x with | .t n => !roots.contains n | _ => true)
def okEs (N : Nm) (roots : List Nat) : List Opd → List Operand → Bool
  | [],[] => true
  | x :: r,y :: s => okE N roots x y && okEs N roots r s
  | _,_ => false
def okOpt (N : Nm) : Option Opd → Option Operand → Bool
  | none,none => true
  | some x,some y => okO N x y
  | _,_ => false
def okZero (P : Program) (t : TypeId) (zero : List Cell) : Bool :=
  match P.info? t with
  | some i => i.size == zero.length && (match i.zero with | some v => okCells zero v.cells.toList | none => false)
  | none => false
def okParts (N : Nm) (roots : List Nat) (place : Nat → Option (Nat × Nat)) : List (Nat × Nat × Opd) → List (Nat × Operand) → Bool
  | [],[] => true
  | (o,n,x) :: r,(i,y) :: s => (match place i with | some (o',n') => o' == o && n' == n | none => false) && okE N roots x y && okParts N roots place r s
  | _,_ => false
def isSlice (P : Program) (t : TypeId) (k : Nat) : Bool :=
  match P.underlying t with
  | some (.slice e) => tySize P e == some k && decide (0 < k)
  | _ => false
def nilV (P : Program) (k : NK) (t : TypeId) (v : Value) : Bool :=
  match k,P.underlying t,v with
  | .sl,some (.slice _),.slice none 0 0 => true
  | .pt,some (.pointer _),.pointer none => true
  | .ifc,some (.interface _),.nilIface => true
  | .fn,some (.func _ _ _),.nilFunc => true
  | _,_,_ => false
def okConv (P : Program) : Cv → TypeId → TypeId → Bool
  | .same,s,d => (match P.underlying s,P.underlying d with | some .string,some .string => true | _,_ => false)
  | .int k,s,d => (match P.underlying s,P.underlying d with | some (.int _),some (.int k') => decide (k = k') | _,_ => false)
  | .toBytes,s,d => (match P.underlying s,P.underlying d with
    | some .string,some (.slice e) => (match P.underlying e with | some (.int .u8) => tySize P e == some 1 | _ => false)
    | _,_ => false)
  | .toStr,s,d => (match P.underlying s,P.underlying d with
    | some (.slice e),some .string => (match P.underlying e with | some (.int .u8) => tySize P e == some 1 | _ => false)
    | _,_ => false)
def okOp (P : Program) (N : Nm) (roots : List Nat) (aop : AOp) (o : Oper) : Bool :=
  match aop with
  | .mv x => (match o.op with
    | .move y => okE N roots x y
    | _ => false)
  | .mvr n => (match o.op with
    | .move (.tmp m) => n == m && roots.contains n
    | _ => false)
  | .mvt n => (match o.op with
    | .move (.tmp m) => n == m && roots.contains n
    | _ => false)
  | .asg x => (match o.op with
    | .assign y => okE N roots x y
    | _ => false)
  | .asgs x => (match o.op with
    | .assign y => okE N roots x y
    | _ => false)
  | .asgo x => (match o.op with
    | .assign y => okE N roots x y
    | _ => false)
  | .pick c a b => (match o.op with
    | .pick c' a' b' => okO N c c' && okO N a a' && okO N b b'
    | _ => false)
  | .alloc zero => (match o.op with
    | .alloc t => okZero P t zero
    | _ => false)
  | .box x => (match o.op with
    | .box _ y => okE N roots x y
    | _ => false)
  | .build zero parts => (match o.op with
    | .build t ps => okZero P t zero && (match P.underlying t with
    | some (.struct fields) => okParts N roots (fun i => match fields[i]? with | some f => (match tySize P f.type with | some n => some (f.offset,n) | none => none) | none => none) parts ps.toList &&
        fields.toList.all (fun f => (tySize P f.type).isSome)
    | some (.array _ e) => (match tySize P e with | some k => okParts N roots (fun i => some (i * k,k)) parts ps.toList | none => false)
    | _ => false)
    | _ => false)
  | .buildZ zero parts => (match o.op with
    | .build t ps => okZero P t zero && (match P.underlying t with
    | some (.struct fields) => okParts N roots (fun i => match fields[i]? with | some f => (match tySize P f.type with | some n => some (f.offset,n) | none => none) | none => none) parts ps.toList &&
        fields.toList.all (fun f => (tySize P f.type).isSome)
    | some (.array _ e) => (match tySize P e with | some k => okParts N roots (fun i => some (i * k,k)) parts ps.toList | none => false)
    | _ => false)
    | _ => false)
  | .buildS n k zero parts => (match o.op with
    | .buildSlice t len ps => n == len && decide (n * k ≤ 16777216) && (match P.underlying t with
    | some (.slice e) => okZero P e zero && tySize P e == some k && decide (0 < k) && okParts N roots (fun i => some (i * k,k)) parts ps.toList
    | _ => false)
    | _ => false)
  | .load n g a => (match o.op with
    | .load t y => tyIs P t n g && okO N a y
    | _ => false)
  | .loadC n a => (match o.op with
    | .load t y => tyIs P t n true && okO N a y
    | _ => false)
  | .take n g a => (match o.op with
    | .load t y => tyIs P t n g && okO N a y
    | _ => false)
  | .store n a x => (match o.op with
    | .store t y z => tySize P t == some n && okO N a y && okE N roots x z
    | _ => false)
  | .storeR n a m => (match o.op with
    | .store t y (.tmp j) => tySize P t == some n && okO N a y && m == j && roots.contains m
    | _ => false)
  | .iadrR k n i => (match o.op with
    | .indexAddr t (.tmp j) z => n == j && roots.contains n && okO N i z && isSlice P t k
    | _ => false)
  | .mvh n => (match o.op with
    | .move (.tmp m) => n == m && roots.contains n
    | _ => false)
  | .iadrH k m i => (match o.op with
    | .indexAddr t (.tmp j) z => m == j && okO N i z && isSlice P t k
    | _ => false)
  | .appendR bytes k x y => (match o.op with
    | .call { callee := .builtin .append,args,argTypes } => okEs N roots [x,y] args.toList && decide (bytes ≤ 32768) && (match argTypes.toList with
    | [t,u] => (match P.underlying t,P.underlying u with
      | some (.slice e),some (.slice e') => decide (0 < k) && (match P.info? e with
        | some i => i.size == k && i.bytes == bytes && (match i.zero with | some z => z.cells.size == k | none => false)
        | none => false)
      | _,_ => false)
    | _ => false)
    | _ => false)
  | .nilc x => (match o.op with
    | .nilCheck y => okO N x y
    | _ => false)
  | .bin op x y => (match o.op with
    | .binOp op' t a b _ => decide (op = op') && okO N x a && okO N y b
    | _ => false)
  | .binB neg x y => (match o.op with
    | .binOp op' t a b _ => decide (op' = if neg then .neq else .eql) && (match P.underlying t with | some .bool => true | _ => false) && okO N x a && okO N y b
    | _ => false)
  | .isnil k neg x => (match o.op with
    | .binOp op t a b _ => decide (op = if neg then .neq else .eql) &&
    ((match b with | .const v => nilV P k t v | _ => false) && okO N x a || (match a with | .const v => nilV P k t v | _ => false) && okO N x b)
    | _ => false)
  | .un op x => (match o.op with
    | .unOp op' _ y => decide (op = op') && okO N x y
    | _ => false)
  | .conv c x => (match o.op with
    | .convert s d y => okConv P c s d && okE N roots x y
    | _ => false)
  | .mki t x => (match o.op with
    | .makeInterface u y => N.t t == u && (match P.underlying u with | some (.interface _) => false | some _ => true | none => false) && okE N roots x y
    | _ => false)
  | .mkf f first cs => (match o.op with
    | .makeFunc (.func g) fs vs => N.f f == g && okOs N first fs.toList && okEs N roots cs vs.toList
    | _ => false)
  | .mks zero l c => (match o.op with
    | .makeSlice t y z => okO N l y && okO N c z && (match P.underlying t with
    | some (.slice e) => okZero P e zero && decide (0 < zero.length) && (match P.info? e with | some i => decide (i.bytes ≤ 32768) | none => false)
    | _ => false)
    | _ => false)
  | .slc isStr k x lo hi => (match o.op with
    | .slice t y lo' hi' none => okE N roots x y && okOpt N lo lo' && okOpt N hi hi' && (match P.underlying t with
    | some .string => isStr
    | some (.slice e) => !isStr && tySize P e == some k
    | _ => false)
    | _ => false)
  | .fadr off x => (match o.op with
    | .fieldAddr t y i => okO N x y && (match P.underlying t with
    | some (.struct fields) => (match fields[i]? with | some f => f.offset == off && (match tySize P f.type with | some n => decide (0 < n) | none => false) | none => false)
    | _ => false)
    | _ => false)
  | .fld off n g x => (match o.op with
    | .field t y i => okO N x y && (match P.underlying t with
    | some (.struct fields) => (match fields[i]? with | some f => f.offset == off && tyIs P f.type n g | none => false)
    | _ => false)
    | _ => false)
  | .iadr k x i => (match o.op with
    | .indexAddr t y z => okO N x y && okO N i z && isSlice P t k
    | _ => false)
  | .iadrA n k x i => (match o.op with
    | .indexAddr t y z => okO N x y && okO N i z && (match P.underlying t with
    | some (.array m e) => n == m && tySize P e == some k
    | _ => false)
    | _ => false)
  | .idxA n k g x i => (match o.op with
    | .index t y z => okO N x y && okO N i z && (match P.underlying t with
    | some (.array m e) => n == m && tyIs P e k g
    | _ => false)
    | _ => false)
  | .idxS x i => (match o.op with
    | .index t y z => okO N x y && okO N i z && (match P.underlying t with | some .string => true | _ => false)
    | _ => false)
  | .ext x i => (match o.op with
    | .extract y j => okE N roots x y && i == j
    | _ => false)
  | .tas t ok x => (match o.op with
    | .typeAssert y _ a ok' => okO N x y && ok == ok' && N.t t == a && (match P.underlying a with | some (.interface _) => false | some _ => true | none => false)
    | _ => false)
  | .len isStr x => (match o.op with
    | .call { callee := .builtin .len,args,argTypes } => okOs N [x] args.toList && (match argTypes.toList with
    | [t] => (match P.underlying t with | some .string => isStr | some (.slice _) => !isStr | _ => false)
    | _ => false)
    | _ => false)
  | .mm isMax xs => (match o.op with
    | .call { callee := .builtin b,args,argTypes } => (if isMax then (match b with | .max => true | _ => false) else (match b with | .min => true | _ => false)) && okOs N xs args.toList
    | _ => false)
  | .append bytes k x y => (match o.op with
    | .call { callee := .builtin .append,args,argTypes } => okEs N roots [x,y] args.toList && decide (bytes ≤ 32768) && (match argTypes.toList with
    | [t,u] => (match P.underlying t,P.underlying u with
      | some (.slice e),some (.slice e') => decide (0 < k) && (match P.info? e with
        | some i => i.size == k && i.bytes == bytes && (match i.zero with | some z => z.cells.size == k | none => false)
        | none => false)
      | _,_ => false)
    | _ => false)
    | _ => false)
  | .call _ f xs => (match o.op with
    | .call { callee := .value g,args,.. } => okO N f g && okEs N roots xs args.toList
    | _ => false)
  | .callM _ f xs => (match o.op with
    | .call { callee := .value g,args,.. } => okO N f g && okEs N roots xs args.toList
    | _ => false)
  | .fail => true
end Hm
/- The state of a call of the abstract machine, and the model's. Conditions: none (definitions and plain lemmas). -/
namespace Hm
open Go
def cval (g : Bool) (gs : List GC) : Value :=
  if g then .agg (gs.map GC.val).toArray else match gs with | [c] => c.val | _ => undef
inductive GT where
  | av (v : AV) (cv : Value)
  | own (gs : List GC) (g : Bool)
  | ali (v : AV) (p : Option Place) (cv : Value)
  | plc (p : Place) (a : Addr)
  | hd (p : Place) (len : Nat) (cv : Value)
  | tup (l : List (Option (List GC × Bool))) (vs : Array Value)
  | skp
  | und (cv : Value)
def tupCells (l : List (Option (List GC × Bool))) : List (Option (List Cell × Bool)) :=
  l.map fun x => match x with | some (gs,g) => some (cellRow gs,g) | none => none
def GT.tv : GT → TV
  | .av v _ => .av v
  | .own gs g => .own (cellRow gs) g
  | .ali v p _ => .ali v p
  | .plc p _ => .plc p
  | .hd p l _ => .hd p l
  | .tup l _ => .tup (tupCells l)
  | .skp => .skp
  | .und _ => .und
def GT.val : GT → Value
  | .av _ cv => cv
  | .own gs g => cval g gs
  | .ali _ _ cv => cv
  | .plc _ a => .pointer (some a)
  | .hd _ _ cv => cv
  | .tup _ vs => .tuple vs
  | .skp => undef
  | .und cv => cv
def tupBlocks : List (Option (List GC × Bool)) → List Nat
  | [] => []
  | some (gs,_) :: r => blocksRow gs ++ tupBlocks r
  | none :: r => tupBlocks r
def GT.blocks : GT → List Nat
  | .own gs _ => blocksRow gs
  | .tup l _ => tupBlocks l
  | _ => []
def GT.place? : GT → Option Place
  | .ali _ (some p) _ => some p
  | .plc p _ => some p
  | .hd p _ _ => some p
  | _ => none
structure GS where
  γ : Nat → GT
  β : Nat → Option (Nat × TypeId × List GC)
def GS.root (s : GS) : Root → Option (Option Nat × List GC)
  | .box k => match s.β k with | some (b,_,gs) => some (some b,gs) | none => none
  | .slot k => match s.γ k with | .own gs _ => some (none,gs) | _ => none
def locRow : Option (Nat × Nat) → List GC → List (Nat × Nat) → Option (Option (Nat × Nat) × List GC)
  | h,gs,[] => some (h,gs)
  | _,gs,(o,i) :: p => match gs[o]? with
    | some (.own b _ st _ rows) => match rows[i]? with
      | some r => locRow (some (b,i * st)) r p
      | none => none
    | _ => none
def GS.loc (s : GS) (p : Place) : Option (Option (Nat × Nat) × List GC) :=
  match s.root p.root with
  | some (b,gs) => locRow (b.map fun b => (b,0)) gs p.path
  | none => none
def GS.fp (s : GS) : Root → List Nat
  | .box k => match s.β k with | some (b,_,gs) => b :: blocksRow gs | none => []
  | .slot k => (s.γ k).blocks
def AllOk (N : Nm) (w : World) (S : Nat → Prop) (gs : List GC) : Prop := ∀ c ∈ gs,GC.ok N w S c
def GT.ok (N : Nm) (w : World) (S : Nat → Prop) (s : GS) : GT → Prop
  | .av v cv => VR N w S v cv
  | .own gs g => AllOk N w S gs ∧ (g = false → ∃ c,gs = [c])
  | .ali v none cv => VR N w (fun _ => True) v cv
  | .ali v (some p) cv => ∃ h r n g,s.loc p = some (h,r) ∧ p.off + n ≤ r.length ∧ (g = false → n = 1) ∧
      v = mkV g (sealRow (cellRow ((r.drop p.off).take n))) ∧ cv = cval g ((r.drop p.off).take n)
  | .plc p a => ∃ b base r,s.loc p = some (some (b,base),r) ∧ p.off ≤ r.length ∧ a = ⟨b,base + p.off,none⟩
  | .hd p l cv => ∃ b base r cap,s.loc p = some (some (b,base),r) ∧ cv = .slice (some ⟨b,0,none⟩) l cap
  | .tup l vs => l.length = vs.size ∧ ∀ (i : Nat) gs g,l[i]? = some (some (gs,g)) → vs[i]? = some (cval g gs) ∧ AllOk N w S gs ∧ (g = false → ∃ c,gs = [c])
  | .skp => True
  | .und _ => True
structure Frm (X : Nat → Prop) (w0 w : World) : Prop where
  os : w.os = w0.os
  tape : w.tape = w0.tape
  output : w.output = w0.output
  size : w0.heap.size ≤ w.heap.size
  block : ∀ b,b < w0.heap.size → ¬ X b → w.heap[b]? = w0.heap[b]?
structure Fx where
  w0 : World
  X : Nat → Prop
  S0 : Nat → Prop
  roots : List Nat
  pins : List Nat
  nt : Nat
def Fx.mine (F : Fx) (b : Nat) : Prop := F.w0.heap.size ≤ b ∨ F.X b
structure Inv (N : Nm) (F : Fx) (S : Nat → Prop) (s : GS) (w : World) : Prop where
  slot : ∀ k,(s.γ k).ok N w S s
  box : ∀ k b e gs,s.β k = some (b,e,gs) → w.heap[b]? = some (.cells (gs.map GC.val).toArray e (0,0)) ∧ AllOk N w S gs
  nodup : ∀ r,(s.fp r).Nodup
  apart : ∀ r r' x,x ∈ s.fp r → x ∈ s.fp r' → r = r'
  mine : ∀ r x,x ∈ s.fp r → ¬ S x ∧ F.mine x
  immB : ∀ x,S x → x < w.heap.size ∧ (F.S0 x ∨ F.mine x)
  frm : Frm F.X F.w0 w
  rooted : ∀ k p,(s.γ k).place? = some p → ∀ n,p.root = .slot n → n ∈ F.roots
  glob : ∀ x ∈ N.g,VR N w S x.1 x.2
theorem Inv.imm {N : Nm} {F : Fx} {S : Nat → Prop} {s : GS} {w : World} (I : Inv N F S s w) : ∀ x,S x → x < w.heap.size := fun x h => (I.immB x h).1
structure Free (F : Fx) (S : Nat → Prop) (s : GS) (l : List Nat) : Prop where
  nodup : l.Nodup
  free : ∀ x ∈ l,∀ r,x ∉ s.fp r
  mine : ∀ x ∈ l,¬ S x ∧ F.mine x
theorem Free.nil {F : Fx} {S : Nat → Prop} {s : GS} : Free F S s [] := ⟨List.nodup_nil,by simp,by simp⟩
@[simp] theorem upd_same {α : Type} (f : Nat → α) (k : Nat) (v : α) : upd f k v k = v := by simp [upd]
theorem upd_ne {α : Type} (f : Nat → α) {k j : Nat} (v : α) (h : j ≠ k) : upd f k v j = f j := by simp [upd,h]
def GS.put (s : GS) (k : Nat) (g : GT) : GS := ⟨upd s.γ k g,s.β⟩
theorem GS.put_γ (s : GS) (k : Nat) (g : GT) : (s.put k g).γ k = g := by simp [GS.put]
theorem GS.put_γ_ne (s : GS) {k j : Nat} (g : GT) (h : j ≠ k) : (s.put k g).γ j = s.γ j := upd_ne _ _ h
theorem GS.root_put_slot (s : GS) {k n : Nat} (g : GT) (h : n ≠ k) : (s.put k g).root (.slot n) = s.root (.slot n) := by
  simp only [GS.root,GS.put_γ_ne s g h]
theorem GS.root_put (s : GS) {k : Nat} (g : GT) {r : Root} (h : r ≠ .slot k) : (s.put k g).root r = s.root r := by
  cases r with
  | box n => rfl
  | slot n => exact s.root_put_slot g (fun e => h (by rw [e]))
theorem GS.loc_put (s : GS) {k : Nat} (g : GT) {p : Place} (h : p.root ≠ .slot k) : (s.put k g).loc p = s.loc p := by
  simp only [GS.loc,s.root_put g h]
theorem GS.fp_put_ne (s : GS) {k : Nat} (g : GT) {r : Root} (h : r ≠ .slot k) : (s.put k g).fp r = s.fp r := by
  cases r with
  | box n => rfl
  | slot n =>
    have hn : n ≠ k := fun e => h (by rw [e])
    simp only [GS.fp,GS.put_γ_ne s g hn]
theorem GS.fp_put (s : GS) (k : Nat) (g : GT) : (s.put k g).fp (.slot k) = g.blocks := by simp [GS.fp,GS.put]
theorem GT.ok_of_loc {N : Nm} {w : World} {S : Nat → Prop} {s s' : GS} {t : GT} (h : t.ok N w S s) (hl : ∀ p,t.place? = some p → s'.loc p = s.loc p) : t.ok N w S s' := by
  cases t with
  | ali v p cv =>
    cases p with
    | none => exact h
    | some p =>
      obtain ⟨h',r,n,g,h1,h2⟩ := h
      exact ⟨h',r,n,g,by rw [hl p rfl]; exact h1,h2⟩
  | plc p a =>
    obtain ⟨b,base,r,h1,h2⟩ := h
    exact ⟨b,base,r,by rw [hl p rfl]; exact h1,h2⟩
  | hd p l cv =>
    obtain ⟨b,base,r,cap,h1,h2⟩ := h
    exact ⟨b,base,r,cap,by rw [hl p rfl]; exact h1,h2⟩
  | _ => exact h
theorem Inv.put {N : Nm} {F : Fx} {S : Nat → Prop} {s : GS} {w : World} (I : Inv N F S s w) {k : Nat} {g : GT} (hok : g.ok N w S s)
    (hn : g.blocks.Nodup) (hf : ∀ x ∈ g.blocks,∀ r,r ≠ .slot k → x ∉ s.fp r) (hm : ∀ x ∈ g.blocks,¬ S x ∧ F.mine x)
    (hg : ∀ p,g.place? = some p → p.root ≠ .slot k ∧ ∀ n,p.root = .slot n → n ∈ F.roots)
    (hr : ∀ j p,j ≠ k → (s.γ j).place? = some p → p.root ≠ .slot k) : Inv N F S (s.put k g) w where
  slot j := by
    by_cases h : j = k
    · subst h; rw [s.put_γ]; exact GT.ok_of_loc hok fun p hp => s.loc_put g (hg p hp).1
    · rw [s.put_γ_ne g h]; exact GT.ok_of_loc (I.slot j) fun p hp => s.loc_put g (hr j p h hp)
  box := I.box
  nodup r := by
    by_cases h : r = .slot k
    · subst h; rw [s.fp_put]; exact hn
    · rw [s.fp_put_ne g h]; exact I.nodup r
  apart r r' x hx hx' := by
    by_cases h : r = .slot k
    · subst h
      rw [s.fp_put] at hx
      by_cases h' : r' = .slot k
      · exact h'.symm
      · rw [s.fp_put_ne g h'] at hx'; exact absurd hx' (hf x hx r' h')
    · rw [s.fp_put_ne g h] at hx
      by_cases h' : r' = .slot k
      · subst h'; rw [s.fp_put] at hx'; exact absurd hx (hf x hx' r h)
      · rw [s.fp_put_ne g h'] at hx'; exact I.apart r r' x hx hx'
  mine r x hx := by
    by_cases h : r = .slot k
    · subst h; rw [s.fp_put] at hx; exact hm x hx
    · rw [s.fp_put_ne g h] at hx; exact I.mine r x hx
  immB := I.immB
  frm := I.frm
  glob := I.glob
  rooted j p hp n hn := by
    by_cases h : j = k
    · subst h; rw [s.put_γ] at hp; exact (hg p hp).2 n hn
    · rw [s.put_γ_ne g h] at hp; exact I.rooted j p hp n hn
theorem Inv.put_plain {N : Nm} {F : Fx} {S : Nat → Prop} {s : GS} {w : World} (I : Inv N F S s w) {k : Nat} {g : GT} (hok : g.ok N w S s) (hb : g.blocks = [])
    (hg : ∀ p,g.place? = some p → ∀ n,p.root = .slot n → n ∈ F.roots) (hk : k ∉ F.roots) : Inv N F S (s.put k g) w :=
  I.put hok (by simp [hb]) (by simp [hb]) (by simp [hb]) (fun p hp => ⟨fun e => hk (hg p hp k e),hg p hp⟩)
    (fun j p _ hp e => hk (I.rooted j p hp k e))
theorem Inv.drop {N : Nm} {F : Fx} {S : Nat → Prop} {s : GS} {w : World} (I : Inv N F S s w) (k : Nat) (cv : Value)
    (hr : ∀ j p,j ≠ k → (s.γ j).place? = some p → p.root ≠ .slot k) : Inv N F S (s.put k (.und cv)) w ∧ Free F S (s.put k (.und cv)) (s.γ k).blocks := by
  have I' : Inv N F S (s.put k (.und cv)) w := I.put trivial (by simp [GT.blocks]) (by simp [GT.blocks]) (by simp [GT.blocks]) (by simp [GT.place?]) hr
  refine ⟨I',⟨I.nodup (.slot k),fun x hx r hx' => ?_,fun x hx => I.mine (.slot k) x hx⟩⟩
  by_cases h : r = .slot k
  · subst h; rw [s.fp_put] at hx'; simp [GT.blocks] at hx'
  · rw [s.fp_put_ne _ h] at hx'
    exact h (I.apart r (.slot k) x hx' hx)
/-! ### Cells at a place -/
theorem cellRow_get (l : List GC) (j : Nat) : (cellRow l)[j]? = (l[j]?).map GC.cell := by simp [cellRow_eq]
theorem cellRows_get (l : List (List GC)) (j : Nat) : (cellRows l)[j]? = (l[j]?).map cellRow := by simp [cellRows_eq]
theorem cellRow_length (l : List GC) : (cellRow l).length = l.length := by simp [cellRow_eq]
theorem getRow_loc : ∀ (path : List (Nat × Nat)) (gs : List GC) (h : Option (Nat × Nat)) (r : List Cell),getRow (cellRow gs) path = some r →
    ∃ h' r',locRow h gs path = some (h',r') ∧ r = cellRow r'
  | [],gs,h,r,e => by
    simp only [getRow,Option.some.injEq] at e
    exact ⟨h,gs,rfl,e.symm⟩
  | (o,i) :: p,gs,h,r,e => by
    simp only [getRow,cellRow_get] at e
    cases hc : gs[o]? with
    | none => simp [hc] at e
    | some c =>
      cases c with
      | own b cap st e' rows =>
        simp only [hc,Option.map_some,GC.cell,cellRows_get] at e
        cases hi : rows[i]? with
        | none => simp [hi] at e
        | some r0 =>
          simp only [hi,Option.map_some] at e
          obtain ⟨h',r',h1,h2⟩ := getRow_loc p r0 (some (b,i * st)) r e
          exact ⟨h',r',by simp [locRow,hc,hi,h1],h2⟩
      | nil st =>
        simp only [hc,Option.map_some,GC.cell] at e
        simp at e
      | av v cv => simp [hc,GC.cell] at e
      | dead cv => simp [hc,GC.cell] at e
theorem locRow_mem {N : Nm} {w : World} {S : Nat → Prop} : ∀ (path : List (Nat × Nat)) (gs : List GC) (h : Option (Nat × Nat)) (b base : Nat) (r : List GC),
    AllOk N w S gs → locRow h gs path = some (some (b,base),r) → path ≠ [] →
    AllOk N w S r ∧ (∃ cur e,w.heap[b]? = some (.cells cur e (0,0)) ∧ base + r.length ≤ cur.size ∧ ∀ j c,r[j]? = some c → cur[base + j]? = some c.val) ∧ b ∈ blocksRow gs
  | [],_,_,_,_,_,_,_,hne => absurd rfl hne
  | (o,i) :: p,gs,h,b,base,r,hok,e,_ => by
    simp only [locRow] at e
    cases hc : gs[o]? with
    | none => simp [hc] at e
    | some c =>
      cases c with
      | own b1 cap st e' rows =>
        simp only [hc] at e
        cases hi : rows[i]? with
        | none => simp [hi] at e
        | some r0 =>
          simp only [hi] at e
          have hco := hok _ (List.mem_of_getElem? hc)
          cases hco with
          | own b cap st e rows cur hst hl hcap hr hb hs hcur hok' =>
            have hok0 : AllOk N w S r0 := fun c hc => by
              obtain ⟨j,hj⟩ := List.mem_iff_getElem?.1 hc
              exact hok' i r0 j c hi hj
            cases p with
            | nil =>
              simp only [locRow,Option.some.injEq,Prod.mk.injEq] at e
              obtain ⟨⟨rfl,rfl⟩,rfl⟩ := e
              refine ⟨hok0,⟨cur,e',hb,?_,fun j c hj => hcur i r0 j c hi hj⟩,?_⟩
              · rw [hs,hr i r0 hi]
                have : i < rows.length := (List.getElem?_eq_some_iff.1 hi).1
                calc i * st + st = (i + 1) * st := by rw [Nat.add_mul]; simp
                  _ ≤ cap * st := Nat.mul_le_mul_right _ (by omega)
              · exact mem_blocksRow hc (by simp [GC.blocks])
            | cons q p =>
              obtain ⟨h1,h2,h3⟩ := locRow_mem (q :: p) r0 _ _ _ r hok0 e (by simp)
              refine ⟨h1,h2,mem_blocksRow hc ?_⟩
              simp only [GC.blocks,List.mem_cons]
              exact .inr (mem_blocksRows hi h3)
      | nil st => simp [hc] at e
      | av v cv => simp [hc] at e
      | dead cv => simp [hc] at e
theorem Inv.loc_mem {N : Nm} {F : Fx} {S : Nat → Prop} {s : GS} {w : World} (I : Inv N F S s w) {p : Place} {b base : Nat} {r : List GC}
    (h : s.loc p = some (some (b,base),r)) :
    AllOk N w S r ∧ (∃ cur e,w.heap[b]? = some (.cells cur e (0,0)) ∧ base + r.length ≤ cur.size ∧ ∀ j c,r[j]? = some c → cur[base + j]? = some c.val) ∧ b ∈ s.fp p.root := by
  unfold GS.loc at h
  cases hr : s.root p.root with
  | none => simp [hr] at h
  | some x =>
    obtain ⟨ob,gs⟩ := x
    simp only [hr] at h
    cases hroot : p.root with
    | box k =>
      rw [hroot] at hr
      simp only [GS.root] at hr
      cases hb : s.β k with
      | none => simp [hb] at hr
      | some y =>
        obtain ⟨b0,e0,gs0⟩ := y
        simp only [hb,Option.some.injEq,Prod.mk.injEq] at hr
        obtain ⟨rfl,rfl⟩ := hr
        obtain ⟨h1,h2⟩ := I.box k b0 e0 gs0 hb
        have hfp : s.fp (.box k) = b0 :: blocksRow gs0 := by simp [GS.fp,hb]
        by_cases hp : p.path = []
        · rw [hp] at h
          simp only [locRow,Option.map_some,Option.some.injEq,Prod.mk.injEq] at h
          obtain ⟨⟨rfl,rfl⟩,rfl⟩ := h
          refine ⟨h2,⟨_,e0,h1,by simp,fun j c hj => by simp [hj]⟩,?_⟩
          rw [hfp]; simp
        · obtain ⟨a1,a2,a3⟩ := locRow_mem p.path gs0 _ b base r h2 h hp
          exact ⟨a1,a2,by rw [hfp]; exact List.mem_cons_of_mem _ a3⟩
    | slot k =>
      rw [hroot] at hr
      simp only [GS.root] at hr
      have hsl := I.slot k
      cases hγ : s.γ k with
      | own gs0 g =>
        simp only [hγ,Option.some.injEq,Prod.mk.injEq] at hr
        obtain ⟨rfl,rfl⟩ := hr
        rw [hγ] at hsl
        by_cases hp : p.path = []
        · rw [hp] at h; simp [locRow] at h
        · obtain ⟨a1,a2,a3⟩ := locRow_mem p.path gs0 _ b base r hsl.1 h hp
          exact ⟨a1,a2,by simp only [GS.fp,hγ,GT.blocks]; exact a3⟩
      | _ => simp [hγ] at hr
end Hm
/- Writing at a place. Conditions: none (plain lemmas). -/
namespace Hm
open Go
theorem blocksRow_append (a b : List GC) : blocksRow (a ++ b) = blocksRow a ++ blocksRow b := by simp [blocksRow_eq]
theorem nodup_flatMap {α : Type} (f : α → List Nat) : ∀ (l : List α),(l.flatMap f).Nodup →
    (∀ (i : Nat) a,l[i]? = some a → (f a).Nodup) ∧ ∀ (i j : Nat) a b x,i ≠ j → l[i]? = some a → l[j]? = some b → x ∈ f a → x ∉ f b
  | [],_ => ⟨by simp,by simp⟩
  | c :: l,h => by
    rw [List.flatMap_cons,List.nodup_append] at h
    obtain ⟨h1,h2,h3⟩ := h
    obtain ⟨i1,i2⟩ := nodup_flatMap f l h2
    constructor
    · intro i a hi
      cases i with
      | zero => simp at hi; subst hi; exact h1
      | succ i => exact i1 i a (by simpa using hi)
    · intro i j a b x hij hi hj hx hx'
      cases i with
      | zero =>
        simp at hi; subst hi
        cases j with
        | zero => exact hij rfl
        | succ j =>
          simp at hj
          exact h3 x hx x (List.mem_flatMap.2 ⟨b,List.mem_of_getElem? hj,hx'⟩) rfl
      | succ i =>
        simp at hi
        cases j with
        | zero =>
          simp at hj; subst hj
          exact h3 x hx' x (List.mem_flatMap.2 ⟨a,List.mem_of_getElem? hi,hx⟩) rfl
        | succ j => exact i2 i j a b x (by omega) hi (by simpa using hj) hx hx'
def setRowG (off : Nat) (new : List GC) : List GC → List (Nat × Nat) → List GC
  | gs,[] => gs.take off ++ new ++ gs.drop (off + new.length)
  | gs,(o,i) :: p => match gs[o]? with
    | some (.own b cap st e rows) => match rows[i]? with
      | some r => gs.set o (.own b cap st e (rows.set i (setRowG off new r p)))
      | none => gs
    | _ => gs
theorem cellRow_append (a b : List GC) : cellRow (a ++ b) = cellRow a ++ cellRow b := by simp [cellRow_eq]
theorem cellRow_take (a : List GC) (n : Nat) : cellRow (a.take n) = (cellRow a).take n := by simp [cellRow_eq]
theorem cellRow_drop (a : List GC) (n : Nat) : cellRow (a.drop n) = (cellRow a).drop n := by simp [cellRow_eq]
theorem cellRow_set (a : List GC) (n : Nat) (c : GC) : cellRow (a.set n c) = (cellRow a).set n c.cell := by simp [cellRow_eq,List.map_set]
theorem cellRows_set (a : List (List GC)) (n : Nat) (c : List GC) : cellRows (a.set n c) = (cellRows a).set n (cellRow c) := by simp [cellRows_eq,List.map_set]
theorem setRow_G (off : Nat) (new : List GC) : ∀ (path : List (Nat × Nat)) (gs : List GC) (h0 : Option (Nat × Nat)) (cs' : List Cell),
    setRow (splice off (cellRow new)) (cellRow gs) path = some cs' →
    cs' = cellRow (setRowG off new gs path) ∧ ∃ h r,locRow h0 gs path = some (h,r) ∧ off + new.length ≤ r.length
  | [],gs,h0,cs',e => by
    simp only [setRow,splice,cellRow_length] at e
    split at e
    · rename_i hl
      simp only [Option.some.injEq] at e
      exact ⟨by rw [← e]; simp [setRowG,cellRow_append,cellRow_take,cellRow_drop],h0,gs,rfl,hl⟩
    · cases e
  | (o,i) :: p,gs,h0,cs',e => by
    simp only [setRow,cellRow_get] at e
    cases hc : gs[o]? with
    | none => simp [hc] at e
    | some c =>
      cases c with
      | own b cap st e' rows =>
        simp only [hc,Option.map_some,GC.cell,cellRows_get] at e
        cases hi : rows[i]? with
        | none => simp [hi] at e
        | some r0 =>
          simp only [hi,Option.map_some] at e
          cases hs : setRow (splice off (cellRow new)) (cellRow r0) p with
          | none => simp [hs] at e
          | some r' =>
            simp only [hs,Option.some.injEq] at e
            obtain ⟨h1,h,r,h2,h3⟩ := setRow_G off new p r0 (some (b,i * st)) r' hs
            refine ⟨?_,h,r,by simp [locRow,hc,hi,h2],h3⟩
            rw [← e,setRowG]
            simp only [hc,hi]
            rw [cellRow_set,GC.cell,cellRows_set,h1]
      | nil st => simp [hc,GC.cell] at e
      | av v cv => simp [hc,GC.cell] at e
      | dead cv => simp [hc,GC.cell] at e
theorem setRowG_length (off : Nat) (new : List GC) : ∀ (path : List (Nat × Nat)) (gs : List GC),(∀ h r,locRow h gs path = some r → off + new.length ≤ r.2.length) →
    (setRowG off new gs path).length = gs.length
  | [],gs,h => by
    have := h none (none,gs) rfl
    simp only [] at this
    simp only [setRowG,List.length_append,List.length_take,List.length_drop]
    omega
  | (o,i) :: p,gs,h => by
    simp only [setRowG]
    cases hc : gs[o]? with
    | none => rfl
    | some c => cases c with
      | own b cap st e rows =>
        simp only []
        cases hi : rows[i]? with
        | none => rfl
        | some r0 => simp
      | _ => rfl
theorem count_set (x : Nat) : ∀ (l : List GC) (o : Nat) (c c' : GC),l[o]? = some c →
    (blocksRow (l.set o c')).count x + c.blocks.count x = (blocksRow l).count x + c'.blocks.count x
  | [],o,c,c',h => by simp at h
  | a :: l,0,c,c',h => by
    simp at h; subst h
    simp only [List.set_cons_zero,blocksRow,List.count_append]; omega
  | a :: l,o + 1,c,c',h => by
    have := count_set x l o c c' (by simpa using h)
    simp only [List.set_cons_succ,blocksRow,List.count_append]; omega
theorem count_setRows (x : Nat) : ∀ (l : List (List GC)) (o : Nat) (c c' : List GC),l[o]? = some c →
    (blocksRows (l.set o c')).count x + (blocksRow c).count x = (blocksRows l).count x + (blocksRow c').count x
  | [],o,c,c',h => by simp at h
  | a :: l,0,c,c',h => by
    simp at h; subst h
    simp only [List.set_cons_zero,blocksRows,List.count_append]; omega
  | a :: l,o + 1,c,c',h => by
    have := count_setRows x l o c c' (by simpa using h)
    simp only [List.set_cons_succ,blocksRows,List.count_append]; omega
structure Wrote (w w' : World) (S : Nat → Prop) (gs : List GC) (b base off : Nat) (new : List GC) : Prop where
  block : ∃ cur cur' e,w.heap[b]? = some (.cells cur e (0,0)) ∧ w'.heap[b]? = some (.cells cur' e (0,0)) ∧ cur'.size = cur.size ∧
    (∀ j,j < base + off ∨ base + off + new.length ≤ j → cur'[j]? = cur[j]?) ∧ ∀ j c,new[j]? = some c → cur'[base + off + j]? = some c.val
  other : ∀ x,x ≠ b → x ∈ blocksRow gs ∨ S x → w'.heap[x]? = w.heap[x]?
  notS : ¬ S b
theorem map_set_same {α β : Type} (f : α → β) (l : List α) (i : Nat) (a a' : α) (h : l[i]? = some a) (e : f a' = f a) : (l.set i a').map f = l.map f := by
  apply List.ext_getElem?
  intro j
  simp only [List.getElem?_map,List.getElem?_set]
  by_cases hij : i = j
  · subst hij
    have hl := (List.getElem?_eq_some_iff.1 h).1
    have h' : l[i] = a := by rw [List.getElem?_eq_getElem hl] at h; exact Option.some.inj h
    simp [hl,h',e]
  · simp [hij]
theorem splice_get (off : Nat) (new gs : List GC) (hl : off + new.length ≤ gs.length) (j : Nat) :
    (gs.take off ++ new ++ gs.drop (off + new.length))[j]? = if j < off then gs[j]? else if j < off + new.length then new[j - off]? else gs[j]? := by
  rw [List.append_assoc]
  have h1 : (gs.take off).length = off := by simp; omega
  by_cases ha : j < off
  · rw [List.getElem?_append_left (by omega),if_pos ha,List.getElem?_take,if_pos ha]
  · rw [List.getElem?_append_right (by omega),if_neg ha,h1]
    by_cases hb : j < off + new.length
    · rw [if_pos hb,List.getElem?_append_left (by omega)]
    · rw [if_neg hb,List.getElem?_append_right (by omega),List.getElem?_drop]
      congr 1; omega
theorem write_ok {N : Nm} {w w' : World} {S : Nat → Prop} {off : Nat} {new : List GC} (hnew : AllOk N w' S new) :
    ∀ (path : List (Nat × Nat)) (gs : List GC) (h0 : Option (Nat × Nat)) (b base : Nat) (r : List GC),
    path ≠ [] → AllOk N w S gs → (blocksRow gs).Nodup → locRow h0 gs path = some (some (b,base),r) → off + new.length ≤ r.length →
    Wrote w w' S gs b base off new → AllOk N w' S (setRowG off new gs path) ∧ (setRowG off new gs path).map GC.val = gs.map GC.val
  | [],_,_,_,_,_,hne,_,_,_,_,_ => absurd rfl hne
  | (o,i) :: p,gs,h0,b,base,r,_,hok,hn,hloc,hl,W => by
    simp only [locRow] at hloc
    simp only [setRowG]
    cases hc : gs[o]? with
    | none => simp [hc] at hloc
    | some c =>
      cases c with
      | own b1 cap st e' rows =>
        simp only [hc] at hloc ⊢
        cases hi : rows[i]? with
        | none => simp [hi] at hloc
        | some r0 =>
          simp only [hi] at hloc ⊢
          rw [blocksRow_eq] at hn
          obtain ⟨n1,n2⟩ := nodup_flatMap GC.blocks gs hn
          have hn1 := n1 o _ hc
          simp only [GC.blocks,List.nodup_cons] at hn1
          obtain ⟨hb1,hn1⟩ := hn1
          have hn1' := hn1
          rw [blocksRows_eq] at hn1'
          obtain ⟨m1,m2⟩ := nodup_flatMap blocksRow rows hn1'
          have hrow := m1 i r0 hi
          -- the block that is written lies in this node
          have hbin : b = b1 ∨ b ∈ blocksRow r0 := by
            cases p with
            | nil => simp only [locRow,Option.some.injEq,Prod.mk.injEq] at hloc; exact .inl hloc.1.1.symm
            | cons q p =>
              have hok0 : AllOk N w S r0 := by
                have hco := hok _ (List.mem_of_getElem? hc)
                cases hco with
                | own _ _ _ _ _ cur hst hl hcap hr hb hs hcur hok' =>
                  intro c hc
                  obtain ⟨j,hj⟩ := List.mem_iff_getElem?.1 hc
                  exact hok' i r0 j c hi hj
              exact .inr (locRow_mem (q :: p) r0 _ b base r hok0 hloc (by simp)).2.2
          have hbnode : b ∈ (GC.own b1 cap st e' rows).blocks := by
            simp only [GC.blocks,List.mem_cons]
            rcases hbin with rfl | h
            · exact .inl rfl
            · exact .inr (mem_blocksRows hi h)
          have hS : ∀ x,S x → w'.heap[x]? = w.heap[x]? := fun x hx => W.other x (fun e => W.notS (e ▸ hx)) (.inr hx)
          have keep : ∀ (c : GC),GC.ok N w S c → (∀ x ∈ c.blocks,x ≠ b ∧ x ∈ blocksRow gs) → GC.ok N w' S c := fun c h hx =>
            h.mono hS (fun _ h => h) fun x hxx => W.other x (hx x hxx).1 (.inl (hx x hxx).2)
          have hco := hok _ (List.mem_of_getElem? hc)
          cases hco with
          | own _ _ _ _ _ cur hst hlc hcap hr hb hs hcur hok' =>
            have hnodeok : GC.ok N w' S (.own b1 cap st e' (rows.set i (setRowG off new r0 p))) := by
              cases p with
              | nil =>
                simp only [locRow,Option.some.injEq,Prod.mk.injEq] at hloc
                obtain ⟨⟨rfl,rfl⟩,rfl⟩ := hloc
                obtain ⟨cur0,cur',e0,hw,hw',hsz,hout,hin⟩ := W.block
                rw [hb] at hw
                simp only [Option.some.injEq,Obj.cells.injEq] at hw
                obtain ⟨rfl,rfl,_⟩ := hw
                have hr0 := hr i r0 hi
                refine .own b1 cap st e' _ cur' hst (by simpa using hlc) hcap ?_ hw' (by rw [hsz,hs]) ?_ ?_
                · intro i' r' h'
                  rw [List.getElem?_set] at h'
                  split at h'
                  · split at h'
                    · simp only [Option.some.injEq] at h'
                      rw [← h']; simp only [setRowG,List.length_append,List.length_take,List.length_drop]; omega
                    · cases h'
                  · exact hr i' r' h'
                · intro i' r' j c h' hj
                  rw [List.getElem?_set] at h'
                  split at h'
                  · rename_i hii
                    subst hii
                    split at h'
                    · simp only [Option.some.injEq] at h'
                      subst h'
                      simp only [setRowG] at hj
                      rw [splice_get off new r0 hl] at hj
                      split at hj
                      · rw [hout _ (.inl (by omega))]; exact hcur i r0 j c hi hj
                      · split at hj
                        · have := hin (j - off) c hj
                          rw [← this]; congr 1; omega
                        · rw [hout _ (.inr (by omega))]; exact hcur i r0 j c hi hj
                    · cases h'
                  · rename_i hii
                    have hjl : j < st := by rw [← hr i' r' h']; exact (List.getElem?_eq_some_iff.1 hj).1
                    have hne : i' * st + j < i * st + off ∨ i * st + off + new.length ≤ i' * st + j := by
                      rcases Nat.lt_or_ge i' i with h | h
                      · left
                        have : (i' + 1) * st ≤ i * st := Nat.mul_le_mul_right _ (by omega)
                        rw [Nat.add_mul] at this; omega
                      · right
                        have : (i + 1) * st ≤ i' * st := Nat.mul_le_mul_right _ (by omega)
                        rw [Nat.add_mul] at this; omega
                    rw [hout _ hne]
                    exact hcur i' r' j c h' hj
                · intro i' r' j c h' hj
                  rw [List.getElem?_set] at h'
                  have old : ∀ (i' : Nat) (r' : List GC) (j : Nat) (c : GC),rows[i']? = some r' → r'[j]? = some c → GC.ok N w' S c := fun i' r' j c h' hj =>
                    keep c (hok' i' r' j c h' hj) fun x hx => ⟨fun e => hb1 (e ▸ mem_blocksRows h' (mem_blocksRow hj hx)),
                      mem_blocksRow hc (by simp only [GC.blocks,List.mem_cons]; exact .inr (mem_blocksRows h' (mem_blocksRow hj hx)))⟩
                  split at h'
                  · split at h'
                    · simp only [Option.some.injEq] at h'
                      subst h'
                      simp only [setRowG] at hj
                      rw [splice_get off new r0 hl] at hj
                      split at hj
                      · exact old i r0 j c hi hj
                      · split at hj
                        · exact hnew c (List.mem_of_getElem? hj)
                        · exact old i r0 j c hi hj
                    · cases h'
                  · exact old i' r' j c h' hj
              | cons q p =>
                have hbr : b ∈ blocksRow r0 := by
                  have hok0 : AllOk N w S r0 := fun c hc => by
                    obtain ⟨j,hj⟩ := List.mem_iff_getElem?.1 hc
                    exact hok' i r0 j c hi hj
                  exact (locRow_mem (q :: p) r0 _ b base r hok0 hloc (by simp)).2.2
                have hok0 : AllOk N w S r0 := fun c hc => by
                  obtain ⟨j,hj⟩ := List.mem_iff_getElem?.1 hc
                  exact hok' i r0 j c hi hj
                have hsub : ∀ x ∈ blocksRow r0,x ∈ blocksRow gs := fun x hx => mem_blocksRow hc (by
                  simp only [GC.blocks,List.mem_cons]; exact .inr (mem_blocksRows hi hx))
                have ih := write_ok hnew (q :: p) r0 _ b base r (by simp) hok0 hrow hloc hl
                  ⟨W.block,fun x hx h => W.other x hx (h.imp (hsub x) id),W.notS⟩
                have hb1b : b1 ≠ b := fun e => hb1 (e ▸ mem_blocksRows hi hbr)
                have hlen : (setRowG off new r0 (q :: p)).length = r0.length := by
                  have := congrArg List.length ih.2
                  simpa using this
                have hvals : ∀ (j : Nat) (c : GC),(setRowG off new r0 (q :: p))[j]? = some c → ∃ c0 : GC,r0[j]? = some c0 ∧ c0.val = c.val := by
                  intro j c hj
                  have h := congrArg (·[j]?) ih.2
                  simp only [List.getElem?_map,hj,Option.map_some] at h
                  cases h0 : r0[j]? with
                  | none => simp [h0] at h
                  | some c0 => simp [h0] at h; exact ⟨c0,rfl,h.symm⟩
                have hb' : w'.heap[b1]? = some (.cells cur e' (0,0)) := by
                  rw [W.other b1 hb1b (.inl (mem_blocksRow hc (by simp [GC.blocks])))]; exact hb
                refine .own b1 cap st e' _ cur hst (by simpa using hlc) hcap ?_ hb' hs ?_ ?_
                · intro i' r' h'
                  rw [List.getElem?_set] at h'
                  split at h'
                  · split at h'
                    · simp only [Option.some.injEq] at h'
                      rw [← h',hlen]; exact hr i r0 hi
                    · cases h'
                  · exact hr i' r' h'
                · intro i' r' j c h' hj
                  rw [List.getElem?_set] at h'
                  split at h'
                  · rename_i hii
                    subst hii
                    split at h'
                    · simp only [Option.some.injEq] at h'
                      subst h'
                      obtain ⟨c0,h0,h1⟩ := hvals j c hj
                      rw [← h1]; exact hcur i r0 j c0 hi h0
                    · cases h'
                  · exact hcur i' r' j c h' hj
                · intro i' r' j c h' hj
                  rw [List.getElem?_set] at h'
                  split at h'
                  · split at h'
                    · simp only [Option.some.injEq] at h'
                      subst h'
                      exact ih.1 c (List.mem_of_getElem? hj)
                    · cases h'
                  · rename_i hii
                    exact keep c (hok' i' r' j c h' hj) fun x hx => ⟨fun e => m2 i i' r0 r' x hii hi h' (e ▸ hbr) (mem_blocksRow hj hx),
                      mem_blocksRow hc (by simp only [GC.blocks,List.mem_cons]; exact .inr (mem_blocksRows h' (mem_blocksRow hj hx)))⟩
            constructor
            · intro c hcm
              obtain ⟨j,hj⟩ := List.mem_iff_getElem?.1 hcm
              rw [List.getElem?_set] at hj
              split at hj
              · split at hj
                · simp only [Option.some.injEq] at hj
                  rw [← hj]; exact hnodeok
                · cases hj
              · rename_i hoj
                exact keep c (hok c (List.mem_of_getElem? hj)) fun x hx => ⟨fun e => n2 o j _ _ x hoj hc hj (e ▸ hbnode) hx,mem_blocksRow hj hx⟩
            · exact map_set_same GC.val gs o _ _ hc (by simp [GC.val])
      | nil st => simp [hc] at hloc
      | av v cv => simp [hc] at hloc
      | dead cv => simp [hc] at hloc
end Hm
/- Writing at a place: the whole state. Conditions: none (plain lemmas). -/
namespace Hm
open Go
theorem count_splice_eq (x off : Nat) (new gs : List GC) (hl : off + new.length ≤ gs.length) :
    (blocksRow (gs.take off ++ new ++ gs.drop (off + new.length))).count x + (blocksRow ((gs.drop off).take new.length)).count x =
      (blocksRow gs).count x + (blocksRow new).count x := by
  have h1 : (blocksRow gs).count x = (blocksRow (gs.take off)).count x + (blocksRow (gs.drop off)).count x := by
    rw [← List.count_append,← blocksRow_append,List.take_append_drop]
  have h2 : (blocksRow (gs.drop off)).count x = (blocksRow ((gs.drop off).take new.length)).count x + (blocksRow (gs.drop (off + new.length))).count x := by
    rw [← List.count_append,← blocksRow_append,← List.drop_drop,List.take_append_drop]
  simp only [blocksRow_append,List.count_append]
  omega
theorem count_setRowG_eq (x off : Nat) (new : List GC) : ∀ (path : List (Nat × Nat)) (gs : List GC) (h0 h : Option (Nat × Nat)) (r : List GC),
    locRow h0 gs path = some (h,r) → off + new.length ≤ r.length →
    (blocksRow (setRowG off new gs path)).count x + (blocksRow ((r.drop off).take new.length)).count x = (blocksRow gs).count x + (blocksRow new).count x
  | [],gs,h0,h,r,e,hl => by
    simp only [locRow,Option.some.injEq,Prod.mk.injEq] at e
    obtain ⟨_,rfl⟩ := e
    exact count_splice_eq x off new gs hl
  | (o,i) :: p,gs,h0,h,r,e,hl => by
    simp only [locRow] at e
    simp only [setRowG]
    cases hc : gs[o]? with
    | none => simp [hc] at e
    | some c => cases c with
      | own b cap st e' rows =>
        simp only [hc] at e ⊢
        cases hi : rows[i]? with
        | none => simp [hi] at e
        | some r0 =>
          simp only [hi] at e ⊢
          have h1 := count_set x gs o _ (.own b cap st e' (rows.set i (setRowG off new r0 p))) hc
          have h2 := count_setRows x rows i r0 (setRowG off new r0 p) hi
          have h3 := count_setRowG_eq x off new p r0 _ h r e hl
          simp only [GC.blocks,List.count_cons] at h1
          omega
      | nil st => simp [hc] at e
      | av v cv => simp [hc] at e
      | dead cv => simp [hc] at e
def clrG (p : Place) (n : Nat) : GT → GT
  | .ali v (some q) cv => if q.root = p.root then .und cv else .ali v (some q) cv
  | .ali _ none cv => .und cv
  | .plc q a => if q.root = p.root ∧ TV.clr.hits p n (q.path.map (·.1)) (p.path.map (·.1)) then .und (.pointer (some a)) else .plc q a
  | .hd q l a => if q.root = p.root ∧ TV.clr.hits p n (q.path.map (·.1)) (p.path.map (·.1)) then .und a else .hd q l a
  | t => t
theorem clrG_tv (p : Place) (n : Nat) (t : GT) : (clrG p n t).tv = t.tv.clr p n := by
  cases t with
  | ali v q cv =>
    cases q with
    | none => rfl
    | some q => by_cases h : q.root = p.root <;> simp [clrG,GT.tv,TV.clr,h]
  | plc q a =>
    by_cases h : q.root = p.root ∧ TV.clr.hits p n (q.path.map (·.1)) (p.path.map (·.1)) = true
    · simp only [clrG,TV.clr]; rw [if_pos h]; simp only [GT.tv,TV.clr]; rw [if_pos h]
    · simp only [clrG,TV.clr]; rw [if_neg h]; simp only [GT.tv,TV.clr]; rw [if_neg h]
  | hd q l a =>
    by_cases h : q.root = p.root ∧ TV.clr.hits p n (q.path.map (·.1)) (p.path.map (·.1)) = true
    · simp only [clrG,TV.clr]; rw [if_pos h]; simp only [GT.tv,TV.clr]; rw [if_pos h]
    · simp only [clrG,TV.clr]; rw [if_neg h]; simp only [GT.tv,TV.clr]; rw [if_neg h]
  | _ => rfl
theorem clrG_val (p : Place) (n : Nat) (t : GT) : (clrG p n t).val = t.val := by
  cases t with
  | ali v q cv =>
    cases q with
    | none => rfl
    | some q => simp only [clrG]; split <;> rfl
  | plc q a => simp only [clrG]; split <;> rfl
  | hd q l a => simp only [clrG]; split <;> rfl
  | _ => rfl
theorem clrG_blocks (p : Place) (n : Nat) (t : GT) : (clrG p n t).blocks = t.blocks := by
  cases t with
  | ali v q cv =>
    cases q with
    | none => rfl
    | some q => simp only [clrG]; split <;> rfl
  | plc q a => simp only [clrG]; split <;> rfl
  | hd q l a => simp only [clrG]; split <;> rfl
  | _ => rfl
theorem clrG_place (p : Place) (n : Nat) (t : GT) (q : Place) (h : (clrG p n t).place? = some q) :
    t.place? = some q ∧ clrG p n t = t ∧ (q.root ≠ p.root ∨ TV.clr.hits p n (q.path.map (·.1)) (p.path.map (·.1)) = false) := by
  cases t with
  | ali v q' cv =>
    cases q' with
    | none => simp [clrG,GT.place?] at h
    | some q' =>
      simp only [clrG] at h ⊢
      split at h
      · simp [GT.place?] at h
      · rename_i hne
        simp only [GT.place?,Option.some.injEq] at h
        subst h
        exact ⟨rfl,by rw [if_neg hne],.inl hne⟩
  | plc q' a =>
    simp only [clrG] at h ⊢
    split at h
    · simp [GT.place?] at h
    · rename_i hne
      simp only [GT.place?,Option.some.injEq] at h
      subst h
      refine ⟨rfl,by rw [if_neg hne],?_⟩
      by_cases hr : q'.root = p.root
      · refine .inr ?_
        simp only [not_and,hr,true_implies] at hne
        simpa using hne
      · exact .inl hr
  | hd q' l a =>
    simp only [clrG] at h ⊢
    split at h
    · simp [GT.place?] at h
    · rename_i hne
      simp only [GT.place?,Option.some.injEq] at h
      subst h
      refine ⟨rfl,by rw [if_neg hne],?_⟩
      by_cases hr : q'.root = p.root
      · refine .inr ?_
        simp only [not_and,hr,true_implies] at hne
        simpa using hne
      · exact .inl hr
  | _ => simp [clrG,GT.place?] at h
def GS.clr (s : GS) (p : Place) (n : Nat) : GS := ⟨fun k => clrG p n (s.γ k),s.β⟩
def GS.write (s : GS) (p : Place) (new : List GC) : GS :=
  match p.root with
  | .box k => match s.β k with
    | some (b,e,gs) => ⟨(s.clr p new.length).γ,upd s.β k (some (b,e,setRowG p.off new gs p.path))⟩
    | none => s.clr p new.length
  | .slot k => match s.γ k with
    | .own gs g => ⟨upd (s.clr p new.length).γ k (.own (setRowG p.off new gs p.path) g),s.β⟩
    | _ => s.clr p new.length
structure Er (s : GS) (st : St) : Prop where
  env : ∀ k,(s.γ k).tv = getE st.env k
  box : ∀ k,(match s.β k with | some (_,_,gs) => some (cellRow gs) | none => none) = getB st.boxes k
theorem getE_clrE (p : Place) (n : Nat) (env : Nat → TV) (k : Nat) : getE (clrE p n env) k = (getE env k).clr p n := rfl
theorem Er.root {s : GS} {st : St} (E : Er s st) (r : Root) : st.root r = (s.root r).map fun x => cellRow x.2 := by
  cases r with
  | box k =>
    simp only [St.root,GS.root,← E.box k]
    cases s.β k with
    | none => rfl
    | some x => rfl
  | slot k =>
    simp only [St.root,GS.root,← E.env k]
    cases s.γ k <;> rfl
theorem Er.write {s : GS} {st st' : St} (E : Er s st) {p : Place} {new : List GC} (h : st.write p (cellRow new) = some st') :
    Er (s.write p new) st' ∧ ∃ h r,s.loc p = some (h,r) ∧ p.off + new.length ≤ r.length := by
  unfold St.write at h
  rw [E.root] at h
  cases hr : s.root p.root with
  | none => simp [hr] at h
  | some x =>
    obtain ⟨ob,gs⟩ := x
    simp only [hr,Option.map_some] at h
    cases hs : setRow (splice p.off (cellRow new)) (cellRow gs) p.path with
    | none => simp [hs] at h
    | some cs' =>
      simp only [hs,Option.some.injEq] at h
      obtain ⟨h1,h',r,h2,h3⟩ := setRow_G p.off new p.path gs (ob.map fun b => (b,0)) cs' hs
      refine ⟨?_,h',r,by simp only [GS.loc,hr]; exact h2,h3⟩
      subst h
      cases hroot : p.root with
      | box k =>
        rw [hroot] at hr
        simp only [GS.root] at hr
        cases hb : s.β k with
        | none => simp [hb] at hr
        | some y =>
          obtain ⟨b0,e0,gs0⟩ := y
          simp only [hb,Option.some.injEq,Prod.mk.injEq] at hr
          obtain ⟨rfl,rfl⟩ := hr
          simp only [GS.write,hroot,hb,St.setRoot,cellRow_length]
          constructor
          · intro j
            simp only [GS.clr,clrG_tv,E.env j]; rfl
          · intro j
            simp only [getB,upd]
            by_cases hj : j = k
            · subst hj; simp [h1]
            · have : ¬ k = j := fun e => hj e.symm
              simp only [hj,this,if_false]
              exact E.box j
      | slot k =>
        rw [hroot] at hr
        simp only [GS.root] at hr
        cases hγ : s.γ k with
        | own gs0 g =>
          simp only [hγ,Option.some.injEq,Prod.mk.injEq] at hr
          obtain ⟨rfl,rfl⟩ := hr
          have he : getE (clrE p (cellRow new).length st.env) k = .own (cellRow gs0) g := by
            rw [getE_clrE,← E.env k,hγ]; rfl
          simp only [GS.write,hroot,hγ,St.setRoot,cellRow_length] at he ⊢
          rw [he]
          constructor
          · intro j
            simp only [getE,upd]
            by_cases hj : j = k
            · subst hj; simp [h1,GT.tv]
            · have : ¬ k = j := fun e => hj e.symm
              simp only [hj,if_false,GS.clr,clrG_tv,E.env j]; rfl
          · exact E.box
        | _ => simp [hγ] at hr
theorem loc_setRowG (p : Place) (new : List GC) : ∀ (pp qp : List (Nat × Nat)) (gs : List GC) (h0 h : Option (Nat × Nat)) (r : List GC) (hp : Option (Nat × Nat)) (rp : List GC),
    TV.clr.hits p new.length (qp.map (·.1)) (pp.map (·.1)) = false → locRow h0 gs pp = some (hp,rp) → p.off + new.length ≤ rp.length → locRow h0 gs qp = some (h,r) →
    ∃ r',locRow h0 (setRowG p.off new gs pp) qp = some (h,r') ∧ r'.length = r.length
  | [],[],gs,h0,h,r,hp,rp,_,e,hl,eq => by
    simp only [locRow,Option.some.injEq,Prod.mk.injEq] at e eq
    obtain ⟨_,rfl⟩ := e
    obtain ⟨rfl,rfl⟩ := eq
    refine ⟨_,rfl,?_⟩
    simp only [setRowG,List.length_append,List.length_take,List.length_drop]; omega
  | [],(o,i) :: q,gs,h0,h,r,hp,rp,hh,e,hl,eq => by
    simp only [locRow,Option.some.injEq,Prod.mk.injEq] at e
    obtain ⟨_,rfl⟩ := e
    simp only [List.map_cons,List.map_nil,TV.clr.hits,decide_eq_false_iff_not,not_and,Nat.not_lt] at hh
    simp only [locRow] at eq ⊢
    have hget : (setRowG p.off new gs [])[o]? = gs[o]? := by
      simp only [setRowG]
      rw [splice_get p.off new gs hl]
      by_cases h1 : o < p.off
      · rw [if_pos h1]
      · rw [if_neg h1,if_neg (by have := hh (by omega); omega)]
    rw [hget]
    exact ⟨r,eq,rfl⟩
  | (o,i) :: pp,[],gs,h0,h,r,hp,rp,_,e,hl,eq => by
    simp only [locRow,Option.some.injEq,Prod.mk.injEq] at eq
    obtain ⟨rfl,rfl⟩ := eq
    refine ⟨_,rfl,?_⟩
    simp only [setRowG]
    cases gs[o]? with
    | none => rfl
    | some c => cases c with
      | own b cap st e' rows =>
        simp only []
        cases rows[i]? <;> simp
      | _ => rfl
  | (o,i) :: pp,(o2,i2) :: qp,gs,h0,h,r,hp,rp,hh,e,hl,eq => by
    simp only [locRow] at e eq
    cases hc : gs[o]? with
    | none => simp [hc] at e
    | some c =>
      cases c with
      | own b cap st e' rows =>
        simp only [hc] at e
        cases hi : rows[i]? with
        | none => simp [hi] at e
        | some r0 =>
          simp only [hi] at e
          simp only [setRowG,hc,hi,locRow]
          by_cases ho : o2 = o
          · subst ho
            simp only [hc] at eq
            have hlt := (List.getElem?_eq_some_iff.1 hc).1
            simp only [List.getElem?_set,if_true,hlt]
            by_cases hii : i2 = i
            · subst hii
              have hlt2 := (List.getElem?_eq_some_iff.1 hi).1
              simp only [hi] at eq
              simp only [List.getElem?_set,if_true,hlt2]
              simp only [List.map_cons,TV.clr.hits,decide_true,Bool.true_and] at hh
              exact loc_setRowG p new pp qp r0 _ h r hp rp hh e hl eq
            · have : ¬ i = i2 := fun e => hii e.symm
              simp only [List.getElem?_set,this,if_false]
              exact ⟨r,eq,rfl⟩
          · have : ¬ o = o2 := fun e => ho e.symm
            simp only [List.getElem?_set,this,if_false]
            exact ⟨r,eq,rfl⟩
      | nil st => simp [hc] at e
      | av v cv => simp [hc] at e
      | dead cv => simp [hc] at e
end Hm
/- Writing at a place: the invariant. Conditions: none (plain lemmas). -/
namespace Hm
open Go
theorem GS.write_box {s : GS} {p : Place} {new : List GC} {k : Nat} {b : Nat} {e : TypeId} {gs : List GC} (hr : p.root = .box k) (hb : s.β k = some (b,e,gs)) :
    s.write p new = ⟨(s.clr p new.length).γ,upd s.β k (some (b,e,setRowG p.off new gs p.path))⟩ := by
  unfold GS.write; rw [hr]; simp only [hb]
theorem GS.write_slot {s : GS} {p : Place} {new : List GC} {k : Nat} {gs : List GC} {g : Bool} (hr : p.root = .slot k) (hb : s.γ k = .own gs g) :
    s.write p new = ⟨upd (s.clr p new.length).γ k (.own (setRowG p.off new gs p.path) g),s.β⟩ := by
  unfold GS.write; rw [hr]; simp only [hb]
theorem clrG_root (p : Place) (n : Nat) (t : GT) :
    (match clrG p n t with | .own gs _ => some ((none : Option Nat),gs) | _ => none) = (match t with | .own gs _ => some ((none : Option Nat),gs) | _ => none) := by
  cases t with
  | ali v q cv =>
    cases q with
    | none => rfl
    | some q => by_cases h : q.root = p.root <;> simp [clrG,h]
  | plc q a =>
    by_cases h : q.root = p.root ∧ TV.clr.hits p n (q.path.map (·.1)) (p.path.map (·.1)) = true
    · simp only [clrG]; rw [if_pos h]
    · simp only [clrG]; rw [if_neg h]
  | hd q l a =>
    by_cases h : q.root = p.root ∧ TV.clr.hits p n (q.path.map (·.1)) (p.path.map (·.1)) = true
    · simp only [clrG]; rw [if_pos h]
    · simp only [clrG]; rw [if_neg h]
  | _ => rfl
theorem locRow_some : ∀ (path : List (Nat × Nat)) (gs : List GC) (h0 h : Option (Nat × Nat)) (r : List GC),path ≠ [] → locRow h0 gs path = some (h,r) → ∃ b base,h = some (b,base)
  | [],_,_,_,_,hne,_ => absurd rfl hne
  | (o,i) :: p,gs,h0,h,r,_,e => by
    simp only [locRow] at e
    cases hc : gs[o]? with
    | none => simp [hc] at e
    | some c => cases c with
      | own b cap st e' rows =>
        simp only [hc] at e
        cases hi : rows[i]? with
        | none => simp [hi] at e
        | some r0 =>
          simp only [hi] at e
          cases p with
          | nil => simp only [locRow,Option.some.injEq,Prod.mk.injEq] at e; exact ⟨b,_,e.1.symm⟩
          | cons q p => exact locRow_some (q :: p) r0 _ h r (by simp) e
      | nil st => simp [hc] at e
      | av v cv => simp [hc] at e
      | dead cv => simp [hc] at e
structure WriteH (N : Nm) (F : Fx) (S : Nat → Prop) (s : GS) (w w' : World) (p : Place) (new : List GC) (h : Option (Nat × Nat)) (r : List GC) : Prop where
  loc : s.loc p = some (h,r)
  fits : p.off + new.length ≤ r.length
  ok : AllOk N w' S new
  free : Free F S s (blocksRow new)
  other : ∀ x,(∀ b base,h = some (b,base) → x ≠ b) → w'.heap[x]? = w.heap[x]?
  block : ∀ b base,h = some (b,base) → ∃ cur cur' e,w.heap[b]? = some (.cells cur e (0,0)) ∧ w'.heap[b]? = some (.cells cur' e (0,0)) ∧ cur'.size = cur.size ∧
    (∀ j,j < base + p.off ∨ base + p.off + new.length ≤ j → cur'[j]? = cur[j]?) ∧ ∀ j c,new[j]? = some c → cur'[base + p.off + j]? = some c.val
  vals : h = none → new.map GC.val = ((r.drop p.off).take new.length).map GC.val
  os : w'.os = w.os
  tape : w'.tape = w.tape
  output : w'.output = w.output
  size : w'.heap.size = w.heap.size
section
variable {N : Nm} {F : Fx} {S : Nat → Prop} {s : GS} {w w' : World} {p : Place} {new : List GC} {h : Option (Nat × Nat)} {r : List GC}
theorem WriteH.mem (I : Inv N F S s w) (W : WriteH N F S s w w' p new h r) {b base : Nat} (hb : h = some (b,base)) : b ∈ s.fp p.root := by
  have hl := W.loc
  rw [hb] at hl
  exact (I.loc_mem hl).2.2
theorem WriteH.keepS (I : Inv N F S s w) (W : WriteH N F S s w w' p new h r) : ∀ x,S x → w'.heap[x]? = w.heap[x]? := fun x hx =>
  W.other x fun b base hb e => (I.mine p.root b (W.mem I hb)).1 (e ▸ hx)
theorem WriteH.keepR (I : Inv N F S s w) (W : WriteH N F S s w w' p new h r) {r' : Root} (hr : r' ≠ p.root) : ∀ x ∈ s.fp r',w'.heap[x]? = w.heap[x]? := fun x hx =>
  W.other x fun b base hb e => hr (I.apart r' p.root x hx (e ▸ W.mem I hb))
theorem WriteH.frm (I : Inv N F S s w) (W : WriteH N F S s w w' p new h r) : Frm F.X F.w0 w' where
  os := W.os.trans I.frm.os
  tape := W.tape.trans I.frm.tape
  output := W.output.trans I.frm.output
  size := by rw [W.size]; exact I.frm.size
  block x hx hX := by
    rw [W.other x fun b base hb e => ?_]
    · exact I.frm.block x hx hX
    · rcases (I.mine p.root b (W.mem I hb)).2 with h1 | h1
      · subst e; omega
      · exact hX (e ▸ h1)
theorem AllOk.keep {w w' : World} {gs : List GC} (h : AllOk N w S gs) (hS : ∀ x,S x → w'.heap[x]? = w.heap[x]?) (hb : ∀ x ∈ blocksRow gs,w'.heap[x]? = w.heap[x]?) :
    AllOk N w' S gs := fun c hc => (h c hc).mono hS (fun _ h => h) fun x hx => by
  obtain ⟨j,hj⟩ := List.mem_iff_getElem?.1 hc
  exact hb x (mem_blocksRow hj hx)
theorem tup_mem : ∀ {l : List (Option (List GC × Bool))} {i : Nat} {gs : List GC} {g : Bool} {x : Nat},l[i]? = some (some (gs,g)) → x ∈ blocksRow gs → x ∈ tupBlocks l
  | [],i,gs,g,x,h,_ => by simp at h
  | a :: l,0,gs,g,x,h,hx => by
    simp at h; subst h
    simp [tupBlocks,hx]
  | a :: l,i + 1,gs,g,x,h,hx => by
    have := tup_mem (l := l) (i := i) (by simpa using h) hx
    cases a with
    | none => simpa [tupBlocks] using this
    | some y => simp [tupBlocks,this]
theorem GT.ok_keep {w w' : World} {s : GS} {t : GT} (h : t.ok N w S s) (hS : ∀ x,S x → w'.heap[x]? = w.heap[x]?) (hb : ∀ x ∈ t.blocks,w'.heap[x]? = w.heap[x]?)
    (hn : ∀ v cv,t ≠ .ali v none cv) : t.ok N w' S s := by
  cases t with
  | av v cv => exact VR.mono hS (fun _ h => h) h
  | own gs g => exact ⟨AllOk.keep h.1 hS hb,h.2⟩
  | ali v q cv =>
    cases q with
    | none => exact absurd rfl (hn v cv)
    | some q => exact h
  | plc q a => exact h
  | hd q l a => exact h
  | tup l vs => exact ⟨h.1,fun i gs g hi => ⟨(h.2 i gs g hi).1,AllOk.keep (h.2 i gs g hi).2.1 hS fun x hx => hb x (tup_mem hi hx),(h.2 i gs g hi).2.2⟩⟩
  | skp => trivial
  | und cv => trivial
theorem WriteH.slot (I : Inv N F S s w) (W : WriteH N F S s w w' p new h r) {s' : GS} (j : Nat) (hj : p.root ≠ .slot j)
    (hl : ∀ q,q.root ≠ p.root → s'.loc q = s.loc q)
    (hlp : ∀ q h1 r1,q.root = p.root → TV.clr.hits p new.length (q.path.map (·.1)) (p.path.map (·.1)) = false → s.loc q = some (h1,r1) → ∃ r2,s'.loc q = some (h1,r2) ∧ r2.length = r1.length) :
    (clrG p new.length (s.γ j)).ok N w' S s' := by
  have hok := I.slot j
  have hb : ∀ x ∈ (s.γ j).blocks,w'.heap[x]? = w.heap[x]? := W.keepR I (r' := .slot j) (fun e => hj e.symm)
  by_cases hal : ∃ v cv,s.γ j = .ali v none cv
  · obtain ⟨v,cv,e⟩ := hal
    rw [e]; trivial
  have h1 : (s.γ j).ok N w' S s := GT.ok_keep hok (W.keepS I) hb fun v cv e => hal ⟨v,cv,e⟩
  cases hγ : s.γ j with
  | ali v q cv =>
    cases q with
    | none => exact absurd ⟨v,cv,hγ⟩ hal
    | some q =>
      simp only [clrG]
      split
      · trivial
      · rename_i hne
        rw [hγ] at h1
        exact GT.ok_of_loc h1 fun p' hp' => by simp only [GT.place?,Option.some.injEq] at hp'; subst hp'; exact hl q hne
  | plc q a =>
    simp only [clrG]
    split
    · trivial
    · rename_i hne
      rw [hγ] at h1
      by_cases hq : q.root = p.root
      · have hh : TV.clr.hits p new.length (q.path.map (·.1)) (p.path.map (·.1)) = false := by simpa [hq] using hne
        obtain ⟨b,base,r1,h2,h3,h4⟩ := h1
        obtain ⟨r2,h5,h6⟩ := hlp q _ r1 hq hh h2
        exact ⟨b,base,r2,h5,by omega,h4⟩
      · exact GT.ok_of_loc h1 fun p' hp' => by simp only [GT.place?,Option.some.injEq] at hp'; subst hp'; exact hl q hq
  | hd q l a =>
    simp only [clrG]
    split
    · trivial
    · rename_i hne
      rw [hγ] at h1
      by_cases hq : q.root = p.root
      · have hh : TV.clr.hits p new.length (q.path.map (·.1)) (p.path.map (·.1)) = false := by simpa [hq] using hne
        obtain ⟨b,base,r1,cap,h2,h4⟩ := h1
        obtain ⟨r2,h5,h6⟩ := hlp q _ r1 hq hh h2
        exact ⟨b,base,r2,cap,h5,h4⟩
      · exact GT.ok_of_loc h1 fun p' hp' => by simp only [GT.place?,Option.some.injEq] at hp'; subst hp'; exact hl q hq
  | av v cv => rw [hγ] at h1; exact h1
  | own gs g => rw [hγ] at h1; exact h1
  | tup l vs => rw [hγ] at h1; exact h1
  | skp => trivial
  | und cv => trivial
theorem mem_of_count {x : Nat} {l : List Nat} : x ∈ l ↔ 0 < l.count x := List.count_pos_iff.symm
theorem WriteH.blocks (I : Inv N F S s w) (W : WriteH N F S s w w' p new h r) {h0 : Option (Nat × Nat)} {gs : List GC} (hg : locRow h0 gs p.path = some (h,r)) (hn : (blocksRow gs).Nodup)
    (hsub : ∀ x ∈ blocksRow gs,x ∈ s.fp p.root) :
    (blocksRow (setRowG p.off new gs p.path)).Nodup ∧ (∀ x ∈ blocksRow (setRowG p.off new gs p.path),x ∈ blocksRow gs ∨ x ∈ blocksRow new) ∧
    (∀ x ∈ blocksRow ((r.drop p.off).take new.length),x ∈ blocksRow gs ∧ x ∉ blocksRow (setRowG p.off new gs p.path)) ∧ (blocksRow ((r.drop p.off).take new.length)).Nodup := by
  have hc := fun x => count_setRowG_eq x p.off new p.path gs h0 h r hg W.fits
  have hd : ∀ x,x ∈ blocksRow new → x ∉ blocksRow gs := fun x hx h' => W.free.free x hx p.root (hsub x h')
  have h1 : ∀ x,(blocksRow gs).count x ≤ 1 := fun x => List.nodup_iff_count.1 hn x
  have h2 : ∀ x,(blocksRow new).count x ≤ 1 := fun x => List.nodup_iff_count.1 W.free.nodup x
  have h3 : ∀ x,(blocksRow gs).count x = 0 ∨ (blocksRow new).count x = 0 := fun x => by
    by_cases hx : x ∈ blocksRow new
    · exact .inl (List.count_eq_zero.2 (hd x hx))
    · exact .inr (List.count_eq_zero.2 hx)
  -- the old cells lie in the root
  have h4 : ∀ x,(blocksRow ((r.drop p.off).take new.length)).count x ≤ (blocksRow gs).count x := fun x => by
    have := count_setRowG_eq x p.off (((r.drop p.off).take new.length).map fun c => GC.dead c.val) p.path gs h0 h r hg (by simp; have := W.fits; omega)
    have h0' : (blocksRow (((r.drop p.off).take new.length).map fun c => GC.dead c.val)).count x = 0 := by
      rw [List.count_eq_zero,blocksRow_eq]
      simp only [List.mem_flatMap,List.mem_map,not_exists,not_and]
      rintro c ⟨d,_,rfl⟩
      simp [GC.blocks]
    have hlen : (((r.drop p.off).take new.length).map fun c => GC.dead c.val).length = new.length := by
      simp; have := W.fits; omega
    rw [h0',hlen] at this
    omega
  refine ⟨List.nodup_iff_count.2 fun x => ?_,fun x hx => ?_,fun x hx => ?_,List.nodup_iff_count.2 fun x => ?_⟩
  · have := hc x; have := h1 x; have := h2 x; have := h3 x; omega
  · have := hc x; rw [mem_of_count] at hx
    by_cases hg' : x ∈ blocksRow gs
    · exact .inl hg'
    · right
      rw [mem_of_count]
      have := List.count_eq_zero.2 hg'
      omega
  · rw [mem_of_count] at hx
    have := hc x; have := h1 x; have := h2 x; have := h3 x; have := h4 x
    refine ⟨by rw [mem_of_count]; omega,?_⟩
    rw [← List.count_eq_zero]; omega
  · have := h4 x; have := h1 x; omega
theorem Inv.write (I : Inv N F S s w) (W : WriteH N F S s w w' p new h r) :
    Inv N F S (s.write p new) w' ∧ (∀ k,((s.write p new).γ k).val = (s.γ k).val) ∧ Free F S (s.write p new) (blocksRow ((r.drop p.off).take new.length)) := by
  have hloc := W.loc
  unfold GS.loc at hloc
  cases hr : s.root p.root with
  | none => simp [hr] at hloc
  | some x =>
    obtain ⟨ob,gs⟩ := x
    simp only [hr] at hloc
    cases hroot : p.root with
    | box k =>
      rw [hroot] at hr
      simp only [GS.root] at hr
      cases hb : s.β k with
      | none => simp [hb] at hr
      | some y =>
        obtain ⟨b0,e0,gs0⟩ := y
        simp only [hb,Option.some.injEq,Prod.mk.injEq] at hr
        obtain ⟨rfl,rfl⟩ := hr
        have hfp : s.fp (.box k) = b0 :: blocksRow gs0 := by simp [GS.fp,hb]
        have hnd := I.nodup (.box k)
        rw [hfp,List.nodup_cons] at hnd
        obtain ⟨hn0,hnd⟩ := hnd
        obtain ⟨hheap,hok0⟩ := I.box k b0 e0 gs0 hb
        obtain ⟨d1,d2,d3,d4⟩ := W.blocks I hloc hnd (fun x hx => by rw [hroot,hfp]; exact List.mem_cons_of_mem _ hx)
        rw [GS.write_box hroot hb]
        have hfp' : ∀ r',r' ≠ .box k → (⟨(s.clr p new.length).γ,upd s.β k (some (b0,e0,setRowG p.off new gs0 p.path))⟩ : GS).fp r' = s.fp r' := by
          intro r' hr'
          cases r' with
          | box j =>
            have : j ≠ k := fun e => hr' (by rw [e])
            simp only [GS.fp,upd_ne _ _ this]
          | slot j => simp only [GS.fp,GS.clr,clrG_blocks]
        have hfpk : (⟨(s.clr p new.length).γ,upd s.β k (some (b0,e0,setRowG p.off new gs0 p.path))⟩ : GS).fp (.box k) = b0 :: blocksRow (setRowG p.off new gs0 p.path) := by
          simp [GS.fp]
        have hl1 : ∀ q,q.root ≠ p.root → (⟨(s.clr p new.length).γ,upd s.β k (some (b0,e0,setRowG p.off new gs0 p.path))⟩ : GS).loc q = s.loc q := by
          intro q hq
          have : (⟨(s.clr p new.length).γ,upd s.β k (some (b0,e0,setRowG p.off new gs0 p.path))⟩ : GS).root q.root = s.root q.root := by
            cases hqr : q.root with
            | box j =>
              have : j ≠ k := fun e => hq (by rw [hqr,hroot,e])
              simp only [GS.root,upd_ne _ _ this]
            | slot j =>
              simp only [GS.root,GS.clr]
              exact clrG_root p new.length (s.γ j)
          simp only [GS.loc,this]
        have hl2 : ∀ q h1 r1,q.root = p.root → TV.clr.hits p new.length (q.path.map (·.1)) (p.path.map (·.1)) = false → s.loc q = some (h1,r1) →
            ∃ r2,(⟨(s.clr p new.length).γ,upd s.β k (some (b0,e0,setRowG p.off new gs0 p.path))⟩ : GS).loc q = some (h1,r2) ∧ r2.length = r1.length := by
          intro q h1 r1 hq hh e
          rw [hroot] at hq
          simp only [GS.loc,hq,GS.root,hb,upd_same] at e ⊢
          exact loc_setRowG p new p.path q.path gs0 _ h1 r1 h r hh hloc W.fits e
        have hcells : w'.heap[b0]? = some (.cells ((setRowG p.off new gs0 p.path).map GC.val).toArray e0 (0,0)) ∧ AllOk N w' S (setRowG p.off new gs0 p.path) := by
          by_cases hp : p.path = []
          · rw [hp] at hloc ⊢
            simp only [locRow,Option.map_some,Option.some.injEq,Prod.mk.injEq] at hloc
            obtain ⟨rfl,rfl⟩ := hloc
            obtain ⟨cur,cur',e,h1,h2,h3,h4,h5⟩ := W.block b0 0 rfl
            rw [hheap] at h1
            simp only [Option.some.injEq,Obj.cells.injEq] at h1
            obtain ⟨rfl,rfl,_⟩ := h1
            constructor
            · rw [h2]
              congr 2
              apply Array.ext_getElem?
              intro j
              simp only [List.getElem?_toArray,List.getElem?_map,setRowG]
              rw [splice_get p.off new gs0 W.fits]
              simp only [Nat.zero_add] at h4 h5
              by_cases c1 : j < p.off
              · rw [if_pos c1,h4 j (.inl c1)]; simp
              · rw [if_neg c1]
                by_cases c2 : j < p.off + new.length
                · rw [if_pos c2]
                  obtain ⟨c,hc⟩ : ∃ c,new[j - p.off]? = some c := ⟨new[j - p.off]'(by omega),List.getElem?_eq_getElem (by omega)⟩
                  have := h5 (j - p.off) c hc
                  rw [show p.off + (j - p.off) = j by omega] at this
                  rw [this,hc]; rfl
                · rw [if_neg c2,h4 j (.inr (by omega))]; simp
            · intro c hc
              obtain ⟨j,hj⟩ := List.mem_iff_getElem?.1 hc
              simp only [setRowG] at hj
              rw [splice_get p.off new gs0 W.fits] at hj
              have old : ∀ c ∈ gs0,GC.ok N w' S c := fun c hc => (hok0 c hc).mono (W.keepS I) (fun _ h => h) fun x hx => W.other x fun b base hb' e => by
                simp only [Option.some.injEq,Prod.mk.injEq] at hb'
                obtain ⟨rfl,_⟩ := hb'
                obtain ⟨j',hj'⟩ := List.mem_iff_getElem?.1 hc
                exact hn0 (e ▸ mem_blocksRow hj' hx)
              split at hj
              · exact old c (List.mem_of_getElem? hj)
              · split at hj
                · exact W.ok c (List.mem_of_getElem? hj)
                · exact old c (List.mem_of_getElem? hj)
          · obtain ⟨b,base,rfl⟩ := locRow_some p.path gs0 _ h r hp hloc
            have hbm := (locRow_mem p.path gs0 _ b base r hok0 hloc hp).2.2
            have hW : Wrote w w' S gs0 b base p.off new := ⟨W.block b base rfl,fun x hx _ => W.other x fun b' base' hb' e => by
                simp only [Option.some.injEq,Prod.mk.injEq] at hb'
                exact hx (e.trans hb'.1.symm),(I.mine p.root b (W.mem I rfl)).1⟩
            obtain ⟨h1,h2⟩ := write_ok W.ok p.path gs0 _ b base r hp hok0 hnd hloc W.fits hW
            refine ⟨?_,h1⟩
            rw [h2,W.other b0 fun b' base' hb' e => ?_]
            · exact hheap
            · simp only [Option.some.injEq,Prod.mk.injEq] at hb'
              exact hn0 (by rw [e,← hb'.1]; exact hbm)
        refine ⟨⟨?_,?_,?_,?_,?_,?_,W.frm I,?_,?_⟩,?_,?_⟩
        · intro j; exact W.slot I j (by rw [hroot]; simp) hl1 hl2
        · intro j b e gs hj
          by_cases hjk : j = k
          · subst hjk
            simp only [upd_same,Option.some.injEq,Prod.mk.injEq] at hj
            obtain ⟨rfl,rfl,rfl⟩ := hj
            exact hcells
          · replace hj : s.β j = some (b,e,gs) := by rw [← hj]; exact (upd_ne s.β _ hjk).symm
            obtain ⟨h1,h2⟩ := I.box j b e gs hj
            have hne : Root.box j ≠ p.root := fun e => hjk (by rw [hroot] at e; injection e)
            have hk := W.keepR I hne
            simp only [GS.fp,hj] at hk
            exact ⟨by rw [hk b (by simp)]; exact h1,AllOk.keep h2 (W.keepS I) fun x hx => hk x (List.mem_cons_of_mem _ hx)⟩
        · intro r'
          by_cases hr' : r' = .box k
          · subst hr'
            rw [hfpk,List.nodup_cons]
            refine ⟨fun hx => ?_,d1⟩
            rcases d2 b0 hx with h' | h'
            · exact hn0 h'
            · exact W.free.free b0 h' (.box k) (by rw [hfp]; simp)
          · rw [hfp' r' hr']; exact I.nodup r'
        · have key : ∀ r' x,r' ≠ .box k → x ∈ s.fp r' → x ∉ b0 :: blocksRow (setRowG p.off new gs0 p.path) := by
            intro r' x hr' hx hx'
            rcases List.mem_cons.1 hx' with rfl | hx'
            · exact hr' (I.apart r' (.box k) x hx (by rw [hfp]; simp))
            · rcases d2 x hx' with h' | h'
              · exact hr' (I.apart r' (.box k) x hx (by rw [hfp]; exact List.mem_cons_of_mem _ h'))
              · exact W.free.free x h' r' hx
          intro r1 r2 x h1 h2
          by_cases e1 : r1 = .box k
          · by_cases e2 : r2 = .box k
            · rw [e1,e2]
            · subst e1; rw [hfpk] at h1; rw [hfp' r2 e2] at h2; exact absurd h1 (key r2 x e2 h2)
          · rw [hfp' r1 e1] at h1
            by_cases e2 : r2 = .box k
            · subst e2; rw [hfpk] at h2; exact absurd h2 (key r1 x e1 h1)
            · rw [hfp' r2 e2] at h2; exact I.apart r1 r2 x h1 h2
        · intro r' x hx
          by_cases hr' : r' = .box k
          · subst hr'
            rw [hfpk] at hx
            rcases List.mem_cons.1 hx with rfl | hx'
            · exact I.mine (.box k) x (by rw [hfp]; simp)
            · rcases d2 x hx' with h' | h'
              · exact I.mine (.box k) x (by rw [hfp]; exact List.mem_cons_of_mem _ h')
              · exact W.free.mine x h'
          · rw [hfp' r' hr'] at hx; exact I.mine r' x hx
        · intro x hx; rw [W.size]; exact I.immB x hx
        · intro j q hq n hn
          obtain ⟨h1,_,_⟩ := clrG_place p new.length (s.γ j) q hq
          exact I.rooted j q h1 n hn
        · intro x hx; exact (I.glob x hx).mono (W.keepS I) fun _ h => h
        · intro j; exact clrG_val p new.length (s.γ j)
        · refine ⟨d4,fun x hx r' hx' => ?_,fun x hx => I.mine (.box k) x (by rw [hfp]; exact List.mem_cons_of_mem _ (d3 x hx).1)⟩
          by_cases hr' : r' = .box k
          · subst hr'
            rw [hfpk] at hx'
            rcases List.mem_cons.1 hx' with rfl | hx'
            · exact hn0 (d3 x hx).1
            · exact (d3 x hx).2 hx'
          · rw [hfp' r' hr'] at hx'
            exact hr' (I.apart r' (.box k) x hx' (by rw [hfp]; exact List.mem_cons_of_mem _ (d3 x hx).1))
    | slot k =>
      rw [hroot] at hr
      simp only [GS.root] at hr
      cases hγ : s.γ k with
      | own gs0 g =>
        simp only [hγ,Option.some.injEq,Prod.mk.injEq] at hr
        obtain ⟨rfl,rfl⟩ := hr
        have hfp : s.fp (.slot k) = blocksRow gs0 := by simp [GS.fp,hγ,GT.blocks]
        have hnd := I.nodup (.slot k)
        rw [hfp] at hnd
        have hok0 : AllOk N w S gs0 ∧ (g = false → ∃ c,gs0 = [c]) := by have := I.slot k; rw [hγ] at this; exact this
        obtain ⟨d1,d2,d3,d4⟩ := W.blocks I hloc hnd (fun x hx => by rw [hroot,hfp]; exact hx)
        rw [GS.write_slot hroot hγ]
        have hfp' : ∀ r',r' ≠ .slot k → (⟨upd (s.clr p new.length).γ k (.own (setRowG p.off new gs0 p.path) g),s.β⟩ : GS).fp r' = s.fp r' := by
          intro r' hr'
          cases r' with
          | box j => rfl
          | slot j =>
            have : j ≠ k := fun e => hr' (by rw [e])
            simp only [GS.fp,upd_ne _ _ this,GS.clr,clrG_blocks]
        have hfpk : (⟨upd (s.clr p new.length).γ k (.own (setRowG p.off new gs0 p.path) g),s.β⟩ : GS).fp (.slot k) = blocksRow (setRowG p.off new gs0 p.path) := by
          simp [GS.fp,GT.blocks]
        have hl1 : ∀ q,q.root ≠ p.root → (⟨upd (s.clr p new.length).γ k (.own (setRowG p.off new gs0 p.path) g),s.β⟩ : GS).loc q = s.loc q := by
          intro q hq
          have : (⟨upd (s.clr p new.length).γ k (.own (setRowG p.off new gs0 p.path) g),s.β⟩ : GS).root q.root = s.root q.root := by
            cases hqr : q.root with
            | box j => rfl
            | slot j =>
              have : j ≠ k := fun e => hq (by rw [hqr,hroot,e])
              simp only [GS.root,upd_ne _ _ this,GS.clr]
              exact clrG_root p new.length (s.γ j)
          simp only [GS.loc,this]
        have hl2 : ∀ q h1 r1,q.root = p.root → TV.clr.hits p new.length (q.path.map (·.1)) (p.path.map (·.1)) = false → s.loc q = some (h1,r1) →
            ∃ r2,(⟨upd (s.clr p new.length).γ k (.own (setRowG p.off new gs0 p.path) g),s.β⟩ : GS).loc q = some (h1,r2) ∧ r2.length = r1.length := by
          intro q h1 r1 hq hh e
          rw [hroot] at hq
          simp only [GS.loc,hq,GS.root,hγ,upd_same] at e ⊢
          exact loc_setRowG p new p.path q.path gs0 _ h1 r1 h r hh hloc W.fits e
        have hvals : (setRowG p.off new gs0 p.path).map GC.val = gs0.map GC.val ∧ AllOk N w' S (setRowG p.off new gs0 p.path) := by
          by_cases hp : p.path = []
          · rw [hp] at hloc ⊢
            simp only [locRow,Option.map_none,Option.some.injEq,Prod.mk.injEq] at hloc
            obtain ⟨rfl,rfl⟩ := hloc
            have hv := W.vals rfl
            constructor
            · apply List.ext_getElem?
              intro j
              simp only [setRowG,List.getElem?_map]
              rw [splice_get p.off new gs0 W.fits]
              by_cases c1 : j < p.off
              · rw [if_pos c1]
              · rw [if_neg c1]
                by_cases c2 : j < p.off + new.length
                · rw [if_pos c2]
                  have := congrArg (·[j - p.off]?) hv
                  simp only [List.getElem?_map,List.getElem?_take,List.getElem?_drop] at this
                  rw [this,if_pos (by omega),show p.off + (j - p.off) = j by omega]
                · rw [if_neg c2]
            · intro c hc
              obtain ⟨j,hj⟩ := List.mem_iff_getElem?.1 hc
              simp only [setRowG] at hj
              rw [splice_get p.off new gs0 W.fits] at hj
              have old : ∀ c ∈ gs0,GC.ok N w' S c := fun c hc => (hok0.1 c hc).mono (W.keepS I) (fun _ h => h) fun x hx => W.other x fun b base hb' e => by cases hb'
              split at hj
              · exact old c (List.mem_of_getElem? hj)
              · split at hj
                · exact W.ok c (List.mem_of_getElem? hj)
                · exact old c (List.mem_of_getElem? hj)
          · obtain ⟨b,base,rfl⟩ := locRow_some p.path gs0 _ h r hp hloc
            have hW : Wrote w w' S gs0 b base p.off new := ⟨W.block b base rfl,fun x hx _ => W.other x fun b' base' hb' e => by
                simp only [Option.some.injEq,Prod.mk.injEq] at hb'
                exact hx (e.trans hb'.1.symm),(I.mine p.root b (W.mem I rfl)).1⟩
            obtain ⟨h1,h2⟩ := write_ok W.ok p.path gs0 _ b base r hp hok0.1 hnd hloc W.fits hW
            exact ⟨h2,h1⟩
        have hcv : cval g (setRowG p.off new gs0 p.path) = cval g gs0 := by
          cases g with
          | true => simp only [cval,if_true,hvals.1]
          | false =>
            obtain ⟨c,rfl⟩ := hok0.2 rfl
            have hl := congrArg List.length hvals.1
            simp only [List.length_map,List.length_singleton] at hl
            obtain ⟨c',hc'⟩ := List.length_eq_one_iff.1 hl
            have := hvals.1
            rw [hc'] at this
            simp only [List.map_cons,List.map_nil,List.cons.injEq,and_true] at this
            simp only [cval,hc',Bool.false_eq_true,if_false,this]
        refine ⟨⟨?_,?_,?_,?_,?_,?_,W.frm I,?_,?_⟩,?_,?_⟩
        · intro j
          by_cases hjk : j = k
          · subst hjk
            simp only [upd_same]
            refine ⟨hvals.2,fun hg => ?_⟩
            obtain ⟨c,rfl⟩ := hok0.2 hg
            have hl := congrArg List.length hvals.1
            simp only [List.length_map,List.length_singleton] at hl
            exact List.length_eq_one_iff.1 hl
          · rw [show (⟨upd (s.clr p new.length).γ k (.own (setRowG p.off new gs0 p.path) g),s.β⟩ : GS).γ j = clrG p new.length (s.γ j) from upd_ne _ _ hjk]
            exact W.slot I j (by rw [hroot]; intro e; injection e with e; exact hjk e.symm) hl1 hl2
        · intro j b e gs hj
          obtain ⟨h1,h2⟩ := I.box j b e gs hj
          have hk := W.keepR I (r' := .box j) (by rw [hroot]; simp)
          simp only [GS.fp] at hk
          rw [show s.β j = some (b,e,gs) from hj] at hk
          exact ⟨by rw [hk b (by simp)]; exact h1,AllOk.keep h2 (W.keepS I) fun x hx => hk x (List.mem_cons_of_mem _ hx)⟩
        · intro r'
          by_cases hr' : r' = .slot k
          · subst hr'; rw [hfpk]; exact d1
          · rw [hfp' r' hr']; exact I.nodup r'
        · have key : ∀ r' x,r' ≠ .slot k → x ∈ s.fp r' → x ∉ blocksRow (setRowG p.off new gs0 p.path) := by
            intro r' x hr' hx hx'
            rcases d2 x hx' with h' | h'
            · exact hr' (I.apart r' (.slot k) x hx (by rw [hfp]; exact h'))
            · exact W.free.free x h' r' hx
          intro r1 r2 x h1 h2
          by_cases e1 : r1 = .slot k
          · by_cases e2 : r2 = .slot k
            · rw [e1,e2]
            · subst e1; rw [hfpk] at h1; rw [hfp' r2 e2] at h2; exact absurd h1 (key r2 x e2 h2)
          · rw [hfp' r1 e1] at h1
            by_cases e2 : r2 = .slot k
            · subst e2; rw [hfpk] at h2; exact absurd h2 (key r1 x e1 h1)
            · rw [hfp' r2 e2] at h2; exact I.apart r1 r2 x h1 h2
        · intro r' x hx
          by_cases hr' : r' = .slot k
          · subst hr'
            rw [hfpk] at hx
            rcases d2 x hx with h' | h'
            · exact I.mine (.slot k) x (by rw [hfp]; exact h')
            · exact W.free.mine x h'
          · rw [hfp' r' hr'] at hx; exact I.mine r' x hx
        · intro x hx; rw [W.size]; exact I.immB x hx
        · intro j q hq n hn
          by_cases hjk : j = k
          · subst hjk; simp [GT.place?] at hq
          · rw [show (⟨upd (s.clr p new.length).γ k (.own (setRowG p.off new gs0 p.path) g),s.β⟩ : GS).γ j = clrG p new.length (s.γ j) from upd_ne _ _ hjk] at hq
            obtain ⟨h1,_,_⟩ := clrG_place p new.length (s.γ j) q hq
            exact I.rooted j q h1 n hn
        · intro x hx; exact (I.glob x hx).mono (W.keepS I) fun _ h => h
        · intro j
          by_cases hjk : j = k
          · subst hjk; simp only [upd_same,hγ,GT.val,hcv]
          · rw [show (⟨upd (s.clr p new.length).γ k (.own (setRowG p.off new gs0 p.path) g),s.β⟩ : GS).γ j = clrG p new.length (s.γ j) from upd_ne _ _ hjk]
            exact clrG_val p new.length (s.γ j)
        · refine ⟨d4,fun x hx r' hx' => ?_,fun x hx => I.mine (.slot k) x (by rw [hfp]; exact (d3 x hx).1)⟩
          by_cases hr' : r' = .slot k
          · subst hr'; rw [hfpk] at hx'; exact (d3 x hx).2 hx'
          · rw [hfp' r' hr'] at hx'
            exact hr' (I.apart r' (.slot k) x hx' (by rw [hfp]; exact (d3 x hx).1))
      | _ => simp [hγ] at hr
end
end Hm
/- Operands, and what an operation owes. Conditions: none (plain lemmas). -/
namespace Hm
open Go
structure Rel (N : Nm) (F : Fx) (S : Nat → Prop) (s : GS) (st : St) (a : Act) (w : World) : Prop where
  inv : Inv N F S s w
  er : Er s st
  tmp : ∀ k,a.tmps.getD k undef = (s.γ k).val
  size : a.tmps.size = F.nt
  dfr : a.defers = []
structure Pend (N : Nm) (F : Fx) (S : Nat → Prop) (s : GS) (w : World) (dst : Option Nat) (g : GT) (tv : TV) (cv : Value) : Prop where
  tv : g.tv = tv
  val : g.val = cv
  ok : g.ok N w S s
  free : Free F S s g.blocks
  rooted : ∀ p,g.place? = some p → ∀ n,p.root = .slot n → n ∈ F.roots
  dst : ∀ d,dst = some d → (∀ j p,j ≠ d → (s.γ j).place? = some p → p.root ≠ .slot d) ∧ ∀ p,g.place? = some p → p.root ≠ .slot d
def OpDone (N : Nm) (F : Fx) (S : Nat → Prop) (st' : St) (a : Act) (dst : Option Nat) (tv : TV) (run : Result Next) : Prop :=
  ∃ cv w' S' s' g,(run = .ok (.value cv) w' ∨ (run = .ok .skip w' ∧ cv = undef)) ∧ (∀ b,S b → S' b) ∧ Rel N F S' s' st' a w' ∧ Pend N F S' s' w' dst g tv cv
section
variable {N : Nm} {F : Fx} {S : Nat → Prop} {s : GS} {st : St} {a : Act} {w : World}
theorem getE_put (st : St) (d k : Nat) (t : TV) : getE (st.put d t).env k = if d = k then t else getE st.env k := by simp only [getE,St.put,upd,eq_comm]
theorem Rel.put (R : Rel N F S s st a w) {d : Nat} {g : GT} {tv : TV} {cv : Value} (hd : d < F.nt) (p : Pend N F S s w (some d) g tv cv) :
    Rel N F S (s.put d g) (st.put d tv) (a.put (some d) cv) w where
  inv := R.inv.put p.ok p.free.nodup (fun x hx r _ => p.free.free x hx r) p.free.mine (fun q hq => ⟨(p.dst d rfl).2 q hq,p.rooted q hq⟩) (p.dst d rfl).1
  er := ⟨fun k => by
      rw [getE_put]
      by_cases h : k = d
      · subst h; rw [s.put_γ,if_pos rfl,p.tv]
      · rw [s.put_γ_ne g h,if_neg (fun e => h e.symm)]; exact R.er.env k,R.er.box⟩
  tmp k := by
    simp only [Act.put]
    by_cases h : k = d
    · subst h
      rw [s.put_γ,p.val]
      simp [Array.getD_eq_getD_getElem?,Array.getElem?_setIfInBounds,R.size,hd]
    · rw [s.put_γ_ne g h,← R.tmp k]
      have : ¬ d = k := fun e => h e.symm
      simp [Array.getD_eq_getD_getElem?,Array.getElem?_setIfInBounds,this]
  size := by simp [Act.put,R.size]
  dfr := by simp [Act.put,R.dfr]
theorem OpDone.put {st' : St} {dst : Option Nat} {tv : TV} {run : Result Next} (h : OpDone N F S st' a dst tv run) (hd : ∀ d,dst = some d → d < F.nt) :
    ∃ cv w' S' s',(run = .ok (.value cv) w' ∨ (run = .ok .skip w' ∧ cv = undef)) ∧ (∀ b,S b → S' b) ∧
      Rel N F S' s' (match dst with | some d => st'.put d tv | none => st') (a.put dst cv) w' := by
  obtain ⟨cv,w',S',s',g,h1,h2,h3,h4⟩ := h
  cases dst with
  | none => exact ⟨cv,w',S',s',h1,h2,h3⟩
  | some d => exact ⟨cv,w',S',_,h1,h2,h3.put (hd d rfl) h4⟩
theorem Rel.unrooted (R : Rel N F S s st a w) {dst : Option Nat} (hd : ∀ d,dst = some d → d ∉ F.roots) {g : GT} (hg : ∀ p,g.place? = some p → ∀ n,p.root = .slot n → n ∈ F.roots) :
    ∀ d,dst = some d → (∀ j p,j ≠ d → (s.γ j).place? = some p → p.root ≠ .slot d) ∧ ∀ p,g.place? = some p → p.root ≠ .slot d := fun d e =>
  ⟨fun j p _ hp e' => hd d e (R.inv.rooted j p hp d e'),fun p hp e' => hd d e (hg p hp d e')⟩
theorem Rel.done0 (R : Rel N F S s st a w) {dst : Option Nat} (hd : ∀ d,dst = some d → d ∉ F.roots) {g : GT} {run : Result Next} (hrun : run = .ok (.value g.val) w)
    (hok : g.ok N w S s) (hb : g.blocks = []) (hg : ∀ p,g.place? = some p → ∀ n,p.root = .slot n → n ∈ F.roots) : OpDone N F S st a dst g.tv run :=
  ⟨g.val,w,S,s,g,.inl hrun,fun _ h => h,R,⟨rfl,rfl,hok,hb ▸ Free.nil,hg,R.unrooted hd hg⟩⟩
theorem Rel.done_av0 (R : Rel N F S s st a w) {dst : Option Nat} (hd : ∀ d,dst = some d → d ∉ F.roots) {v : AV} {cv : Value} {run : Result Next} (hrun : run = .ok (.value cv) w)
    (hv : VR N w S v cv) : OpDone N F S st a dst (.av v) run :=
  R.done0 hd (g := .av v cv) hrun hv rfl (by simp [GT.place?])
def PureDone (P : Program) (N : Nm) (F : Fx) (S : Nat → Prop) (st' : St) (a : Act) (w : World) (dst : Option Nat) (tv : TV) (m : Sem Next) : Prop :=
  ∃ cv S' s' g,(∀ w',m.run P w' = .ok (.value cv) w') ∧ (∀ b,S b → S' b) ∧ Rel N F S' s' st' a w ∧ Pend N F S' s' w dst g tv cv
theorem PureDone.op {P : Program} {st' : St} {dst : Option Nat} {tv : TV} {m : Sem Next} (h : PureDone P N F S st' a w dst tv m) : OpDone N F S st' a dst tv (m.run P w) := by
  obtain ⟨cv,S',s',g,h1,h2,h3,h4⟩ := h
  exact ⟨cv,w,S',s',g,.inl (h1 w),h2,h3,h4⟩
theorem Rel.done {P : Program} (R : Rel N F S s st a w) {dst : Option Nat} (hd : ∀ d,dst = some d → d ∉ F.roots) {g : GT} {m : Sem Next} (hrun : ∀ w',m.run P w' = .ok (.value g.val) w')
    (hok : g.ok N w S s) (hb : g.blocks = []) (hg : ∀ p,g.place? = some p → ∀ n,p.root = .slot n → n ∈ F.roots) : PureDone P N F S st a w dst g.tv m :=
  ⟨g.val,S,s,g,hrun,fun _ h => h,R,⟨rfl,rfl,hok,hb ▸ Free.nil,hg,R.unrooted hd hg⟩⟩
theorem Rel.done_av {P : Program} (R : Rel N F S s st a w) {dst : Option Nat} (hd : ∀ d,dst = some d → d ∉ F.roots) {v : AV} {cv : Value} {m : Sem Next} (hrun : ∀ w',m.run P w' = .ok (.value cv) w')
    (hv : VR N w S v cv) : PureDone P N F S st a w dst (.av v) m :=
  R.done hd (g := .av v cv) hrun hv rfl (by simp [GT.place?])
/-! ### Operands -/
theorem okV_VR {v : AV} {cv : Value} (h : okV v cv = true) : VR N w S v cv ∧ cv.oneCell' = true := by
  unfold okV at h
  split at h
  · simp only [Bool.and_eq_true,decide_eq_true_eq] at h; obtain ⟨rfl,rfl⟩ := h; exact ⟨.int _ _,rfl⟩
  · simp only [beq_iff_eq] at h; subst h; exact ⟨.bool _,rfl⟩
  · simp only [beq_iff_eq] at h; subst h; exact ⟨.str _,rfl⟩
  · exact ⟨.nilp,rfl⟩
  · exact ⟨.nilf,rfl⟩
  · exact ⟨.nili,rfl⟩
  · cases h
theorem okCell_GC {c : Cell} {cv : Value} (h : okCell c cv = true) : ∃ g : GC,g.cell = c ∧ g.val = cv ∧ GC.ok N w S g ∧ g.blocks = [] := by
  unfold okCell at h
  split at h
  · obtain ⟨h1,h2⟩ := okV_VR (N := N) (w := w) (S := S) h
    exact ⟨.av _ _,rfl,rfl,.av _ _ h1 h2,rfl⟩
  · rename_i st; exact ⟨.nil st,rfl,rfl,.nil st,rfl⟩
  · cases h
theorem okCells_GC : ∀ {cs : List Cell} {vs : List Value},okCells cs vs = true → ∃ gs : List GC,cellRow gs = cs ∧ gs.map GC.val = vs ∧ AllOk N w S gs ∧ blocksRow gs = []
  | [],[],_ => ⟨[],rfl,rfl,by simp [AllOk],rfl⟩
  | [],_ :: _,h => by simp [okCells] at h
  | _ :: _,[],h => by simp [okCells] at h
  | c :: cs,v :: vs,h => by
    simp only [okCells,Bool.and_eq_true] at h
    obtain ⟨g,h1,h2,h3,h4⟩ := okCell_GC (N := N) (w := w) (S := S) h.1
    obtain ⟨gs,k1,k2,k3,k4⟩ := okCells_GC (cs := cs) (vs := vs) h.2
    refine ⟨g :: gs,by simp [cellRow,h1,k1],by simp [h2,k2],fun c hc => ?_,by simp [blocksRow,h4,k4]⟩
    rcases List.mem_cons.1 hc with rfl | hc
    · exact h3
    · exact k3 c hc
theorem eqAV_ok {x y : AV} (h : eqAV x y = true) : x = y := by
  unfold eqAV at h
  split at h
  · simp only [Bool.and_eq_true,decide_eq_true_eq] at h; rw [h.1,h.2]
  · simp only [beq_iff_eq] at h; rw [h]
  · simp only [beq_iff_eq] at h; rw [h]
  · cases h
theorem eqAVs_ok : ∀ {x y : List AV},eqAVs x y = true → x = y
  | [],[],_ => rfl
  | [],_ :: _,h => by simp [eqAVs] at h
  | _ :: _,[],h => by simp [eqAVs] at h
  | x :: r,y :: s,h => by
    simp only [eqAVs,Bool.and_eq_true] at h
    rw [eqAV_ok h.1,eqAVs_ok h.2]
theorem okG_ok {N : Nm} {cs : List AV} {g : Nat} (h : okG N cs g = true) : (.vptr cs,.pointer (some ⟨g,0,none⟩)) ∈ N.g := by
  simp only [okG,List.any_eq_true] at h
  obtain ⟨x,hx,h⟩ := h
  split at h
  · simp only [Bool.and_eq_true,beq_iff_eq] at h
    obtain ⟨rfl,h2⟩ := h
    rw [eqAVs_ok h2]; exact hx
  · cases h
theorem Rel.opd (R : Rel N F S s st a w) {x : Opd} {y : Operand} (h : okO N x y = true) :
    ∃ g : GT,g.tv = st.opd x ∧ g.val = a.eval y ∧ g.ok N w S s ∧ ((∃ n,x = .t n ∧ g = s.γ n) ∨ ((∀ n,x ≠ .t n) ∧ g.blocks = [] ∧ g.place? = none)) := by
  unfold okO at h
  split at h
  · rename_i n m
    simp only [beq_iff_eq] at h; subst h
    exact ⟨s.γ n,R.er.env n,(R.tmp n).symm,R.inv.slot n,.inl ⟨n,rfl,rfl⟩⟩
  · rename_i cs g
    exact ⟨.av (.vptr cs) (.pointer (some ⟨g,0,none⟩)),rfl,rfl,R.inv.glob _ (okG_ok h),.inr ⟨by simp,rfl,rfl⟩⟩
  · rename_i f g
    simp only [beq_iff_eq] at h; subst h
    exact ⟨.av (.clo f [] []) (.func (.func (N.f f)) #[] #[]),rfl,rfl,.clo f [] [] #[] #[] rfl rfl (by simp) (by simp),.inr ⟨by simp,rfl,rfl⟩⟩
  · exact ⟨.av _ _,rfl,rfl,(okV_VR h).1,.inr ⟨by simp,rfl,rfl⟩⟩
  · rename_i cs vs
    obtain ⟨gs,h1,h2,h3,h4⟩ := okCells_GC (N := N) (w := w) (S := S) h
    refine ⟨.own gs true,by simp [GT.tv,St.opd,h1],?_,⟨h3,by simp⟩,.inr ⟨by simp,h4,rfl⟩⟩
    simp [GT.val,cval,h2,Act.eval]
  · rename_i c cv
    obtain ⟨g,h1,h2,h3,h4⟩ := okCell_GC (N := N) (w := w) (S := S) h
    refine ⟨.own [g] false,by simp [GT.tv,St.opd,cellRow,h1],by simp [GT.val,cval,h2,Act.eval],⟨fun c hc => ?_,fun _ => ⟨g,rfl⟩⟩,.inr ⟨by simp,by simp [GT.blocks,blocksRow,h4],rfl⟩⟩
    rw [List.mem_singleton.1 hc]; exact h3
  · cases h
theorem GT.of_av {g : GT} {v : AV} (h : g.tv = .av v) : ∃ cv,g = .av v cv := by
  cases g <;> simp_all [GT.tv]
theorem GT.of_own {g : GT} {cs : List Cell} {b : Bool} (h : g.tv = .own cs b) : ∃ gs,g = .own gs b ∧ cellRow gs = cs := by
  cases g <;> simp_all [GT.tv]
theorem GT.of_ali {g : GT} {v : AV} {p : Option Place} (h : g.tv = .ali v p) : ∃ cv,g = .ali v p cv := by
  cases g <;> simp_all [GT.tv]
theorem GT.of_plc {g : GT} {p : Place} (h : g.tv = .plc p) : ∃ a,g = .plc p a := by
  cases g <;> simp_all [GT.tv]
theorem GT.of_hd {g : GT} {p : Place} {l : Nat} (h : g.tv = .hd p l) : ∃ cv,g = .hd p l cv := by
  cases g <;> simp_all [GT.tv]
theorem GT.of_tup {g : GT} {l : List (Option (List Cell × Bool))} (h : g.tv = .tup l) : ∃ l' vs,g = .tup l' vs ∧ tupCells l' = l := by
  cases g <;> simp_all [GT.tv]
theorem Rel.opd_av (R : Rel N F S s st a w) {x : Opd} {y : Operand} (h : okO N x y = true) {v : AV} (hv : st.opd x = .av v) : VR N w S v (a.eval y) := by
  obtain ⟨g,h1,h2,h3,_⟩ := R.opd h
  rw [hv] at h1
  obtain ⟨cv,rfl⟩ := GT.of_av h1
  rw [← h2]; exact h3
theorem Rel.opd_plc (R : Rel N F S s st a w) {x : Opd} {y : Operand} (h : okO N x y = true) {p : Place} (hv : st.opd x = .plc p) :
    ∃ n b base r,x = .t n ∧ s.γ n = .plc p ⟨b,base + p.off,none⟩ ∧ s.loc p = some (some (b,base),r) ∧ p.off ≤ r.length ∧ a.eval y = .pointer (some ⟨b,base + p.off,none⟩) := by
  obtain ⟨g,h1,h2,h3,h4⟩ := R.opd h
  rw [hv] at h1
  obtain ⟨ad,rfl⟩ := GT.of_plc h1
  obtain ⟨b,base,r,e1,e2,rfl⟩ := h3
  rcases h4 with ⟨n,rfl,e⟩ | ⟨_,_,e⟩
  · exact ⟨n,b,base,r,rfl,e.symm,e1,e2,h2.symm⟩
  · simp [GT.place?] at e
/-! ### Reading what is the call's own -/
theorem view_cval {gs : List GC} {S' : Nat → Prop} (h : AllOk N w S gs) {g : Bool} (hg : g = false → ∃ c,gs = [c]) (hS : ∀ b,S b → S' b) (hb : ∀ b ∈ blocksRow gs,S' b) :
    VR N w S' (mkV g (sealRow (cellRow gs))) (cval g gs) := by
  cases g with
  | true =>
    simp only [mkV,cval,if_true]
    refine .agg _ _ (by simp [sealRow_eq,cellRow_eq]) ?_ ?_
    · intro j v hv
      simp only [List.getElem?_toArray,List.getElem?_map,Option.map_eq_some_iff] at hv
      obtain ⟨c,hc,rfl⟩ := hv
      exact (h c (List.mem_of_getElem? hc)).one
    · intro j x v hx hv
      simp only [List.getElem?_toArray,List.getElem?_map,Option.map_eq_some_iff] at hv
      obtain ⟨c,hc,rfl⟩ := hv
      simp only [sealRow_eq,cellRow_eq,List.map_map,List.getElem?_map,hc,Option.map_some,Option.some.injEq] at hx
      subst hx
      exact (h c (List.mem_of_getElem? hc)).view hS fun b hb' => hb b (mem_blocksRow hc hb')
  | false =>
    obtain ⟨c,rfl⟩ := hg rfl
    simp only [cellRow,sealRow,mkV,cval,Bool.false_eq_true,if_false]
    exact (h c (by simp)).view hS fun b hb' => hb b (by simp [blocksRow,hb'])
theorem Inv.loc_ok (I : Inv N F S s w) {p : Place} {h : Option (Nat × Nat)} {r : List GC} (hl : s.loc p = some (h,r)) : AllOk N w S r := by
  cases h with
  | some x => exact (I.loc_mem (b := x.1) (base := x.2) hl).1
  | none =>
    unfold GS.loc at hl
    cases hr : s.root p.root with
    | none => simp [hr] at hl
    | some x =>
      obtain ⟨ob,gs⟩ := x
      simp only [hr] at hl
      by_cases hp : p.path = []
      · rw [hp] at hl
        simp only [locRow,Option.some.injEq,Prod.mk.injEq] at hl
        obtain ⟨hob,rfl⟩ := hl
        cases hroot : p.root with
        | box k =>
          rw [hroot] at hr
          simp only [GS.root] at hr
          cases hb : s.β k with
          | none => simp [hb] at hr
          | some y => simp [hb] at hr; rw [← hr.1] at hob; simp at hob
        | slot k =>
          rw [hroot] at hr
          simp only [GS.root] at hr
          have := I.slot k
          cases hγ : s.γ k with
          | own gs0 g =>
            simp only [hγ,Option.some.injEq,Prod.mk.injEq] at hr
            rw [hγ] at this
            rw [← hr.2]; exact this.1
          | _ => simp [hγ] at hr
      · obtain ⟨b,base,e⟩ := locRow_some _ _ _ _ _ hp hl
        cases e
theorem GT.ok_read {g : GT} (I : Inv N F S s w) (h : g.ok N w S s) {v : AV} (hv : g.tv.rd = some v) : VR N w (fun _ => True) v g.val := by
  cases g with
  | av v' cv => simp only [GT.tv,TV.rd,Option.some.injEq] at hv; subst hv; exact VR.mono (fun _ _ => rfl) (fun _ _ => trivial) h
  | own gs g =>
    simp only [GT.tv,TV.rd,Option.some.injEq] at hv; subst hv
    exact view_cval h.1 h.2 (fun _ _ => trivial) fun _ _ => trivial
  | ali v' p cv =>
    simp only [GT.tv,TV.rd,Option.some.injEq] at hv; subst hv
    cases p with
    | none => exact h
    | some p =>
      obtain ⟨h',r,n,g,h1,h2,h3,rfl,rfl⟩ := h
      have hr := I.loc_ok h1
      refine view_cval (S := S) (fun c hc => hr c (List.mem_of_mem_drop (List.mem_of_mem_take hc))) (fun hg => ?_) (fun _ _ => trivial) fun _ _ => trivial
      have hn := h3 hg
      exact List.length_eq_one_iff.1 (by simp; omega)
  | plc p a => simp [GT.tv,TV.rd] at hv
  | hd p l a => simp [GT.tv,TV.rd] at hv
  | tup l vs => simp [GT.tv,TV.rd] at hv
  | skp => simp [GT.tv,TV.rd] at hv
  | und cv => simp [GT.tv,TV.rd] at hv
theorem Rel.opd_rd (R : Rel N F S s st a w) {x : Opd} {y : Operand} (h : okO N x y = true) {v : AV} (hv : (st.opd x).rd = some v) : VR N w (fun _ => True) v (a.eval y) := by
  obtain ⟨g,h1,h2,h3,_⟩ := R.opd h
  rw [← h2]
  exact GT.ok_read R.inv h3 (by rw [h1]; exact hv)
end
end Hm
/- Operations that read. Conditions: none (plain lemmas). -/
namespace Hm
open Go
section
variable {P : Program} {N : Nm} {F : Fx} {S : Nat → Prop} {s : GS} {st st' : St} {a : Act} {w : World} {dst : Option Nat} {o : Oper} {tv : TV}
theorem Rel.drop (R : Rel N F S s st a w) {n : Nat} (hn : n ∉ F.roots) :
    Rel N F S (s.put n (.und (s.γ n).val)) (st.put n .und) a w ∧ Free F S (s.put n (.und (s.γ n).val)) (s.γ n).blocks := by
  obtain ⟨h1,h2⟩ := R.inv.drop n (s.γ n).val fun j p _ hp e => hn (R.inv.rooted j p hp n e)
  refine ⟨⟨h1,⟨fun k => ?_,R.er.box⟩,fun k => ?_,R.size,R.dfr⟩,h2⟩
  · rw [getE_put]
    by_cases h : k = n
    · subst h; rw [s.put_γ,if_pos rfl]; rfl
    · rw [s.put_γ_ne _ h,if_neg (fun e => h e.symm)]; exact R.er.env k
  · by_cases h : k = n
    · subst h; rw [s.put_γ]; exact R.tmp k
    · rw [s.put_γ_ne _ h]; exact R.tmp k
theorem okE_okO {roots : List Nat} {x : Opd} {y : Operand} (h : okE N roots x y = true) : okO N x y = true ∧ ∀ n,x = .t n → n ∉ roots := by
  simp only [okE,Bool.and_eq_true] at h
  refine ⟨h.1,fun n e => ?_⟩
  subst e
  simpa using h.2
theorem Rel.own (R : Rel N F S s st a w) {x : Opd} {y : Operand} (h : okE N F.roots x y = true) {cs : List Cell} {g : Bool} (hv : st.opd x = .own cs g) :
    ∃ s' gs,Rel N F S s' (x.eat st) a w ∧ cellRow gs = cs ∧ AllOk N w S gs ∧ (g = false → ∃ c,gs = [c]) ∧ a.eval y = cval g gs ∧ Free F S s' (blocksRow gs) := by
  obtain ⟨h0,hroot⟩ := okE_okO h
  obtain ⟨t,h1,h2,h3,h4⟩ := R.opd h0
  rw [hv] at h1
  obtain ⟨gs,rfl,rfl⟩ := GT.of_own h1
  rcases h4 with ⟨n,rfl,e⟩ | ⟨hn,hb,_⟩
  · obtain ⟨d1,d2⟩ := R.drop (hroot n rfl)
    have hv' : getE st.env n = .own (cellRow gs) g := hv
    have heat : (Opd.t n).eat st = st.put n .und := by simp only [Opd.eat,hv']
    rw [← e] at d1 d2
    exact ⟨_,gs,by rw [heat]; exact d1,rfl,h3.1,h3.2,h2.symm,d2⟩
  · have heat : x.eat st = st := by cases x with
      | t n => exact absurd rfl (hn n)
      | _ => rfl
    have hb' : blocksRow gs = [] := hb
    exact ⟨s,gs,by rw [heat]; exact R,rfl,h3.1,h3.2,h2.symm,by rw [hb']; exact Free.nil⟩
theorem VR.cells {v : AV} {cv : Value} (h : VR N w S v cv) (hv : v ≠ .und) :
    ∃ gs : List GC,cellRow gs = cellsOf v ∧ AllOk N w S gs ∧ blocksRow gs = [] ∧ cv = cval v.isAgg gs ∧ gs.map GC.val = cv.cells.toList ∧ (v.isAgg = false → ∃ c,gs = [c]) := by
  have one : ∀ {v : AV} {cv : Value},VR N w S v cv → cv.oneCell' = true → v.isAgg = false → cellsOf v = [.av v] → cv.cells = #[cv] →
      ∃ gs : List GC,cellRow gs = cellsOf v ∧ AllOk N w S gs ∧ blocksRow gs = [] ∧ cv = cval v.isAgg gs ∧ gs.map GC.val = cv.cells.toList ∧ (v.isAgg = false → ∃ c,gs = [c]) :=
    fun {v cv} h h1 h2 h3 h4 => ⟨[.av v cv],by rw [h3]; rfl,fun c hc => by rw [List.mem_singleton.1 hc]; exact .av v cv h h1,rfl,
      by rw [h2]; rfl,by rw [h4]; rfl,fun _ => ⟨_,rfl⟩⟩
  cases h with
  | agg cs vs hl h1 hvs =>
    have hget : ∀ j,j < cs.length → (∃ x,cs[j]? = some x) ∧ ∃ v,vs[j]? = some v := fun j hj =>
      ⟨⟨cs[j],List.getElem?_eq_getElem hj⟩,⟨vs[j],Array.getElem?_eq_getElem (by omega)⟩⟩
    refine ⟨(List.range cs.length).map fun j => GC.av (cs[j]?.getD default) (vs[j]?.getD default),?_,?_,?_,?_,?_,by simp [AV.isAgg]⟩
    · rw [cellRow_eq,cellsOf,List.map_map]
      apply List.ext_getElem?
      intro j
      by_cases hj : j < cs.length
      · obtain ⟨⟨x,hx⟩,_⟩ := hget j hj
        simp [List.getElem?_map,List.getElem?_range hj,hx,GC.cell]
      · simp [List.getElem?_eq_none (Nat.le_of_not_lt hj),hj]
    · intro c hc
      simp only [List.mem_map,List.mem_range] at hc
      obtain ⟨j,hj,rfl⟩ := hc
      obtain ⟨⟨x,hx⟩,v,hv'⟩ := hget j hj
      simp only [hx,hv',Option.getD_some]
      exact .av x v (hvs j x v hx hv') (h1 j v hv')
    · rw [blocksRow_eq]; simp [GC.blocks]
    · simp only [AV.isAgg,cval,if_true,List.map_map]
      congr 1
      apply Array.ext_getElem?
      intro j
      by_cases hj : j < cs.length
      · obtain ⟨_,v,hv'⟩ := hget j hj
        simp [List.getElem?_range hj,hv',GC.val]
      · simp [hj,Array.getElem?_eq_none (show vs.size ≤ j by omega)]
    · simp only [Value.cells,List.map_map]
      apply List.ext_getElem?
      intro j
      by_cases hj : j < cs.length
      · obtain ⟨_,v,hv'⟩ := hget j hj
        simp [List.getElem?_range hj,hv',GC.val]
      · simp [hj,Array.getElem?_eq_none (show vs.size ≤ j by omega)]
  | und v => exact absurd rfl hv
  | int k n => exact one (.int k n) rfl rfl rfl rfl
  | bool b => exact one (.bool b) rfl rfl rfl rfl
  | str b => exact one (.str b) rfl rfl rfl rfl
  | lstNil st a c hc ha => exact one (.lstNil st a c hc ha) rfl rfl rfl rfl
  | lst rows a c st cv h0 hS hsp hl hc hst hr hcell h1 hvv => exact one (.lst rows a c st cv h0 hS hsp hl hc hst hr hcell h1 hvv) rfl rfl rfl rfl
  | vptr cs a cv hS hsp hcell h1 hvv => exact one (.vptr cs a cv hS hsp hcell h1 hvv) rfl rfl rfl rfl
  | nilp => exact one .nilp rfl rfl rfl rfl
  | clo f first caps fs cs hf hc h1 h2 => exact one (.clo f first caps fs cs hf hc h1 h2) rfl rfl rfl rfl
  | nilf => exact one .nilf rfl rfl rfl rfl
  | emp st a c hc ha => exact one (.emp st a c hc ha) rfl rfl rfl rfl
  | iface t v cv h => exact one (.iface t v cv h) rfl rfl rfl rfl
  | nili => exact one .nili rfl rfl rfl rfl
  | tag n cv h h1 h2 => exact one (.tag n cv h h1 h2) h1 rfl rfl h2
  | tab n b ty fr hb hc => exact one (.tab n b ty fr hb hc) rfl rfl rfl rfl
theorem cval_cells {gs : List GC} {g : Bool} (h : AllOk N w S gs) (hg : g = false → ∃ c,gs = [c]) : (cval g gs).cells.toList = gs.map GC.val := by
  cases g with
  | true => simp [cval,Value.cells]
  | false =>
    obtain ⟨c,rfl⟩ := hg rfl
    have h1 := (h c (by simp)).one
    simp only [cval,Bool.false_eq_true,if_false]
    cases hv : c.val <;> simp_all [Value.cells,Value.oneCell']
theorem Rel.give (R : Rel N F S s st a w) {x : Opd} {y : Operand} (h : okE N F.roots x y = true) {cs : List Cell} {g : Bool} (hv : (st.opd x).give = some (cs,g)) :
    ∃ s' gs,Rel N F S s' (x.eat st) a w ∧ cellRow gs = cs ∧ AllOk N w S gs ∧ (g = false → ∃ c,gs = [c]) ∧ a.eval y = cval g gs ∧ Free F S s' (blocksRow gs) ∧
      (a.eval y).cells.toList = gs.map GC.val := by
  cases ho : st.opd x with
  | av v =>
    rw [ho] at hv
    have hne : v ≠ .und := fun e => by subst e; simp [TV.give] at hv
    have hv' : some (cellsOf v,v.isAgg) = some (cs,g) := by
      cases v <;> first | exact absurd rfl hne | exact hv
    simp only [Option.some.injEq,Prod.mk.injEq] at hv'
    obtain ⟨rfl,rfl⟩ := hv'
    obtain ⟨gs,h1,h2,h3,h4,h5,h6⟩ := (R.opd_av (okE_okO h).1 ho).cells hne
    have heat : x.eat st = st := by cases x with
      | t n => have ho' : getE st.env n = .av v := ho
               simp only [Opd.eat,ho']
      | _ => rfl
    exact ⟨s,gs,by rw [heat]; exact R,h1,h2,h6,h4,by rw [h3]; exact Free.nil,h5.symm⟩
  | own cs' g' =>
    rw [ho] at hv
    simp only [TV.give,Option.some.injEq,Prod.mk.injEq] at hv
    obtain ⟨rfl,rfl⟩ := hv
    obtain ⟨s',gs,h1,h2,h3,h4,h5,h6⟩ := R.own h ho
    exact ⟨s',gs,h1,h2,h3,h4,h5,h6,by rw [h5]; exact cval_cells h3 h4⟩
  | ali v p => rw [ho] at hv; simp [TV.give] at hv
  | plc p => rw [ho] at hv; simp [TV.give] at hv
  | hd p l => rw [ho] at hv; simp [TV.give] at hv
  | tup l => rw [ho] at hv; simp [TV.give] at hv
  | skp => rw [ho] at hv; simp [TV.give] at hv
  | und => rw [ho] at hv; simp [TV.give] at hv
/-! ### The operations -/
theorem sim_pick {c x y : Opd} (R : Rel N F S s st a w) (hd : ∀ d,dst = some d → d ∉ F.roots) (hok : okOp P N F.roots (.pick c x y) o = true)
    (h : stepOp dst (.pick c x y) st = some (tv,st')) : PureDone P N F S st' a w dst tv (execOp a.eval o) := by
  simp only [okOp] at hok
  split at hok
  · rename_i c' a' b' ho
    simp only [Bool.and_eq_true] at hok
    obtain ⟨⟨h1,h2⟩,h3⟩ := hok
    simp only [stepOp] at h
    split at h
    · rename_i b hc
      have hc' := R.opd_av h1 hc
      split at h
      · rename_i v hv
        simp only [Option.some.injEq,Prod.mk.injEq] at h
        obtain ⟨rfl,rfl⟩ := h
        cases hcv : a.eval c' with
        | bool b' =>
          rw [hcv] at hc'
          cases hc'
          have hv' : VR N w S v (a.eval (if b then a' else b')) := by
            cases b with
            | true => exact R.opd_av h2 hv
            | false => exact R.opd_av h3 hv
          refine R.done_av hd ?_ hv'
          intro w'
          simp only [execOp,ho,hcv,asBool]
          cases b <;> rfl
        | _ => rw [hcv] at hc'; cases hc'
      · cases h
    · cases h
  · cases hok
theorem sim_mv {x : Opd} (R : Rel N F S s st a w) (hd : ∀ d,dst = some d → d ∉ F.roots) (hok : okOp P N F.roots (.mv x) o = true)
    (h : stepOp dst (.mv x) st = some (tv,st')) : PureDone P N F S st' a w dst tv (execOp a.eval o) := by
  simp only [okOp] at hok
  split at hok
  · rename_i y ho
    have hrun : ∀ w',(execOp a.eval o).run P w' = .ok (.value (a.eval y)) w' := fun w' => by simp only [execOp,ho]; rfl
    obtain ⟨h0,hroot⟩ := okE_okO hok
    obtain ⟨t,h1,h2,h3,h4⟩ := R.opd h0
    rw [← h2] at hrun
    have hg : ∀ p,t.place? = some p → ∀ n,p.root = .slot n → n ∈ F.roots := by
      intro p hp n hn
      rcases h4 with ⟨m,_,rfl⟩ | ⟨_,_,e⟩
      · exact R.inv.rooted m p hp n hn
      · rw [e] at hp; cases hp
    simp only [stepOp,← h1] at h
    cases t with
    | av v cv =>
      simp only [GT.tv,Option.some.injEq,Prod.mk.injEq] at h
      obtain ⟨rfl,rfl⟩ := h
      exact R.done hd hrun h3 rfl hg
    | plc p ad =>
      simp only [GT.tv,Option.some.injEq,Prod.mk.injEq] at h
      obtain ⟨rfl,rfl⟩ := h
      exact R.done hd hrun h3 rfl hg
    | ali v p cv =>
      simp only [GT.tv,Option.some.injEq,Prod.mk.injEq] at h
      obtain ⟨rfl,rfl⟩ := h
      exact R.done hd hrun h3 rfl hg
    | own gs g =>
      simp only [GT.tv] at h
      cases x with
      | w cs' g' =>
        simp only [Option.some.injEq,Prod.mk.injEq] at h
        obtain ⟨rfl,rfl⟩ := h
        rcases h4 with ⟨m,e,_⟩ | ⟨_,hb,_⟩
        · cases e
        · exact R.done hd hrun h3 hb hg
      | _ => cases h
    | tup l vs =>
      simp only [GT.tv] at h
      cases x with
      | t n =>
        simp only [Option.some.injEq,Prod.mk.injEq] at h
        obtain ⟨rfl,rfl⟩ := h
        rcases h4 with ⟨m,e,e'⟩ | ⟨hn,_,_⟩
        · cases e
          obtain ⟨d1,d2⟩ := R.drop (hroot n rfl)
          rw [← e'] at d1 d2
          refine ⟨_,S,_,.tup l vs,hrun,fun _ h => h,d1,⟨rfl,rfl,?_,d2,by simp [GT.place?],d1.unrooted hd (by simp [GT.place?])⟩⟩
          exact h3
        · exact absurd rfl (hn n)
      | _ => cases h
    | skp => simp [GT.tv] at h
    | hd p l cv => simp [GT.tv] at h
    | und cv => simp [GT.tv] at h
  · cases hok
theorem sim_asg {x : Opd} (R : Rel N F S s st a w) (hd : ∀ d,dst = some d → d ∉ F.roots) (hok : okOp P N F.roots (.asg x) o = true)
    (h : stepOp dst (.asg x) st = some (tv,st')) : PureDone P N F S st' a w dst tv (execOp a.eval o) := by
  simp only [okOp] at hok
  split at hok
  · rename_i y ho
    have hrun : ∀ w',(execOp a.eval o).run P w' = .ok (.value (a.eval y)) w' := fun w' => by simp only [execOp,ho]; rfl
    obtain ⟨h0,hroot⟩ := okE_okO hok
    simp only [stepOp] at h
    cases hx : st.opd x with
    | av v =>
      simp only [hx,Option.some.injEq,Prod.mk.injEq] at h
      obtain ⟨rfl,rfl⟩ := h
      exact R.done_av hd hrun (R.opd_av h0 hx)
    | plc p =>
      simp only [hx,Option.some.injEq,Prod.mk.injEq] at h
      obtain ⟨rfl,rfl⟩ := h
      obtain ⟨n,b,base,r,rfl,e1,e2,e3,e4⟩ := R.opd_plc h0 hx
      have := R.inv.slot n
      rw [e1] at this
      refine R.done hd (g := .plc p ⟨b,base + p.off,none⟩) (fun w' => by rw [hrun,e4]; rfl) this rfl fun q hq m hm => R.inv.rooted n q (by rw [e1]; exact hq) m hm
    | own cs g =>
      simp only [hx,Option.some.injEq,Prod.mk.injEq] at h
      obtain ⟨rfl,rfl⟩ := h
      obtain ⟨s',gs,d1,rfl,d3,d4,d5,d6⟩ := R.own hok hx
      exact ⟨_,S,s',.own gs g,hrun,fun _ h => h,d1,⟨rfl,d5.symm,⟨d3,d4⟩,d6,by simp [GT.place?],d1.unrooted hd (by simp [GT.place?])⟩⟩
    | _ => simp [hx] at h
  · cases hok
end
end Hm
/- Operations that reckon. Conditions: none (plain lemmas). -/
namespace Hm
open Go
section
variable {P : Program} {N : Nm} {F : Fx} {S : Nat → Prop} {s : GS} {st st' : St} {a : Act} {w : World} {dst : Option Nat} {o : Oper} {tv : TV}
theorem bLess_eq (a b : List UInt8) : Op.bytesLess a b = binA.bLess a b := by
  induction a generalizing b with
  | nil => cases b <;> rfl
  | cons x a ih =>
    cases b with
    | nil => rfl
    | cons y b => simp only [Op.bytesLess,binA.bLess,ih]
theorem bin_run {op : BinOp} {t : TypeId} {xo yo : Operand} {u v r : AV} {x y : Value} (hx : VR N w S u x) (hy : VR N w S v y) (h : binA op u v = some r) :
    ∃ cv,(∀ w',(do eqGuard op t xo yo x y; binOp op t x y : Sem Value).run P w' = .ok cv w') ∧ VR N w S r cv := by
  unfold binA at h
  split at h
  · cases hx; cases hy
    rename_i k n k' m
    have hg : ∀ w',(eqGuard op t xo yo (.int k n) (.int k' m)).run P w' = .ok () w' := by
      intro w'
      simp only [eqGuard]
      cases op <;> simp <;> rfl
    simp only [Sem.run_bind,hg,Result.andThen_ok]
    cases op with
    | shl =>
      simp only at h
      split at h
      · cases h
      · rename_i hm
        simp only [Option.some.injEq] at h; subst h
        exact ⟨_,fun w' => by simp only [binOp,Op.shift,if_neg hm]; rfl,.int _ _⟩
    | shr =>
      simp only at h
      split at h
      · cases h
      · rename_i hm
        simp only [Option.some.injEq] at h; subst h
        exact ⟨_,fun w' => by simp only [binOp,Op.shift,if_neg hm]; rfl,.int _ _⟩
    | _ =>
      simp only at h
      split at h
      · cases h
      · rename_i hk
        simp only [ne_eq,Decidable.not_not] at hk; subst hk
        first
          | (simp only [Option.some.injEq] at h; subst h
             exact ⟨_,fun w' => by simp only [binOp,Op.intArith,Op.intBits,Op.intCmp,ne_eq,not_true,if_false]; rfl,.int _ _⟩)
          | (simp only [Option.some.injEq] at h; subst h
             exact ⟨_,fun w' => by simp only [binOp,Op.intArith,Op.intBits,Op.intCmp,ne_eq,not_true,if_false]; rfl,.bool _⟩)
          | (split at h
             · cases h
             · rename_i hm
               simp only [Option.some.injEq] at h; subst h
               exact ⟨_,fun w' => by simp only [binOp,Op.intDiv,ne_eq,not_true,if_false,if_neg hm]; rfl,.int _ _⟩)
          | cases h
  · cases hx; cases hy
    rename_i a b
    have hg : ∀ w',(eqGuard op t xo yo (.string a) (.string b)).run P w' = .ok () w' := by
      intro w'
      simp only [eqGuard]
      cases op <;> simp <;> rfl
    simp only [Sem.run_bind,hg,Result.andThen_ok]
    cases op with
    | add =>
      simp only at h
      split at h
      · rename_i hl
        simp only [Option.some.injEq] at h; subst h
        have hsz : a.size + b.size ≤ 2 ^ 62 := hl
        have : ¬ (((a.size + b.size : Nat) : Int) > IntKind.i64.max) := by
          have : IntKind.i64.max = 9223372036854775807 := by decide
          rw [this]
          omega
        refine ⟨.string (a ++ b),fun w' => by simp only [binOp,Op.stringOp,if_neg this]; rfl,?_⟩
        have e : a.data.toList ++ b.data.toList = (a ++ b).data.toList := by simp
        rw [e]; exact .str _
      · cases h
    | _ =>
      first
        | (simp only [Option.some.injEq] at h; subst h
           exact ⟨_,fun w' => by simp only [binOp,Op.stringOp,bLess_eq,ByteArray.toList_eq]; rfl,.bool _⟩)
        | cases h
  · cases h
theorem sim_bin {op : BinOp} {x y : Opd} (R : Rel N F S s st a w) (hd : ∀ d,dst = some d → d ∉ F.roots) (hok : okOp P N F.roots (.bin op x y) o = true)
    (h : stepOp dst (.bin op x y) st = some (tv,st')) : PureDone P N F S st' a w dst tv (execOp a.eval o) := by
  simp only [okOp] at hok
  split at hok
  · rename_i op' t x' y' ty ho
    simp only [Bool.and_eq_true,decide_eq_true_eq] at hok
    obtain ⟨⟨rfl,h1⟩,h2⟩ := hok
    simp only [stepOp] at h
    split at h
    · rename_i u v hx hy
      split at h
      · rename_i r hr
        simp only [Option.some.injEq,Prod.mk.injEq] at h
        obtain ⟨rfl,rfl⟩ := h
        obtain ⟨cv,e1,e2⟩ := bin_run (P := P) (t := t) (xo := x') (yo := y') (R.opd_av h1 hx) (R.opd_av h2 hy) hr
        refine R.done_av hd ?_ e2
        intro w'
        simp only [execOp,ho]
        rw [Sem.run_bind,e1]; rfl
      · cases h
    · cases h
  · cases hok
theorem sim_binB {neg : Bool} {x y : Opd} (R : Rel N F S s st a w) (hd : ∀ d,dst = some d → d ∉ F.roots) (hok : okOp P N F.roots (.binB neg x y) o = true)
    (h : stepOp dst (.binB neg x y) st = some (tv,st')) : PureDone P N F S st' a w dst tv (execOp a.eval o) := by
  simp only [okOp] at hok
  split at hok
  · rename_i op' t x' y' ty ho
    simp only [Bool.and_eq_true,decide_eq_true_eq] at hok
    obtain ⟨⟨⟨rfl,ht⟩,h1⟩,h2⟩ := hok
    have hu : P.underlying t = some .bool := by
      cases hu : P.underlying t with
      | none => simp [hu] at ht
      | some d => cases d <;> simp_all
    simp only [stepOp] at h
    split at h
    · rename_i u v hx hy
      simp only [Option.some.injEq,Prod.mk.injEq] at h
      obtain ⟨rfl,rfl⟩ := h
      have e1 := R.opd_av h1 hx
      have e2 := R.opd_av h2 hy
      generalize hcx : a.eval x' = cx at e1
      generalize hcy : a.eval y' = cy at e2
      cases e1; cases e2
      refine R.done_av (cv := .bool (if neg then !(u == v) else u == v)) hd ?_ (.bool _)
      intro w'
      simp only [execOp,ho,hcx,hcy]
      have he : ∀ w,(Op.equal t (.bool u) (.bool v)).run P w = .ok (u == v) w := fun w => run_equalIn_bool' w 9999 t u v hu
      cases neg <;> simp [eqGuard,binOp,he]
    · cases h
  · cases hok
theorem sim_un {op : UnOp} {x : Opd} (R : Rel N F S s st a w) (hd : ∀ d,dst = some d → d ∉ F.roots) (hok : okOp P N F.roots (.un op x) o = true)
    (h : stepOp dst (.un op x) st = some (tv,st')) : PureDone P N F S st' a w dst tv (execOp a.eval o) := by
  simp only [okOp] at hok
  split at hok
  · rename_i op' t x' ho
    simp only [Bool.and_eq_true,decide_eq_true_eq] at hok
    obtain ⟨rfl,h1⟩ := hok
    simp only [stepOp] at h
    split at h
    · rename_i u hx
      have e1 := R.opd_av h1 hx
      generalize hcx : a.eval x' = cx at e1
      split at h
      · rename_i r hr
        simp only [Option.some.injEq,Prod.mk.injEq] at h
        obtain ⟨rfl,rfl⟩ := h
        unfold unA at hr
        split at hr
        · cases e1
          simp only [Option.some.injEq] at hr; subst hr
          refine R.done_av hd ?_ (.bool _)
          intro w'
          simp only [execOp,ho,hcx]; rfl
        · cases e1
          simp only [Option.some.injEq] at hr; subst hr
          refine R.done_av hd ?_ (.int _ _)
          intro w'
          simp only [execOp,ho,hcx]; rfl
        · cases hr
      · cases h
    · cases h
  · cases hok
theorem sim_len {isStr : Bool} {x : Opd} (R : Rel N F S s st a w) (hd : ∀ d,dst = some d → d ∉ F.roots) (hok : okOp P N F.roots (.len isStr x) o = true)
    (h : stepOp dst (.len isStr x) st = some (tv,st')) : PureDone P N F S st' a w dst tv (execOp a.eval o) := by
  simp only [okOp] at hok
  split at hok
  · rename_i args argTypes ho
    simp only [Bool.and_eq_true] at hok
    obtain ⟨h1,h2⟩ := hok
    obtain ⟨y,hy,h1'⟩ : ∃ y,args.toList = [y] ∧ okO N x y = true := by
      cases ha : args.toList with
      | nil => simp [ha,okOs] at h1
      | cons y r => cases r with
        | nil => simp [ha,okOs] at h1; exact ⟨y,rfl,h1⟩
        | cons z r => simp [ha,okOs] at h1
    have hargs : args = #[y] := by rw [← hy]
    subst hargs
    split at h2
    · rename_i t ht
      have hty : argTypes = #[t] := by rw [← ht]
      subst hty
      simp only [stepOp] at h
      split at h
      · rename_i l hx
        simp only [Option.some.injEq,Prod.mk.injEq] at h
        obtain ⟨rfl,rfl⟩ := h
        have e1 := R.opd_rd h1' hx
        have hu : P.underlying t = some .string := by
          cases hu : P.underlying t with
          | none => simp [hu] at h2
          | some d => cases d <;> simp_all
        cases hcx : a.eval y <;> rw [hcx] at e1 <;> cases e1
        rename_i b
        refine R.done_av (cv := .int .i64 (b.size : Nat)) hd ?_ (.int .i64 _)
        intro w'
        simp only [execOp,ho]
        simp [resolve,invoke,builtin,hcx,Builtin.len_,run_underlying hu,goInt]
      · rename_i k rows hx
        simp only [Option.some.injEq,Prod.mk.injEq] at h
        obtain ⟨rfl,rfl⟩ := h
        have e1 := R.opd_rd h1' hx
        obtain ⟨e,hu⟩ : ∃ e,P.underlying t = some (.slice e) := by
          cases hu : P.underlying t with
          | none => simp [hu] at h2
          | some d => cases d <;> simp_all
        have : ∃ b c,a.eval y = .slice b rows.length c := by
          generalize a.eval y = cy at e1
          cases e1
          · exact ⟨_,_,rfl⟩
          · exact ⟨_,_,rfl⟩
        obtain ⟨b,c,hcx⟩ := this
        refine R.done_av hd ?_ (.int _ _)
        intro w'
        simp only [execOp,ho]
        simp [resolve,invoke,builtin,hcx,Builtin.len_,run_underlying hu,goInt]
      · cases h
    · cases h2
  · cases hok
end
end Hm
/- Operations that read memory, and addresses. Conditions: none (plain lemmas). -/
namespace Hm
open Go
section
variable {P : Program} {N : Nm} {F : Fx} {S : Nat → Prop} {s : GS} {st st' : St} {a : Act} {w : World} {dst : Option Nat} {o : Oper} {tv : TV}
theorem tySize_info {t : TypeId} {n : Nat} (h : tySize P t = some n) : ∃ i,P.info? t = some i ∧ i.size = n := by
  unfold tySize at h
  cases hi : P.info? t with
  | none => simp [hi] at h
  | some i => simp [hi] at h; exact ⟨i,rfl,h⟩
theorem run_sizeOf {t : TypeId} {n : Nat} (h : tySize P t = some n) (w : World) : (Go.sizeOf t).run P w = .ok n w := by
  obtain ⟨i,h1,h2⟩ := tySize_info h
  simp [Go.sizeOf,typeInfo,h1,h2]
theorem run_isAgg {t : TypeId} {g : Bool} (h : tyAgg P t = some g) (w : World) : (isAgg t).run P w = .ok g w := by
  unfold tyAgg at h
  cases hu : P.underlying t with
  | none => simp [hu] at h
  | some d =>
    simp only [isAgg,Sem.run_bind,run_underlying hu,Result.andThen_ok]
    cases d <;> simp_all
theorem add_addr (b o n : Nat) : (⟨b,o,none⟩ : Addr).add n = ⟨b,o + n,none⟩ := by
  unfold Addr.add; split <;> simp_all
theorem run_load_cells {t : TypeId} {n : Nat} {g : Bool} (ht : tyIs P t n g = true) {b o : Nat} {vs : List Value} (hn : vs.length = n)
    (hc : ∀ j v,vs[j]? = some v → w.cell? ⟨b,o + j,none⟩ = some v) :
    (loadVar t ⟨b,o,none⟩).run P w = .ok (if g then .agg vs.toArray else vs.getD 0 undef) w := by
  simp only [tyIs,Bool.and_eq_true,beq_iff_eq,Bool.or_eq_true] at ht
  obtain ⟨⟨h1,h2⟩,h3⟩ := ht
  simp only [loadVar,Sem.run_bind,run_isAgg h2,Result.andThen_ok]
  cases g with
  | true =>
    have hl := run_loadCells_list (P := P) w ⟨b,o,none⟩ vs fun j v hj => by rw [add_addr]; exact hc j v hj
    simp [run_sizeOf h1,← hn,hl]
  | false =>
    simp only [Bool.false_eq_true,false_or] at h3
    subst h3
    obtain ⟨v,rfl⟩ := List.length_eq_one_iff.1 hn
    have := hc 0 v rfl
    simp only [Nat.add_zero] at this
    simp [this]
theorem allAv_eq : ∀ {gs : List GC} {vs : List AV},allAv (cellRow gs) = some vs → AllOk N w S gs → vs.length = gs.length ∧
    ∀ (j : Nat) (x : AV) (c : GC),vs[j]? = some x → gs[j]? = some c → VR N w S x c.val
  | [],vs,h,_ => by simp [cellRow,allAv] at h; subst h; simp
  | c :: gs,vs,h,hok => by
    simp only [cellRow] at h
    cases c with
    | av v cv =>
      simp only [GC.cell,allAv] at h
      split at h
      · rename_i vs' hvs
        simp only [Option.some.injEq] at h; subst h
        obtain ⟨h1,h2⟩ := allAv_eq hvs fun c hc => hok c (List.mem_cons_of_mem _ hc)
        refine ⟨by simp [h1],fun j x c hx hc => ?_⟩
        cases j with
        | zero =>
          simp at hx hc; subst hx; subst hc
          have := hok (.av v cv) (by simp)
          cases this with | av _ _ h _ => exact h
        | succ j => exact h2 j x c (by simpa using hx) (by simpa using hc)
      · cases h
    | _ => simp [GC.cell,allAv] at h
theorem viewAv_eq : ∀ {gs : List GC} {vs : List AV},viewAv (cellRow gs) = some vs → AllOk N w S gs → vs.length = gs.length ∧
    ∀ (j : Nat) (x : AV) (c : GC),vs[j]? = some x → gs[j]? = some c → VR N w S x c.val
  | [],vs,h,_ => by simp [cellRow,viewAv] at h; subst h; simp
  | c :: gs,vs,h,hok => by
    have step : ∀ (x0 : AV) (vs' : List AV),viewAv (cellRow gs) = some vs' → vs = x0 :: vs' → VR N w S x0 c.val →
        vs.length = (c :: gs).length ∧ ∀ (j : Nat) (x : AV) (c' : GC),vs[j]? = some x → (c :: gs)[j]? = some c' → VR N w S x c'.val := by
      intro x0 vs' hvs e hv
      subst e
      obtain ⟨h1,h2⟩ := viewAv_eq hvs fun c hc => hok c (List.mem_cons_of_mem _ hc)
      refine ⟨by simp [h1],fun j x c' hx hc => ?_⟩
      cases j with
      | zero => simp at hx hc; subst hx; subst hc; exact hv
      | succ j => exact h2 j x c' (by simpa using hx) (by simpa using hc)
    simp only [cellRow] at h
    cases c with
    | av v cv =>
      simp only [GC.cell,viewAv] at h
      split at h
      · rename_i vs' hvs
        simp only [Option.some.injEq] at h
        have := hok (.av v cv) (by simp)
        cases this with | av _ _ hv _ => exact step v vs' hvs h.symm hv
      · cases h
    | nil k =>
      simp only [GC.cell,viewAv] at h
      split at h
      · rename_i vs' hvs
        simp only [Option.some.injEq] at h
        exact step (.lst k []) vs' hvs h.symm (.lstNil _ _ _ (Nat.zero_le _) fun _ => rfl)
      · cases h
    | own b cap k e rows =>
      cases rows with
      | nil =>
        simp only [GC.cell,cellRows,viewAv] at h
        split at h
        · rename_i vs' hvs
          simp only [Option.some.injEq] at h
          have := hok (.own b cap k e []) (by simp)
          cases this with | own _ _ _ _ _ cur hst hl hc hr hb hs hcur hok' => exact step (.lst k []) vs' hvs h.symm (.lstNil _ _ _ hc (by simp))
        · cases h
      | cons r rs => simp [GC.cell,cellRows,viewAv] at h
    | dead cv => simp [GC.cell,viewAv] at h
theorem cells_loc (E : Er s st) {p : Place} {n : Nat} {cs : List Cell} (h : st.cells p n = some cs) :
    ∃ hh r,s.loc p = some (hh,r) ∧ p.off + n ≤ r.length ∧ cs = cellRow ((r.drop p.off).take n) := by
  unfold St.cells at h
  rw [E.root] at h
  cases hr : s.root p.root with
  | none => simp [hr] at h
  | some x =>
    obtain ⟨ob,gs⟩ := x
    simp only [hr,Option.map_some] at h
    cases hg : getRow (cellRow gs) p.path with
    | none => simp [hg] at h
    | some row =>
      simp only [hg] at h
      obtain ⟨hh,r,e1,rfl⟩ := getRow_loc p.path gs (ob.map fun b => (b,0)) row hg
      split at h
      · rename_i hl
        simp only [Option.some.injEq] at h
        rw [cellRow_length] at hl
        exact ⟨hh,r,by simp only [GS.loc,hr]; exact e1,hl,by rw [← h,cellRow_take,cellRow_drop]⟩
      · cases h
theorem AllOk.sub {gs : List GC} (h : AllOk N w S gs) (o n : Nat) : AllOk N w S ((gs.drop o).take n) := fun c hc => h c (List.mem_of_mem_drop (List.mem_of_mem_take hc))
theorem tyIs_one {t : TypeId} {n : Nat} {g : Bool} (h : tyIs P t n g = true) : g = false → n = 1 := by
  intro e; subst e
  simp only [tyIs,Bool.and_eq_true,beq_iff_eq,Bool.or_eq_true,Bool.false_eq_true,false_or] at h
  exact h.2
theorem load_place (R : Rel N F S s st a w) {t : TypeId} {n : Nat} {g : Bool} (ht : tyIs P t n g = true) {x : Opd} {y : Operand} (hx : okO N x y = true) {p : Place}
    (hp : st.opd x = .plc p) {cs : List Cell} (hc : st.cells p n = some cs) :
    ∃ hh r,s.loc p = some (hh,r) ∧ p.off + n ≤ r.length ∧ cs = cellRow ((r.drop p.off).take n) ∧ AllOk N w S ((r.drop p.off).take n) ∧
      (Instr.loadAt t (a.eval y)).run P w = .ok (cval g ((r.drop p.off).take n)) w := by
  obtain ⟨m,b,base,r0,rfl,e1,e2,e3,e4⟩ := R.opd_plc hx hp
  obtain ⟨hh,r,h1,h2,h3⟩ := cells_loc R.er hc
  rw [e2] at h1
  simp only [Option.some.injEq,Prod.mk.injEq] at h1
  obtain ⟨rfl,rfl⟩ := h1
  obtain ⟨k1,⟨cur,e,k2,k3,k4⟩,k5⟩ := R.inv.loc_mem e2
  refine ⟨_,r0,e2,h2,h3,k1.sub _ _,?_⟩
  have hlen : (((r0.drop p.off).take n).map GC.val).length = n := by simp; omega
  have := run_load_cells (P := P) (w := w) ht (b := b) (o := base + p.off) hlen fun j v hj => by
    simp only [List.getElem?_map,List.getElem?_take,List.getElem?_drop,Option.map_eq_some_iff] at hj
    obtain ⟨c,hc',rfl⟩ := hj
    split at hc'
    · have := k4 (p.off + j) c hc'
      simp only [World.cell?,k2]
      rw [show base + p.off + j = base + (p.off + j) by omega]
      simpa using this
    · cases hc'
  simp only [Instr.loadAt,e4,Instr.sureAddr,Sem.run_bind,Sem.run_pure,Result.andThen_ok,this]
  congr 1
  cases g with
  | true => rfl
  | false =>
    have hn := tyIs_one ht rfl
    subst hn
    obtain ⟨c,hc'⟩ := List.length_eq_one_iff.1 (show ((r0.drop p.off).take 1).length = 1 by simp; omega)
    simp [hc',cval]
theorem VR.take_vptr {cs : List AV} {ad : Addr} {S' : Nat → Prop} (h : VR N w S' (.vptr cs) (.pointer (some ad))) {t : TypeId} {n : Nat} {g : Bool} (ht : tyIs P t n g = true) (hn : n ≤ cs.length) :
    ∃ cv,(loadVar t ad).run P w = .ok cv w ∧ VR N w S' (mkV g (cs.take n)) cv := by
  cases h with
  | vptr _ _ cvf hS hsp hcell h1 hv =>
    have had : ad = ⟨ad.block,ad.off,none⟩ := by cases ad; simp at hsp; simp [hsp]
    have hlen : ((List.range n).map cvf).length = n := by simp
    have hget : ∀ j,j < n → ∃ x,cs[j]? = some x := fun j hj => ⟨cs[j]'(by omega),List.getElem?_eq_getElem (by omega)⟩
    have hrun := run_load_cells (P := P) (w := w) ht (b := ad.block) (o := ad.off) hlen fun j v hj => by
      simp only [List.getElem?_map,Option.map_eq_some_iff] at hj
      obtain ⟨i,hi,rfl⟩ := hj
      have hjn : j < n := by
        have := (List.getElem?_eq_some_iff.1 hi).1; simpa using this
      rw [List.getElem?_range hjn] at hi
      simp only [Option.some.injEq] at hi; subst hi
      obtain ⟨x,hx⟩ := hget j hjn
      exact hcell j x hx
    rw [← had] at hrun
    refine ⟨_,hrun,?_⟩
    cases g with
    | true =>
      simp only [mkV,if_true]
      refine .agg _ _ (by simp; omega) ?_ ?_
      · intro j v hj
        simp only [List.getElem?_toArray,List.getElem?_map,Option.map_eq_some_iff] at hj
        obtain ⟨i,hi,rfl⟩ := hj
        have hjn : j < n := by
          have := (List.getElem?_eq_some_iff.1 hi).1; simpa using this
        rw [List.getElem?_range hjn] at hi
        simp only [Option.some.injEq] at hi; subst hi
        obtain ⟨x,hx⟩ := hget j hjn
        exact h1 j x hx
      · intro j x v hx hj
        simp only [List.getElem?_toArray,List.getElem?_map,Option.map_eq_some_iff] at hj
        obtain ⟨i,hi,rfl⟩ := hj
        have hjn : j < n := by
          have := (List.getElem?_eq_some_iff.1 hi).1; simpa using this
        rw [List.getElem?_range hjn] at hi
        simp only [Option.some.injEq] at hi; subst hi
        rw [List.getElem?_take,if_pos hjn] at hx
        exact hv j x hx
    | false =>
      have hn1 := tyIs_one ht rfl
      subst hn1
      obtain ⟨x,hx⟩ := hget 0 (by omega)
      cases cs with
      | nil => simp at hx
      | cons y ys =>
        simp only [List.getElem?_cons_zero,Option.some.injEq] at hx
        subst hx
        simpa [mkV] using hv 0 y rfl
theorem VR.ptr_form {cs : List AV} {cv : Value} {S' : Nat → Prop} (h : VR N w S' (.vptr cs) cv) : ∃ ad,cv = .pointer (some ad) := by
  cases h; exact ⟨_,rfl⟩
theorem Rel.opd_ali (R : Rel N F S s st a w) {x : Opd} {y : Operand} (h : okO N x y = true) {v : AV} {p : Option Place} (hv : st.opd x = .ali v p) :
    ∃ n cv,x = .t n ∧ s.γ n = .ali v p cv ∧ a.eval y = cv := by
  obtain ⟨g,h1,h2,h3,h4⟩ := R.opd h
  rw [hv] at h1
  obtain ⟨cv,rfl⟩ := GT.of_ali h1
  rcases h4 with ⟨n,rfl,e⟩ | ⟨hn,_,e⟩
  · exact ⟨n,cv,rfl,e.symm,h2.symm⟩
  · cases x with
    | t n => exact absurd rfl (hn n)
    | v a => simp [St.opd] at hv
    | w cs g => simp [St.opd] at hv
theorem sim_load {n : Nat} {g : Bool} {x : Opd} (R : Rel N F S s st a w) (hd : ∀ d,dst = some d → d ∉ F.roots) (hok : okOp P N F.roots (.load n g x) o = true)
    (h : stepOp dst (.load n g x) st = some (tv,st')) : OpDone N F S st' a dst tv ((execOp a.eval o).run P w) := by
  simp only [okOp] at hok
  split at hok
  · rename_i t y ho
    simp only [Bool.and_eq_true] at hok
    obtain ⟨ht,hx⟩ := hok
    have hrun : ∀ cv w',(Instr.loadAt t (a.eval y)).run P w = .ok cv w' → (execOp a.eval o).run P w = .ok (.value cv) w' := fun cv w' e => by
      simp only [execOp,ho]; rw [Sem.run_bind,e]; rfl
    simp only [stepOp] at h
    split at h
    · rename_i p hp
      split at h
      · rename_i cs hc
        obtain ⟨hh,r,e1,e2,e3,e4,e5⟩ := load_place R ht hx hp hc
        have hlen : ((r.drop p.off).take n).length = n := by simp; omega
        have plain : ∀ vs : List AV,(vs.length = ((r.drop p.off).take n).length ∧ ∀ (j : Nat) (x : AV) (c : GC),vs[j]? = some x → ((r.drop p.off).take n)[j]? = some c → VR N w S x c.val) →
            VR N w S (mkV g vs) (cval g ((r.drop p.off).take n)) := by
          rintro vs ⟨v1,v2⟩
          cases g with
          | true =>
            simp only [mkV,cval,if_true]
            refine .agg _ _ (by simp only [List.size_toArray,List.length_map]; exact v1) ?_ ?_
            · intro j v hj
              simp only [List.getElem?_toArray,List.getElem?_map,Option.map_eq_some_iff] at hj
              obtain ⟨c,hc',rfl⟩ := hj
              exact (e4 c (List.mem_of_getElem? hc')).one
            · intro j x v hx' hj
              simp only [List.getElem?_toArray,List.getElem?_map,Option.map_eq_some_iff] at hj
              obtain ⟨c,hc',rfl⟩ := hj
              exact v2 j x c hx' hc'
          | false =>
            have hn := tyIs_one ht rfl
            rw [hn] at hlen v1 v2 ⊢
            obtain ⟨c,hc'⟩ := List.length_eq_one_iff.1 hlen
            rw [hc'] at v1 v2 ⊢
            obtain ⟨x,rfl⟩ := List.length_eq_one_iff.1 v1
            simpa [mkV,cval] using v2 0 x c rfl rfl
        split at h
        · rename_i vs hvs
          simp only [Option.some.injEq,Prod.mk.injEq] at h
          obtain ⟨rfl,rfl⟩ := h
          refine R.done_av0 hd (hrun _ _ e5) (plain vs ?_)
          rw [e3] at hvs
          cases g with
          | true => exact viewAv_eq (by simpa using hvs) e4
          | false => exact allAv_eq (by simpa using hvs) e4
        · simp only [Option.some.injEq,Prod.mk.injEq] at h
          obtain ⟨rfl,rfl⟩ := h
          obtain ⟨m,b,base,r0,rfl,f1,_⟩ := R.opd_plc hx hp
          refine R.done0 hd (g := .ali (mkV g (sealRow cs)) (some p) (cval g ((r.drop p.off).take n))) (hrun _ _ e5)
            ⟨hh,r,n,g,e1,e2,tyIs_one ht,by rw [e3],rfl⟩ rfl ?_
          intro q hq j hj
          simp only [GT.place?,Option.some.injEq] at hq
          subst hq
          exact R.inv.rooted m p (by rw [f1]; rfl) j hj
      · cases h
    · rename_i cs hx'
      split at h
      · rename_i hl
        simp only [Option.some.injEq,Prod.mk.injEq] at h
        obtain ⟨rfl,rfl⟩ := h
        have e1 := R.opd_av hx hx'
        obtain ⟨ad,had⟩ := e1.ptr_form
        rw [had] at e1
        obtain ⟨cv,e2,e3⟩ := VR.take_vptr e1 ht hl
        exact R.done_av0 hd (hrun cv w (by simp [Instr.loadAt,had,Instr.sureAddr,e2])) e3
      · cases h
    · rename_i cs p hx'
      split at h
      · rename_i hl
        simp only [Option.some.injEq,Prod.mk.injEq] at h
        obtain ⟨rfl,rfl⟩ := h
        have e1 := R.opd_rd hx (v := .vptr cs) (by rw [hx']; rfl)
        obtain ⟨ad,had⟩ := e1.ptr_form
        rw [had] at e1
        obtain ⟨cv,e2,e3⟩ := VR.take_vptr e1 ht hl
        exact R.done0 hd (g := .ali (mkV g (cs.take n)) none cv) (hrun cv w (by simp [Instr.loadAt,had,Instr.sureAddr,e2])) e3 rfl (by simp [GT.place?])
      · cases h
    · cases h
  · cases hok
theorem sim_loadC {n : Nat} {x : Opd} (R : Rel N F S s st a w) (hd : ∀ d,dst = some d → d ∉ F.roots) (hok : okOp P N F.roots (.loadC n x) o = true)
    (h : stepOp dst (.loadC n x) st = some (tv,st')) : OpDone N F S st' a dst tv ((execOp a.eval o).run P w) := by
  simp only [okOp] at hok
  split at hok
  · rename_i t y ho
    simp only [Bool.and_eq_true] at hok
    obtain ⟨ht,hx⟩ := hok
    have hrun : ∀ cv w',(Instr.loadAt t (a.eval y)).run P w = .ok cv w' → (execOp a.eval o).run P w = .ok (.value cv) w' := fun cv w' e => by
      simp only [execOp,ho]; rw [Sem.run_bind,e]; rfl
    simp only [stepOp] at h
    split at h
    · rename_i p hp
      split at h
      · rename_i cs hc
        obtain ⟨hh,r,e1,e2,e3,e4,e5⟩ := load_place R ht hx hp hc
        have hlen : ((r.drop p.off).take n).length = n := by simp; omega
        have plain : ∀ vs : List AV,(vs.length = ((r.drop p.off).take n).length ∧ ∀ (j : Nat) (x : AV) (c : GC),vs[j]? = some x → ((r.drop p.off).take n)[j]? = some c → VR N w S x c.val) →
            VR N w S (mkV true vs) (cval true ((r.drop p.off).take n)) := by
          rintro vs ⟨v1,v2⟩
          · simp only [mkV,cval,if_true]
            refine .agg _ _ (by simp only [List.size_toArray,List.length_map]; exact v1) ?_ ?_
            · intro j v hj
              simp only [List.getElem?_toArray,List.getElem?_map,Option.map_eq_some_iff] at hj
              obtain ⟨c,hc',rfl⟩ := hj
              exact (e4 c (List.mem_of_getElem? hc')).one
            · intro j x v hx' hj
              simp only [List.getElem?_toArray,List.getElem?_map,Option.map_eq_some_iff] at hj
              obtain ⟨c,hc',rfl⟩ := hj
              exact v2 j x c hx' hc'
        split at h
        · rename_i vs hvs
          simp only [Option.some.injEq,Prod.mk.injEq] at h
          obtain ⟨rfl,rfl⟩ := h
          refine R.done_av0 hd (hrun _ _ e5) (plain vs ?_)
          rw [e3] at hvs
          exact allAv_eq (by simpa using hvs) e4
        · simp only [Option.some.injEq,Prod.mk.injEq] at h
          obtain ⟨rfl,rfl⟩ := h
          obtain ⟨m,b,base,r0,rfl,f1,_⟩ := R.opd_plc hx hp
          refine R.done0 hd (g := .ali (mkV true (sealRow cs)) (some p) (cval true ((r.drop p.off).take n))) (hrun _ _ e5)
            ⟨hh,r,n,true,e1,e2,tyIs_one ht,by rw [e3],rfl⟩ rfl ?_
          intro q hq j hj
          simp only [GT.place?,Option.some.injEq] at hq
          subst hq
          exact R.inv.rooted m p (by rw [f1]; rfl) j hj
      · cases h
    · rename_i cs hx'
      split at h
      · rename_i hl
        simp only [Option.some.injEq,Prod.mk.injEq] at h
        obtain ⟨rfl,rfl⟩ := h
        have e1 := R.opd_av hx hx'
        obtain ⟨ad,had⟩ := e1.ptr_form
        rw [had] at e1
        obtain ⟨cv,e2,e3⟩ := VR.take_vptr e1 ht hl
        exact R.done_av0 hd (hrun cv w (by simp [Instr.loadAt,had,Instr.sureAddr,e2])) e3
      · cases h
    · rename_i cs p hx'
      split at h
      · rename_i hl
        simp only [Option.some.injEq,Prod.mk.injEq] at h
        obtain ⟨rfl,rfl⟩ := h
        have e1 := R.opd_rd hx (v := .vptr cs) (by rw [hx']; rfl)
        obtain ⟨ad,had⟩ := e1.ptr_form
        rw [had] at e1
        obtain ⟨cv,e2,e3⟩ := VR.take_vptr e1 ht hl
        exact R.done0 hd (g := .ali (mkV true (cs.take n)) none cv) (hrun cv w (by simp [Instr.loadAt,had,Instr.sureAddr,e2])) e3 rfl (by simp [GT.place?])
      · cases h
    · cases h
  · cases hok
theorem sim_nilc {x : Opd} (R : Rel N F S s st a w) (hd : ∀ d,dst = some d → d ∉ F.roots) (hok : okOp P N F.roots (.nilc x) o = true)
    (h : stepOp dst (.nilc x) st = some (tv,st')) : PureDone P N F S st' a w dst tv (execOp a.eval o) := by
  simp only [okOp] at hok
  split at hok
  · rename_i y ho
    simp only [stepOp] at h
    split at h
    · rename_i p hp
      simp only [Option.some.injEq,Prod.mk.injEq] at h
      obtain ⟨rfl,rfl⟩ := h
      obtain ⟨m,b,base,r0,rfl,e1,e2,e3,e4⟩ := R.opd_plc hok hp
      have := R.inv.slot m
      rw [e1] at this
      refine R.done hd (g := .plc p ⟨b,base + p.off,none⟩) ?_ this rfl fun q hq j hj => R.inv.rooted m q (by rw [e1]; exact hq) j hj
      intro w'
      simp only [execOp,ho,e4]; rfl
    · rename_i cs hx
      simp only [Option.some.injEq,Prod.mk.injEq] at h
      obtain ⟨rfl,rfl⟩ := h
      have e1 := R.opd_av hok hx
      obtain ⟨ad,had⟩ := e1.ptr_form
      exact R.done_av hd (fun w' => by simp only [execOp,ho,had]; rfl) (by rw [had] at e1; exact e1)
    · rename_i f fs cs hx
      simp only [Option.some.injEq,Prod.mk.injEq] at h
      obtain ⟨rfl,rfl⟩ := h
      have e1 := R.opd_av hok hx
      have : ∃ u v,a.eval y = .func (.func (N.f f)) u v := by generalize a.eval y = cv at e1; cases e1; exact ⟨_,_,rfl⟩
      obtain ⟨u,v,hv⟩ := this
      exact R.done_av hd (fun w' => by simp only [execOp,ho,hv]; rfl) (by rw [hv] at e1; exact e1)
    · rename_i f fs cs p hx
      simp only [Option.some.injEq,Prod.mk.injEq] at h
      obtain ⟨rfl,rfl⟩ := h
      obtain ⟨m,cv,rfl,f1,f2⟩ := R.opd_ali hok hx
      have hsl := R.inv.slot m
      rw [f1] at hsl
      have e1 := R.opd_rd hok (v := .clo f fs cs) (by rw [hx]; rfl)
      rw [f2] at e1
      have : ∃ u v,cv = .func (.func (N.f f)) u v := by cases e1; exact ⟨_,_,rfl⟩
      obtain ⟨u,v,hv⟩ := this
      refine R.done hd (g := .ali (.clo f fs cs) p cv) ?_ hsl rfl fun q hq j hj => R.inv.rooted m q (by rw [f1]; exact hq) j hj
      intro w'
      simp only [execOp,ho,f2,hv]; rfl
    · cases h
  · cases hok
theorem VR.drop_vptr {cs : List AV} {ad : Addr} {S' : Nat → Prop} (h : VR N w S' (.vptr cs) (.pointer (some ad))) (k : Nat) :
    VR N w S' (.vptr (cs.drop k)) (.pointer (some (ad.add k))) := by
  cases h with
  | vptr _ _ cvf hS hsp hcell h1 hv =>
    have had : ad = ⟨ad.block,ad.off,none⟩ := by cases ad; simp at hsp; simp [hsp]
    rw [had,add_addr]
    refine .vptr _ _ (fun j => cvf (k + j)) (fun h => hS (by rintro rfl; simp at h)) rfl ?_ ?_ ?_
    · intro j x hj
      rw [List.getElem?_drop] at hj
      have := hcell (k + j) x hj
      simp only [Nat.add_assoc]; exact this
    · intro j x hj
      rw [List.getElem?_drop] at hj
      exact h1 (k + j) x hj
    · intro j x hj
      rw [List.getElem?_drop] at hj
      exact hv (k + j) x hj
theorem sim_fadr {off : Nat} {x : Opd} (R : Rel N F S s st a w) (hd : ∀ d,dst = some d → d ∉ F.roots) (hok : okOp P N F.roots (.fadr off x) o = true)
    (h : stepOp dst (.fadr off x) st = some (tv,st')) : PureDone P N F S st' a w dst tv (execOp a.eval o) := by
  simp only [okOp] at hok
  split at hok
  · rename_i t y i ho
    simp only [Bool.and_eq_true] at hok
    obtain ⟨hx,h2⟩ := hok
    obtain ⟨fields,f,n,hu,hf,hoff,hsz,hn⟩ : ∃ fields f n,P.underlying t = some (.struct fields) ∧ fields[i]? = some f ∧ f.offset = off ∧ tySize P f.type = some n ∧ 0 < n := by
      cases hu : P.underlying t with
      | none => simp [hu] at h2
      | some d =>
        cases d with
        | struct fields =>
          simp only [hu] at h2
          cases hf : fields[i]? with
          | none => simp [hf] at h2
          | some f =>
            simp only [hf,Bool.and_eq_true,beq_iff_eq] at h2
            obtain ⟨h3,h4⟩ := h2
            cases hs : tySize P f.type with
            | none => simp [hs] at h4
            | some n => simp [hs] at h4; exact ⟨fields,f,n,rfl,hf,h3,hs,h4⟩
        | _ => simp [hu] at h2
    have hrun : ∀ ad,a.eval y = .pointer (some ad) → ∀ w',(execOp a.eval o).run P w' = .ok (.value (.pointer (some (ad.add off)))) w' := fun ad e w' => by
      have hne : n ≠ 0 := by omega
      simp only [execOp,ho]
      simp [Instr.fieldAt,run_underlying hu,hf,e,Instr.sureAddr,fieldPlace,run_sizeOf hsz,hne,hoff]
    simp only [stepOp] at h
    split at h
    · rename_i p hp
      split at h
      · rename_i hle
        simp only [Option.some.injEq,Prod.mk.injEq] at h
        obtain ⟨rfl,rfl⟩ := h
        obtain ⟨m,b,base,r0,rfl,e1,e2,e3,e4⟩ := R.opd_plc hx hp
        obtain ⟨hh,r,e5,e6,_⟩ := cells_loc R.er (Option.isSome_iff_exists.1 hle).choose_spec
        have e5' : s.loc p = some (hh,r) := e5
        rw [e2] at e5'
        simp only [Option.some.injEq,Prod.mk.injEq] at e5'
        obtain ⟨rfl,rfl⟩ := e5'
        refine R.done hd (g := .plc { p with off := p.off + off } ⟨b,base + (p.off + off),none⟩) ?_ ⟨b,base,r0,e2,by simp at e6 ⊢; omega,rfl⟩ rfl ?_
        · intro w'; rw [hrun _ e4,add_addr,Nat.add_assoc]; rfl
        · intro q hq j hj
          simp only [GT.place?,Option.some.injEq] at hq
          subst hq
          exact R.inv.rooted m p (by rw [e1]; rfl) j hj
      · cases h
    · rename_i cs hx'
      split at h
      · simp only [Option.some.injEq,Prod.mk.injEq] at h
        obtain ⟨rfl,rfl⟩ := h
        have e1 := R.opd_av hx hx'
        obtain ⟨ad,had⟩ := e1.ptr_form
        rw [had] at e1
        exact R.done_av hd (hrun ad had) (e1.drop_vptr off)
      · cases h
    · rename_i cs p hx'
      split at h
      · simp only [Option.some.injEq,Prod.mk.injEq] at h
        obtain ⟨rfl,rfl⟩ := h
        have e1 := R.opd_rd hx (v := .vptr cs) (by rw [hx']; rfl)
        obtain ⟨ad,had⟩ := e1.ptr_form
        rw [had] at e1
        exact R.done hd (g := .ali (.vptr (cs.drop off)) none (.pointer (some (ad.add off)))) (hrun ad had) (e1.drop_vptr off) rfl (by simp [GT.place?])
      · cases h
    · cases h
  · cases hok
end
end Hm
/- Operations that index and cut. Conditions: none (plain lemmas). -/
namespace Hm
open Go
section
variable {P : Program} {N : Nm} {F : Fx} {S : Nat → Prop} {s : GS} {st st' : St} {a : Act} {w : World} {dst : Option Nat} {o : Oper} {tv : TV}
theorem idx_VR {i : AV} {n : Nat} {cv : Value} {S' : Nat → Prop} (h : VR N w S' i cv) (hi : idx i = some n) : ∃ k,cv = .int k (n : Int) := by
  unfold idx at hi
  split at hi
  · cases h
    rename_i k m
    split at hi
    · rename_i hm
      simp only [Option.some.injEq] at hi
      refine ⟨k,?_⟩
      congr 1; omega
    · cases hi
  · cases hi
theorem locRow_snoc : ∀ (path : List (Nat × Nat)) (gs : List GC) (h h' : Option (Nat × Nat)) (r : List GC) (o i : Nat),locRow h gs path = some (h',r) →
    locRow h gs (path ++ [(o,i)]) = match r[o]? with
      | some (.own b _ st _ rows) => (match rows[i]? with | some r' => some (some (b,i * st),r') | none => none)
      | _ => none
  | [],gs,h,h',r,o,i,e => by
    simp only [locRow,Option.some.injEq,Prod.mk.injEq] at e
    obtain ⟨_,rfl⟩ := e
    first
      | (simp only [List.nil_append,locRow]; done)
      | (simp only [List.nil_append,locRow]
         cases gs[o]? with
         | none => rfl
         | some c => cases c with
           | own b cap st e rows => first | rfl | (simp only []; cases rows[i]? <;> rfl) | (cases rows[i]? <;> rfl)
           | _ => rfl)
  | (o',i') :: p,gs,h,h',r,o,i,e => by
    simp only [locRow] at e
    simp only [List.cons_append,locRow]
    cases hc : gs[o']? with
    | none => simp [hc] at e
    | some c => cases c with
      | own b cap st' e' rows =>
        simp only [hc] at e ⊢
        cases hi : rows[i']? with
        | none => simp [hi] at e
        | some r0 =>
          simp only [hi] at e ⊢
          exact locRow_snoc p r0 _ h' r o i e
      | nil st' => simp [hc] at e
      | av v cv => simp [hc] at e
      | dead cv => simp [hc] at e
theorem isSlice_spec {t : TypeId} {k : Nat} (h : isSlice P t k = true) : ∃ e,P.underlying t = some (.slice e) ∧ tySize P e = some k ∧ 0 < k := by
  unfold isSlice at h
  cases hu : P.underlying t with
  | none => simp [hu] at h
  | some d => cases d <;> simp_all
theorem run_indexAt {t e : TypeId} {k : Nat} (hu : P.underlying t = some (.slice e)) (hs : tySize P e = some k) {ad : Addr} {len cap i : Nat} {ik : IntKind} (hi : i < len) (w : World) :
    (Instr.indexAt t (.slice (some ad) len cap) (.int ik (i : Int))).run P w = .ok (.pointer (some (ad.add (i * k)))) w := by
  have h1 : (0 : Int) ≤ (i : Int) ∧ (i : Int) < (len : Int) := ⟨by omega,by omega⟩
  have h2 : ¬ len ≤ i := by omega
  simp [Instr.indexAt,asIntOf,run_underlying hu,h1,h2,run_sizeOf hs]
theorem sim_iadr {k : Nat} {x i : Opd} (R : Rel N F S s st a w) (hd : ∀ d,dst = some d → d ∉ F.roots) (hok : okOp P N F.roots (.iadr k x i) o = true)
    (h : stepOp dst (.iadr k x i) st = some (tv,st')) : PureDone P N F S st' a w dst tv (execOp a.eval o) := by
  simp only [okOp] at hok
  split at hok
  · rename_i t y z ho
    simp only [Bool.and_eq_true] at hok
    obtain ⟨⟨hx,hi⟩,ht⟩ := hok
    obtain ⟨e,hu,hs,hk⟩ := isSlice_spec ht
    simp only [stepOp] at h
    split at h
    · rename_i iv hiv
      split at h
      · cases h
      · rename_i n hn
        obtain ⟨ik,hiz⟩ := idx_VR (R.opd_av hi hiv) hn
        have hrun : ∀ ad len cap,n < len → a.eval y = .slice (some ad) len cap → ∀ w',(execOp a.eval o).run P w' = .ok (.value (.pointer (some (ad.add (n * k))))) w' := fun ad len cap hl e' w' => by
          simp only [execOp,ho]
          rw [Sem.run_bind,e',hiz,run_indexAt hu hs hl]; rfl
        have row : ∀ {S' : Nat → Prop} {rows : List (List AV)} {r : List AV} {cv : Value},VR N w S' (.lst k rows) cv → rows[n]? = some r →
            ∃ ad len cap,cv = .slice (some ad) len cap ∧ n < len ∧ VR N w S' (.vptr r) (.pointer (some (ad.add (n * k)))) := by
          intro S' rows r cv hv hr
          cases hv with
          | lstNil => simp at hr
          | lst _ ad c st cvf h0 hS hsp hl hc hst hrr hcell h1 hvv =>
            have had : ad = ⟨ad.block,ad.off,none⟩ := by cases ad; simp at hsp; simp [hsp]
            refine ⟨ad,rows.length,c,rfl,(List.getElem?_eq_some_iff.1 hr).1,?_⟩
            rw [had,add_addr]
            refine .vptr r _ (cvf n) (fun _ => hS) rfl ?_ (fun j x hj => h1 n r j x hr hj) fun j x hj => hvv n r j x hr hj
            intro j x hj
            have := hcell n r j x hr hj
            simp only [Nat.add_assoc]; exact this
        split at h
        · rename_i k' rows hx'
          split at h
          · rename_i hkk
            subst hkk
            split at h
            · rename_i r hr
              simp only [Option.some.injEq,Prod.mk.injEq] at h
              obtain ⟨rfl,rfl⟩ := h
              obtain ⟨ad,len,cap,e1,e2,e3⟩ := row (R.opd_av hx hx') hr
              exact R.done_av hd (hrun ad len cap e2 e1) e3
            · cases h
          · cases h
        · rename_i k0 rows0 p hx'
          split at h
          · rename_i k' rs hc
            split at h
            · rename_i hkk
              obtain ⟨rfl,hlt⟩ := hkk
              simp only [Option.some.injEq,Prod.mk.injEq] at h
              obtain ⟨rfl,rfl⟩ := h
              obtain ⟨m,cv,rfl,f1,f2⟩ := R.opd_ali hx hx'
              have hsl := R.inv.slot m
              rw [f1] at hsl
              obtain ⟨hh,r,n',g',l1,l2,l3,l4,l5⟩ := hsl
              obtain ⟨hh',r',l1',l2',l3'⟩ := cells_loc R.er hc
              rw [l1] at l1'
              simp only [Option.some.injEq,Prod.mk.injEq] at l1'
              obtain ⟨rfl,rfl⟩ := l1'
              -- the cell
              obtain ⟨c,hcell⟩ : ∃ c,(r.drop p.off).take 1 = [c] := List.length_eq_one_iff.1 (by simp; omega)
              have hget : r[p.off]? = some c := by
                have := congrArg (·[0]?) hcell
                simpa using this
              rw [hcell] at l3'
              simp only [cellRow,List.cons.injEq,and_true] at l3'
              cases c with
              | own b cap kk e0 rows =>
                simp only [GC.cell,Cell.own.injEq] at l3'
                obtain ⟨rfl,rfl⟩ := l3'
                have hlt' : n < rows.length := by rw [cellRows_eq] at hlt; simpa using hlt
                obtain ⟨r1,hr1⟩ : ∃ r1,rows[n]? = some r1 := ⟨rows[n],List.getElem?_eq_getElem hlt'⟩
                -- the alias is the slice of this cell
                have hn' : g' = false ∧ n' = 1 ∨ g' = true := by cases g' with
                  | false => exact .inl ⟨rfl,l3 rfl⟩
                  | true => exact .inr rfl
                have hcv : cv = .slice (some ⟨b,0,none⟩) rows.length cap := by
                  rcases hn' with ⟨rfl,rfl⟩ | rfl
                  · rw [l5,hcell]; rfl
                  · simp [mkV] at l4
                have hloc : s.loc ⟨p.root,p.path ++ [(p.off,n)],0⟩ = some (some (b,n * k'),r1) := by
                  unfold GS.loc at l1 ⊢
                  cases hr : s.root p.root with
                  | none => simp [hr] at l1
                  | some x =>
                    obtain ⟨ob,gs⟩ := x
                    simp only [hr] at l1 ⊢
                    rw [locRow_snoc p.path gs _ hh r p.off n l1,hget]
                    simp only [hr1]
                refine R.done hd (g := .plc ⟨p.root,p.path ++ [(p.off,n)],0⟩ ⟨b,n * k',none⟩) ?_ ⟨b,n * k',r1,hloc,Nat.zero_le _,by simp⟩ rfl ?_
                · intro w'; rw [hrun ⟨b,0,none⟩ rows.length cap hlt' (by rw [f2,hcv]),add_addr]; simp [GT.val]
                · intro q hq j hj
                  simp only [GT.place?,Option.some.injEq] at hq
                  subst hq
                  exact R.inv.rooted m p (by rw [f1]; rfl) j hj
              | _ => simp_all [GC.cell]
            · cases h
          · cases h
        · rename_i k' rows hx'
          split at h
          · rename_i hkk
            subst hkk
            split at h
            · rename_i r hr
              simp only [Option.some.injEq,Prod.mk.injEq] at h
              obtain ⟨rfl,rfl⟩ := h
              obtain ⟨ad,len,cap,e1,e2,e3⟩ := row (R.opd_rd hx (v := .lst k' rows) (by rw [hx']; rfl)) hr
              exact R.done hd (g := .ali (.vptr r) none (.pointer (some (ad.add (n * k'))))) (hrun ad len cap e2 e1) e3 rfl (by simp [GT.place?])
            · cases h
          · cases h
        · cases h
    · cases h
  · cases hok
theorem sim_iadrR {k n : Nat} {i : Opd} (R : Rel N F S s st a w) (hd : ∀ d,dst = some d → d ∉ F.roots) (hok : okOp P N F.roots (.iadrR k n i) o = true)
    (h : stepOp dst (.iadrR k n i) st = some (tv,st')) : PureDone P N F S st' a w dst tv (execOp a.eval o) := by
  simp only [okOp] at hok
  split at hok
  · rename_i t j z ho
    simp only [Bool.and_eq_true,beq_iff_eq,List.contains_iff_mem] at hok
    obtain ⟨⟨⟨rfl,hn⟩,hi⟩,ht⟩ := hok
    obtain ⟨e,hu,hs,hk⟩ := isSlice_spec ht
    have hev : a.eval (.tmp n) = (s.γ n).val := R.tmp n
    simp only [stepOp] at h
    split at h
    · rename_i iv hiv
      split at h
      · rename_i j hj
        obtain ⟨ik,hiz⟩ := idx_VR (R.opd_av hi hiv) hj
        split at h
        · rename_i k' rs hx
          split at h
          · rename_i hkk
            obtain ⟨rfl,hlt⟩ := hkk
            simp only [Option.some.injEq,Prod.mk.injEq] at h
            obtain ⟨rfl,rfl⟩ := h
            have he := R.er.env n
            rw [hx] at he
            obtain ⟨gs,e1,e2⟩ := GT.of_own he
            have hsl := R.inv.slot n
            rw [e1] at hsl
            obtain ⟨c,rfl⟩ := hsl.2 rfl
            simp only [cellRow,List.cons.injEq,and_true] at e2
            cases c with
            | own b cap kk e0 rows =>
              simp only [GC.cell,Cell.own.injEq] at e2
              obtain ⟨rfl,rfl⟩ := e2
              have hlt' : j < rows.length := by rw [cellRows_eq] at hlt; simpa using hlt
              obtain ⟨r1,hr1⟩ : ∃ r1,rows[j]? = some r1 := ⟨rows[j],List.getElem?_eq_getElem hlt'⟩
              have hcv : a.eval (.tmp n) = .slice (some ⟨b,0,none⟩) rows.length cap := by rw [hev,e1]; rfl
              have hloc : s.loc ⟨.slot n,[(0,j)],0⟩ = some (some (b,j * kk),r1) := by
                simp [GS.loc,GS.root,e1,locRow,hr1]
              refine R.done hd (g := .plc ⟨.slot n,[(0,j)],0⟩ ⟨b,j * kk,none⟩) ?_ ⟨b,j * kk,r1,hloc,Nat.zero_le _,by simp⟩ rfl ?_
              · intro w'
                simp only [execOp,ho]
                rw [Sem.run_bind,hcv,hiz,run_indexAt hu hs hlt',add_addr]; simp [GT.val]
              · intro q hq m hm
                simp only [GT.place?,Option.some.injEq] at hq
                subst hq
                simp only [Root.slot.injEq] at hm
                subst hm; exact hn
            | _ => simp_all [GC.cell]
          · cases h
        · cases h
      · cases h
    · cases h
  · cases hok
theorem arr_spec {t : TypeId} {n k : Nat} (h : (match P.underlying t with | some (.array m e) => n == m && tySize P e == some k | _ => false) = true) :
    ∃ e,P.underlying t = some (.array n e) ∧ tySize P e = some k := by
  cases hu : P.underlying t with
  | none => simp [hu] at h
  | some d => cases d <;> simp_all
theorem run_indexAtA {t e : TypeId} {n k : Nat} (hu : P.underlying t = some (.array n e)) (hs : tySize P e = some k) {ad : Addr} {i : Nat} {ik : IntKind} (hi : i < n) (w : World) :
    (Instr.indexAt t (.pointer (some ad)) (.int ik (i : Int))).run P w = .ok (.pointer (some (ad.add (i * k)))) w := by
  have h1 : (0 : Int) ≤ (i : Int) ∧ (i : Int) < (n : Int) := ⟨by omega,by omega⟩
  have h2 : ¬ n ≤ i := by omega
  simp [Instr.indexAt,asIntOf,run_underlying hu,Instr.sureAddr,h1,h2,run_sizeOf hs]
theorem sim_iadrA {n k : Nat} {x i : Opd} (R : Rel N F S s st a w) (hd : ∀ d,dst = some d → d ∉ F.roots) (hok : okOp P N F.roots (.iadrA n k x i) o = true)
    (h : stepOp dst (.iadrA n k x i) st = some (tv,st')) : PureDone P N F S st' a w dst tv (execOp a.eval o) := by
  simp only [okOp] at hok
  split at hok
  · rename_i t y z ho
    simp only [Bool.and_eq_true] at hok
    obtain ⟨⟨hx,hi⟩,ht⟩ := hok
    obtain ⟨e,hu,hs⟩ := arr_spec ht
    simp only [stepOp] at h
    split at h
    · rename_i iv hiv
      split at h
      · cases h
      · rename_i j hj
        obtain ⟨ik,hiz⟩ := idx_VR (R.opd_av hi hiv) hj
        split at h
        · cases h
        · rename_i hlt
          have hrun : ∀ ad,a.eval y = .pointer (some ad) → ∀ w',(execOp a.eval o).run P w' = .ok (.value (.pointer (some (ad.add (j * k))))) w' := fun ad e' w' => by
            simp only [execOp,ho]
            rw [Sem.run_bind,e',hiz,run_indexAtA hu hs (by omega)]; rfl
          split at h
          · rename_i p hp
            split at h
            · rename_i hle
              simp only [Option.some.injEq,Prod.mk.injEq] at h
              obtain ⟨rfl,rfl⟩ := h
              obtain ⟨m,b,base,r0,rfl,e1,e2,e3,e4⟩ := R.opd_plc hx hp
              obtain ⟨hh,r,e5,e6,_⟩ := cells_loc R.er (Option.isSome_iff_exists.1 hle).choose_spec
              have e5' : s.loc p = some (hh,r) := e5
              rw [e2] at e5'
              simp only [Option.some.injEq,Prod.mk.injEq] at e5'
              obtain ⟨rfl,rfl⟩ := e5'
              refine R.done hd (g := .plc { p with off := p.off + j * k } ⟨b,base + (p.off + j * k),none⟩) ?_ ⟨b,base,r0,e2,by simp at e6 ⊢; omega,rfl⟩ rfl ?_
              · intro w'; rw [hrun _ e4,add_addr,Nat.add_assoc]; rfl
              · intro q hq j hj
                simp only [GT.place?,Option.some.injEq] at hq
                subst hq
                exact R.inv.rooted m p (by rw [e1]; rfl) j hj
            · cases h
          · rename_i cs hx'
            split at h
            · simp only [Option.some.injEq,Prod.mk.injEq] at h
              obtain ⟨rfl,rfl⟩ := h
              have e1 := R.opd_av hx hx'
              obtain ⟨ad,had⟩ := e1.ptr_form
              rw [had] at e1
              exact R.done_av hd (hrun ad had) (e1.drop_vptr (j * k))
            · cases h
          · cases h
    · cases h
  · cases hok
theorem VR.part {S' : Nat → Prop} {cs : List AV} {cv : Value} (h : VR N w S' (.agg cs) cv) {t : TypeId} {n off : Nat} {g : Bool} (ht : tyIs P t n g = true) (hl : off + n ≤ cs.length) :
    ∃ vs pv,cv = .agg vs ∧ (∀ w',(Go.part t vs off).run P w' = .ok pv w') ∧ VR N w S' (mkV g ((cs.drop off).take n)) pv := by
  cases h with
  | agg _ vs hlen h1 hv =>
    have ht' := ht
    simp only [tyIs,Bool.and_eq_true,beq_iff_eq,Bool.or_eq_true] at ht'
    obtain ⟨⟨hs,hag⟩,_⟩ := ht'
    cases g with
    | true =>
      refine ⟨vs,.agg (vs.extract off (off + n)),rfl,fun w' => by simp [Go.part,run_isAgg hag,run_sizeOf hs],?_⟩
      simp only [mkV,if_true]
      refine .agg _ _ (by simp; omega) ?_ ?_
      · intro j v hj
        rw [Array.getElem?_extract] at hj
        split at hj
        · exact h1 _ v hj
        · cases hj
      · intro j x v hx hj
        rw [Array.getElem?_extract] at hj
        rw [List.getElem?_take] at hx
        split at hx
        · rw [List.getElem?_drop] at hx
          split at hj
          · exact hv _ x v hx hj
          · cases hj
        · cases hx
    | false =>
      have hn := tyIs_one ht rfl
      subst hn
      have hlt : off < vs.size := by omega
      refine ⟨vs,vs[off],rfl,fun w' => by simp [Go.part,run_isAgg hag,hlt],?_⟩
      have hx : cs[off]? = some (cs[off]'(by omega)) := List.getElem?_eq_getElem (by omega)
      have e : (cs.drop off).take 1 = [cs[off]'(by omega)] := by
        rw [List.drop_eq_getElem_cons (by omega)]; rfl
      rw [e]
      exact hv off _ _ hx (Array.getElem?_eq_getElem hlt)
theorem sim_fld {off n : Nat} {g : Bool} {x : Opd} (R : Rel N F S s st a w) (hd : ∀ d,dst = some d → d ∉ F.roots) (hok : okOp P N F.roots (.fld off n g x) o = true)
    (h : stepOp dst (.fld off n g x) st = some (tv,st')) : PureDone P N F S st' a w dst tv (execOp a.eval o) := by
  simp only [okOp] at hok
  split at hok
  · rename_i t y i ho
    simp only [Bool.and_eq_true] at hok
    obtain ⟨hx,h2⟩ := hok
    obtain ⟨fields,f,hu,hf,hoff,ht⟩ : ∃ fields f,P.underlying t = some (.struct fields) ∧ fields[i]? = some f ∧ f.offset = off ∧ tyIs P f.type n g = true := by
      cases hu : P.underlying t with
      | none => simp [hu] at h2
      | some d =>
        cases d with
        | struct fields =>
          simp only [hu] at h2
          cases hf : fields[i]? with
          | none => simp [hf] at h2
          | some f =>
            simp only [hf,Bool.and_eq_true,beq_iff_eq] at h2
            exact ⟨fields,f,rfl,hf,h2.1,h2.2⟩
        | _ => simp [hu] at h2
    have hrun : ∀ vs pv,a.eval y = .agg vs → (∀ w',(Go.part f.type vs off).run P w' = .ok pv w') → ∀ w',(execOp a.eval o).run P w' = .ok (.value pv) w' := fun vs pv e1 e2 w' => by
      simp only [execOp,ho]
      simp [Instr.field,run_underlying hu,hf,e1,asAgg,hoff,e2]
    simp only [stepOp] at h
    split at h
    · rename_i cs hx'
      split at h
      · rename_i hl
        simp only [Option.some.injEq,Prod.mk.injEq] at h
        obtain ⟨rfl,rfl⟩ := h
        obtain ⟨vs,pv,e1,e2,e3⟩ := VR.part (P := P) (R.opd_av hx hx') ht hl
        exact R.done_av hd (hrun vs pv e1 e2) e3
      · cases h
    · rename_i cs p hx'
      split at h
      · rename_i hl
        simp only [Option.some.injEq,Prod.mk.injEq] at h
        obtain ⟨rfl,rfl⟩ := h
        obtain ⟨vs,pv,e1,e2,e3⟩ := VR.part (P := P) (R.opd_rd hx (v := .agg cs) (by rw [hx']; rfl)) ht hl
        exact R.done hd (g := .ali (mkV g ((cs.drop off).take n)) none pv) (hrun vs pv e1 e2) e3 rfl (by simp [GT.place?])
      · cases h
    · cases h
  · cases hok
theorem sim_idxA {n k : Nat} {g : Bool} {x i : Opd} (R : Rel N F S s st a w) (hd : ∀ d,dst = some d → d ∉ F.roots) (hok : okOp P N F.roots (.idxA n k g x i) o = true)
    (h : stepOp dst (.idxA n k g x i) st = some (tv,st')) : PureDone P N F S st' a w dst tv (execOp a.eval o) := by
  simp only [okOp] at hok
  split at hok
  · rename_i t y z ho
    simp only [Bool.and_eq_true] at hok
    obtain ⟨⟨hx,hi⟩,ht⟩ := hok
    obtain ⟨e,hu,hte⟩ : ∃ e,P.underlying t = some (.array n e) ∧ tyIs P e k g = true := by
      cases hu : P.underlying t with
      | none => simp [hu] at ht
      | some d => cases d <;> simp_all
    have hs : tySize P e = some k := by simp only [tyIs,Bool.and_eq_true,beq_iff_eq] at hte; exact hte.1.1
    have hrun : ∀ vs pv j ik,a.eval y = .agg vs → a.eval z = .int ik ((j : Nat) : Int) → j < n → (∀ w',(Go.part e vs (j * k)).run P w' = .ok pv w') → ∀ w',(execOp a.eval o).run P w' = .ok (.value pv) w' := fun vs pv j ik e1 e2 hj e3 w' => by
      have h1 : (0 : Int) ≤ (j : Int) ∧ (j : Int) < (n : Int) := ⟨by omega,by omega⟩
      have h2 : ¬ n ≤ j := by omega
      simp only [execOp,ho]
      simp [Instr.index,asIntOf,run_underlying hu,e1,e2,h1,h2,hj,run_sizeOf hs,e3]
    simp only [stepOp] at h
    split at h
    · rename_i cs iv hx' hiv
      split at h
      · cases h
      · rename_i j hj
        obtain ⟨ik,hiz⟩ := idx_VR (R.opd_av hi hiv) hj
        split at h
        · rename_i hl
          simp only [Option.some.injEq,Prod.mk.injEq] at h
          obtain ⟨rfl,rfl⟩ := h
          obtain ⟨vs,pv,e1,e2,e3⟩ := VR.part (P := P) (R.opd_av hx hx') hte hl.2
          exact R.done_av hd (hrun vs pv j ik e1 hiz hl.1 e2) e3
        · cases h
    · rename_i cs p iv hx' hiv
      split at h
      · cases h
      · rename_i j hj
        obtain ⟨ik,hiz⟩ := idx_VR (R.opd_av hi hiv) hj
        split at h
        · rename_i hl
          simp only [Option.some.injEq,Prod.mk.injEq] at h
          obtain ⟨rfl,rfl⟩ := h
          obtain ⟨vs,pv,e1,e2,e3⟩ := VR.part (P := P) (R.opd_rd hx (v := .agg cs) (by rw [hx']; rfl)) hte hl.2
          exact R.done hd (g := .ali (mkV g ((cs.drop (j * k)).take k)) none pv) (hrun vs pv j ik e1 hiz hl.1 e2) e3 rfl (by simp [GT.place?])
        · cases h
    · cases h
  · cases hok
theorem sim_idxS {x i : Opd} (R : Rel N F S s st a w) (hd : ∀ d,dst = some d → d ∉ F.roots) (hok : okOp P N F.roots (.idxS x i) o = true)
    (h : stepOp dst (.idxS x i) st = some (tv,st')) : PureDone P N F S st' a w dst tv (execOp a.eval o) := by
  simp only [okOp] at hok
  split at hok
  · rename_i t y z ho
    simp only [Bool.and_eq_true] at hok
    obtain ⟨⟨hx,hi⟩,ht⟩ := hok
    have hu : P.underlying t = some .string := by
      cases hu : P.underlying t with
      | none => simp [hu] at ht
      | some d => cases d <;> simp_all
    simp only [stepOp] at h
    split at h
    · rename_i l iv hx' hiv
      split at h
      · cases h
      · rename_i j hj
        obtain ⟨ik,hiz⟩ := idx_VR (R.opd_av hi hiv) hj
        split at h
        · rename_i b hb
          simp only [Option.some.injEq,Prod.mk.injEq] at h
          obtain ⟨rfl,rfl⟩ := h
          have e1 := R.opd_av hx hx'
          obtain ⟨s',hs',rfl⟩ : ∃ s' : ByteArray,a.eval y = .string s' ∧ l = s'.data.toList := by
            generalize a.eval y = cy at e1
            cases e1; exact ⟨_,rfl,rfl⟩
          have hlt : j < s'.size := by
            have := (List.getElem?_eq_some_iff.1 hb).1
            exact this
          have hbb : s'[j]? = some b := by
            have h2 : s'[j]? = s'.data[j]? := by
              rw [getElem?_pos s' j hlt,Array.getElem?_eq_getElem (by simpa using hlt)]; rfl
            rw [h2]; simpa using hb
          refine R.done_av hd ?_ (.int _ _)
          have h0 : (0 : Int) ≤ (j : Int) := by omega
          simp only [execOp,ho]
          simp [Instr.index,asIntOf,run_underlying hu,hs',hiz,h0,hbb]
        · cases h
    · cases h
  · cases hok
end
end Hm
/- Operations that read: the rest. Conditions: none (plain lemmas). -/
namespace Hm
open Go
section
variable {P : Program} {N : Nm} {F : Fx} {S : Nat → Prop} {s : GS} {st st' : St} {a : Act} {w : World} {dst : Option Nat} {o : Oper} {tv : TV}
theorem sim_mvr {n : Nat} (R : Rel N F S s st a w) (hd : ∀ d,dst = some d → d ∉ F.roots) (hok : okOp P N F.roots (.mvr n) o = true)
    (h : stepOp dst (.mvr n) st = some (tv,st')) : PureDone P N F S st' a w dst tv (execOp a.eval o) := by
  simp only [okOp] at hok
  split at hok
  · rename_i m ho
    simp only [Bool.and_eq_true,beq_iff_eq,List.contains_iff_mem] at hok
    obtain ⟨rfl,hn⟩ := hok
    have hev : a.eval (.tmp n) = (s.γ n).val := R.tmp n
    have hrun : ∀ w',(execOp a.eval o).run P w' = .ok (.value (s.γ n).val) w' := fun w' => by simp only [execOp,ho,hev]; rfl
    have hsl := R.inv.slot n
    simp only [stepOp,← R.er.env n] at h
    cases hγ : s.γ n with
    | av v cv =>
      rw [hγ] at h hrun hsl
      simp only [GT.tv,Option.some.injEq,Prod.mk.injEq] at h
      obtain ⟨rfl,rfl⟩ := h
      exact R.done_av hd hrun hsl
    | own gs g =>
      rw [hγ] at h hrun hsl
      simp only [GT.tv,Option.some.injEq,Prod.mk.injEq] at h
      obtain ⟨rfl,rfl⟩ := h
      have hloc : s.loc ⟨.slot n,[],0⟩ = some (none,gs) := by simp [GS.loc,GS.root,hγ,locRow]
      refine R.done hd (g := .ali (mkV g (sealRow (cellRow gs))) (some ⟨.slot n,[],0⟩) (cval g gs)) hrun ⟨none,gs,gs.length,g,hloc,by simp,?_,by simp,by simp⟩ rfl ?_
      · intro hg
        obtain ⟨c,rfl⟩ := hsl.2 hg
        rfl
      · intro q hq j hj
        simp only [GT.place?,Option.some.injEq] at hq
        subst hq
        simp only [Root.slot.injEq] at hj
        subst hj; exact hn
    | _ => rw [hγ] at h; simp [GT.tv] at h
  · cases hok
theorem sim_mvh {n : Nat} (R : Rel N F S s st a w) (hd : ∀ d,dst = some d → d ∉ F.roots) (hok : okOp P N F.roots (.mvh n) o = true)
    (h : stepOp dst (.mvh n) st = some (tv,st')) : PureDone P N F S st' a w dst tv (execOp a.eval o) := by
  simp only [okOp] at hok
  split at hok
  · rename_i m ho
    simp only [Bool.and_eq_true,beq_iff_eq,List.contains_iff_mem] at hok
    obtain ⟨rfl,hn⟩ := hok
    have hev : a.eval (.tmp n) = (s.γ n).val := R.tmp n
    have hrun : ∀ w',(execOp a.eval o).run P w' = .ok (.value (s.γ n).val) w' := fun w' => by simp only [execOp,ho,hev]; rfl
    have hsl := R.inv.slot n
    simp only [stepOp] at h
    split at h
    · rename_i k r rs hx
      simp only [Option.some.injEq,Prod.mk.injEq] at h
      obtain ⟨rfl,rfl⟩ := h
      have he := R.er.env n
      rw [hx] at he
      obtain ⟨gs,e1,e2⟩ := GT.of_own he
      rw [e1] at hsl hrun
      obtain ⟨c,rfl⟩ := hsl.2 rfl
      simp only [cellRow,List.cons.injEq,and_true] at e2
      cases c with
      | own b cap kk e0 rows =>
        simp only [GC.cell,Cell.own.injEq] at e2
        obtain ⟨rfl,e2⟩ := e2
        cases rows with
        | nil => simp [cellRows] at e2
        | cons r0 rows =>
          have hl : (r :: rs).length = (r0 :: rows).length := by rw [← e2,cellRows_eq]; simp
          have hloc : s.loc ⟨.slot n,[(0,0)],0⟩ = some (some (b,0 * kk),r0) := by
            simp [GS.loc,GS.root,e1,locRow]
          refine R.done hd (g := .hd ⟨.slot n,[(0,0)],0⟩ (r :: rs).length (GT.own [GC.own b cap kk e0 (r0 :: rows)] false).val) hrun ⟨b,_,r0,cap,hloc,?_⟩ rfl ?_
          · rw [hl]; rfl
          · intro q hq j hj
            simp only [GT.place?,Option.some.injEq] at hq
            subst hq
            simp only [Root.slot.injEq] at hj
            subst hj; exact hn
      | _ => simp_all [GC.cell,cellRows]
    · cases h
  · cases hok
theorem sim_iadrH {k m : Nat} {i : Opd} (R : Rel N F S s st a w) (hd : ∀ d,dst = some d → d ∉ F.roots) (hok : okOp P N F.roots (.iadrH k m i) o = true)
    (h : stepOp dst (.iadrH k m i) st = some (tv,st')) : PureDone P N F S st' a w dst tv (execOp a.eval o) := by
  simp only [okOp] at hok
  split at hok
  · rename_i t j z ho
    simp only [Bool.and_eq_true,beq_iff_eq] at hok
    obtain ⟨⟨rfl,hi⟩,ht⟩ := hok
    obtain ⟨e,hu,hs,hk⟩ := isSlice_spec ht
    have hev : a.eval (.tmp m) = (s.γ m).val := R.tmp m
    simp only [stepOp] at h
    split at h
    · rename_i iv hiv
      split at h
      · rename_i j hj
        obtain ⟨ik,hiz⟩ := idx_VR (R.opd_av hi hiv) hj
        split at h
        · rename_i n len hx
          split at h
          · rename_i k' rs hc
            split at h
            · rename_i hkk
              obtain ⟨rfl,hlt,hlen⟩ := hkk
              simp only [Option.some.injEq,Prod.mk.injEq] at h
              obtain ⟨rfl,rfl⟩ := h
              have he := R.er.env m
              rw [hx] at he
              obtain ⟨cv,e1⟩ := GT.of_hd he
              have hsl := R.inv.slot m
              rw [e1] at hsl
              obtain ⟨b,base,r,cap,l1,l2⟩ := hsl
              obtain ⟨hh,r',c1,c2,c3⟩ := cells_loc R.er hc
              cases hr : s.root (.slot n) with
              | none => simp [GS.loc,hr] at l1
              | some x =>
                obtain ⟨ob,gs⟩ := x
                simp only [GS.loc,hr,locRow,Option.some.injEq,Prod.mk.injEq] at c1
                obtain ⟨-,rfl⟩ := c1
                simp only [GS.loc,hr,locRow] at l1
                cases hg : gs with
                | nil => rw [hg] at c3; simp [cellRow] at c3
                | cons c gs' =>
                  rw [hg] at c3 l1
                  simp only [List.drop_zero,List.take_succ_cons,List.take_zero,cellRow,List.cons.injEq,and_true] at c3
                  cases c with
                  | own b' cap' kk e0 rows =>
                    simp only [GC.cell,Cell.own.injEq] at c3
                    obtain ⟨rfl,rfl⟩ := c3
                    simp only [List.getElem?_cons_zero] at l1
                    have hlt' : j < rows.length := by rw [cellRows_eq] at hlt; simpa using hlt
                    cases h0 : rows[0]? with
                    | none => simp [h0] at l1
                    | some r0 =>
                      simp only [h0,Option.some.injEq,Prod.mk.injEq] at l1
                      obtain ⟨⟨rfl,-⟩,-⟩ := l1
                      obtain ⟨r1,hr1⟩ : ∃ r1,rows[j]? = some r1 := ⟨rows[j],List.getElem?_eq_getElem hlt'⟩
                      have hloc : s.loc ⟨.slot n,[(0,j)],0⟩ = some (some (b',j * k'),r1) := by
                        simp [GS.loc,hr,hg,locRow,hr1]
                      refine R.done hd (g := .plc ⟨.slot n,[(0,j)],0⟩ ⟨b',j * k',none⟩) ?_ ⟨b',j * k',r1,hloc,Nat.zero_le _,by simp⟩ rfl ?_
                      · intro w'
                        simp only [execOp,ho]
                        rw [Sem.run_bind,hev,e1,hiz]
                        simp only [GT.val,l2]
                        rw [run_indexAt hu hs hlen,add_addr]; simp [GT.val]
                      · intro q hq y hy
                        simp only [GT.place?,Option.some.injEq] at hq
                        subst hq
                        exact R.inv.rooted m ⟨.slot n,[(0,0)],0⟩ (by rw [e1]; rfl) y hy
                  | _ => simp_all [GC.cell]
            · cases h
          · cases h
        · cases h
      · cases h
    · cases h
  · cases hok
theorem sim_conv {c : Cv} {x : Opd} (R : Rel N F S s st a w) (hd : ∀ d,dst = some d → d ∉ F.roots) (hok : okOp P N F.roots (.conv c x) o = true)
    (h : stepOp dst (.conv c x) st = some (tv,st')) : PureDone P N F S st' a w dst tv (execOp a.eval o) := by
  simp only [okOp] at hok
  split at hok
  · rename_i sT dT y ho
    simp only [Bool.and_eq_true] at hok
    obtain ⟨h1,h2⟩ := hok
    have hx := (okE_okO h2).1
    simp only [stepOp] at h
    split at h
    · rename_i v hv
      split at h
      · rename_i r hr
        simp only [Option.some.injEq,Prod.mk.injEq] at h
        obtain ⟨rfl,rfl⟩ := h
        have e1 := R.opd_av hx hv
        unfold convA at hr
        split at hr
        · simp only [Option.some.injEq] at hr; subst hr
          simp only [okConv] at h1
          have : P.underlying sT = some .string ∧ P.underlying dT = some .string := by
            cases hs : P.underlying sT with
            | none => simp [hs] at h1
            | some d => cases d <;> simp [hs] at h1
                        cases hd' : P.underlying dT with
                        | none => simp [hd'] at h1
                        | some d => cases d <;> simp_all
          obtain ⟨u1,u2⟩ := this
          refine R.done_av hd (cv := a.eval y) ?_ e1
          cases hcy : a.eval y <;> rw [hcy] at e1 <;> cases e1
          simp only [execOp,ho,hcy]
          simp [convert,run_underlying u1,run_underlying u2]
        · simp only [Option.some.injEq] at hr; subst hr
          rename_i k k' n
          simp only [okConv] at h1
          have : ∃ k2,P.underlying sT = some (.int k2) ∧ P.underlying dT = some (.int k) := by
            cases hs : P.underlying sT with
            | none => simp [hs] at h1
            | some d => cases d <;> simp [hs] at h1
                        cases hd' : P.underlying dT with
                        | none => simp [hd'] at h1
                        | some d => cases d <;> simp_all
          obtain ⟨k2,u1,u2⟩ := this
          refine R.done_av hd ?_ (.int _ _)
          cases hcy : a.eval y <;> rw [hcy] at e1 <;> cases e1
          simp only [execOp,ho,hcy]
          simp [convert,run_underlying u1,run_underlying u2,Conv.intToInt]
        · cases hr
      · cases h
    · cases h
  · cases hok
theorem eq_run {neg : Bool} {t : TypeId} {xo yo : Operand} {x y : Value} {b : Bool} (hc : (∃ v,xo = .const v) ∨ ∃ v,yo = .const v)
    (hx : ∀ u,x ≠ .agg u) (hi : ∀ k n,x ≠ .int k n) (hf : ∀ k n,x ≠ .float k n) (hcx : ∀ k n m,x ≠ .complex k n m) (hs : ∀ u,x ≠ .string u)
    (he : ∀ w,(Op.equal t x y).run P w = .ok b w) (w : World) :
    (do eqGuard (if neg then .neq else .eql) t xo yo x y; binOp (if neg then .neq else .eql) t x y : Sem Value).run P w = .ok (.bool (if neg then !b else b)) w := by
  have hg : ∀ op : BinOp,(op = .eql ∨ op = .neq) → (eqGuard op t xo yo x y).run P w = .ok () w := by
    intro op hop
    unfold eqGuard
    rcases hc with ⟨v,rfl⟩ | ⟨v,rfl⟩ <;> rcases hop with rfl | rfl <;> cases x <;> first | exact absurd rfl (hx _) | rfl | (cases y <;> first | rfl | (cases xo <;> rfl))
  rw [Sem.run_bind,hg _ (by cases neg <;> simp),Result.andThen_ok]
  cases neg with
  | true =>
    have : binOp .neq t x y = (do pure (.bool (!(← Op.equal t x y)))) := by
      cases x <;> first | exact absurd rfl (hi _ _) | exact absurd rfl (hf _ _) | exact absurd rfl (hcx _ _ _) | exact absurd rfl (hs _) | (simp only [binOp])
    simp [this,he]
  | false =>
    have : binOp .eql t x y = (do pure (.bool (← Op.equal t x y))) := by
      cases x <;> first | exact absurd rfl (hi _ _) | exact absurd rfl (hf _ _) | exact absurd rfl (hcx _ _ _) | exact absurd rfl (hs _) | (simp only [binOp])
    simp [this,he]
theorem nil_cases {k : NK} {v : AV} {b : Bool} {cv : Value} {S' : Nat → Prop} (h : VR N w S' v cv) (hb : isNilA k v = some b) {t : TypeId} {nv : Value} (hn : nilV P k t nv = true) :
    (∀ w,(Op.equal t cv nv).run P w = .ok b w) ∧ (∀ w,(Op.equal t nv cv).run P w = .ok b w) ∧
    ((∀ u,cv ≠ .agg u) ∧ (∀ k n,cv ≠ .int k n) ∧ (∀ k n,cv ≠ .float k n) ∧ (∀ k n m,cv ≠ .complex k n m) ∧ (∀ u,cv ≠ .string u)) ∧
    ((∀ u,nv ≠ .agg u) ∧ (∀ k n,nv ≠ .int k n) ∧ (∀ k n,nv ≠ .float k n) ∧ (∀ k n m,nv ≠ .complex k n m) ∧ (∀ u,nv ≠ .string u)) := by
  unfold nilV at hn
  split at hn
  · rename_i e hu
    cases v <;> simp only [isNilA,reduceCtorEq] at hb
    · rename_i k rows
      cases rows with
      | nil => simp [isNilA] at hb
      | cons r rs =>
        simp only [isNilA,Option.some.injEq] at hb; subst hb
        cases h with
        | lst _ ad c st cvf h0 hS hsp hl hc hst hr hcell h1 hv =>
          refine ⟨fun w => ?_,fun w => ?_,by simp,by simp⟩
          · show (Op.equalIn (9999 + 1) t _ _).run P w = _
            rw [Op.equalIn]
            rw [Sem.run_bind,run_underlying hu]; rfl
          · show (Op.equalIn (9999 + 1) t _ _).run P w = _
            rw [Op.equalIn]
            rw [Sem.run_bind,run_underlying hu]; rfl
    · simp only [Option.some.injEq] at hb; subst hb
      cases h with
      | emp _ ad c hc ha =>
        refine ⟨fun w => ?_,fun w => ?_,by simp,by simp⟩
        · show (Op.equalIn (9999 + 1) t _ _).run P w = _
          rw [Op.equalIn]
          rw [Sem.run_bind,run_underlying hu]; cases ad <;> rfl
        · show (Op.equalIn (9999 + 1) t _ _).run P w = _
          rw [Op.equalIn]
          rw [Sem.run_bind,run_underlying hu]; cases ad <;> rfl
  · rename_i e hu
    cases v <;> simp only [isNilA,reduceCtorEq,Option.some.injEq] at hb <;> subst hb <;> cases h
    · refine ⟨fun w => ?_,fun w => ?_,by simp,by simp⟩
      · show (Op.equalIn (9999 + 1) t _ _).run P w = _
        rw [Op.equalIn]
        rw [Sem.run_bind,run_underlying hu]; rfl
      · show (Op.equalIn (9999 + 1) t _ _).run P w = _
        rw [Op.equalIn]
        rw [Sem.run_bind,run_underlying hu]; rfl
    · refine ⟨fun w => ?_,fun w => ?_,by simp,by simp⟩
      · show (Op.equalIn (9999 + 1) t _ _).run P w = _
        rw [Op.equalIn]
        rw [Sem.run_bind,run_underlying hu]; rfl
      · show (Op.equalIn (9999 + 1) t _ _).run P w = _
        rw [Op.equalIn]
        rw [Sem.run_bind,run_underlying hu]; rfl
  · rename_i e hu
    cases v <;> simp only [isNilA,reduceCtorEq,Option.some.injEq] at hb <;> subst hb <;> cases h
    · refine ⟨fun w => ?_,fun w => ?_,by simp,by simp⟩
      · show (Op.equalIn (9999 + 1) t _ _).run P w = _
        rw [Op.equalIn]
        rw [Sem.run_bind,run_underlying hu]; rfl
      · show (Op.equalIn (9999 + 1) t _ _).run P w = _
        rw [Op.equalIn]
        rw [Sem.run_bind,run_underlying hu]; rfl
    · refine ⟨fun w => ?_,fun w => ?_,by simp,by simp⟩
      · show (Op.equalIn (9999 + 1) t _ _).run P w = _
        rw [Op.equalIn]
        rw [Sem.run_bind,run_underlying hu]; rfl
      · show (Op.equalIn (9999 + 1) t _ _).run P w = _
        rw [Op.equalIn]
        rw [Sem.run_bind,run_underlying hu]; rfl
  · rename_i e hu
    cases v <;> simp only [isNilA,reduceCtorEq,Option.some.injEq] at hb <;> subst hb <;> cases h
    · refine ⟨fun w => ?_,fun w => ?_,by simp,by simp⟩
      · show (Op.equalIn (9999 + 1) t _ _).run P w = _
        rw [Op.equalIn]
        rw [Sem.run_bind,run_underlying hu]; rfl
      · show (Op.equalIn (9999 + 1) t _ _).run P w = _
        rw [Op.equalIn]
        rw [Sem.run_bind,run_underlying hu]; rfl
    · refine ⟨fun w => ?_,fun w => ?_,by simp,by simp⟩
      · show (Op.equalIn (9999 + 1) t _ _).run P w = _
        rw [Op.equalIn]
        rw [Sem.run_bind,run_underlying hu]; rfl
      · show (Op.equalIn (9999 + 1) t _ _).run P w = _
        rw [Op.equalIn]
        rw [Sem.run_bind,run_underlying hu]; rfl
  · cases hn
theorem sim_isnil {k : NK} {neg : Bool} {x : Opd} (R : Rel N F S s st a w) (hd : ∀ d,dst = some d → d ∉ F.roots) (hok : okOp P N F.roots (.isnil k neg x) o = true)
    (h : stepOp dst (.isnil k neg x) st = some (tv,st')) : PureDone P N F S st' a w dst tv (execOp a.eval o) := by
  simp only [okOp] at hok
  split at hok
  · rename_i op t u v ty ho
    simp only [Bool.and_eq_true,decide_eq_true_eq,Bool.or_eq_true] at hok
    obtain ⟨rfl,h2⟩ := hok
    simp only [stepOp] at h
    split at h
    · rename_i av hav
      split at h
      · rename_i b hb
        simp only [Option.some.injEq,Prod.mk.injEq] at h
        obtain ⟨rfl,rfl⟩ := h
        refine R.done_av (cv := .bool (if neg then !b else b)) hd ?_ (.bool _)
        intro w'
        simp only [execOp,ho]
        rcases h2 with ⟨h3,h4⟩ | ⟨h3,h4⟩
        · split at h3
          · rename_i nv
            obtain ⟨n1,n2,⟨m1,m2,m3,m4,m5⟩,_⟩ := nil_cases (P := P) (R.opd_rd h4 hav) hb h3
            have := eq_run (P := P) (xo := u) (neg := neg) (b := b) (.inr ⟨nv,rfl⟩) m1 m2 m3 m4 m5 n1 w'
            rw [Sem.run_bind] at this ⊢
            simp only [Act.eval] at this ⊢
            rw [Sem.run_bind,this]; rfl
          · cases h3
        · split at h3
          · rename_i nv
            obtain ⟨n1,n2,_,⟨m1,m2,m3,m4,m5⟩⟩ := nil_cases (P := P) (R.opd_rd h4 hav) hb h3
            have := eq_run (P := P) (yo := v) (neg := neg) (b := b) (.inl ⟨nv,rfl⟩) m1 m2 m3 m4 m5 n2 w'
            rw [Sem.run_bind] at this ⊢
            simp only [Act.eval] at this ⊢
            rw [Sem.run_bind,this]; rfl
          · cases h3
      · cases h
    · cases h
  · cases hok
theorem rds_ok (R : Rel N F S s st a w) : ∀ {xs : List Opd} {ys : List Operand} {vs : List AV},okOs N xs ys = true → avs st xs = some vs →
    vs.length = ys.length ∧ ∀ (j : Nat) (v : AV) (y : Operand),vs[j]? = some v → ys[j]? = some y → VR N w S v (a.eval y)
  | [],[],vs,_,h => by simp [avs] at h; subst h; simp
  | [],_ :: _,_,h,_ => by simp [okOs] at h
  | _ :: _,[],_,h,_ => by simp [okOs] at h
  | x :: xs,y :: ys,vs,hok,h => by
    simp only [okOs,Bool.and_eq_true] at hok
    simp only [avs] at h
    split at h
    · rename_i v hv
      split at h
      · rename_i vs' hvs
        simp only [Option.some.injEq] at h; subst h
        obtain ⟨h1,h2⟩ := rds_ok R hok.2 hvs
        refine ⟨by simp [h1],fun j v' y' hj hy => ?_⟩
        cases j with
        | zero => simp at hj hy; subst hj; subst hy; exact R.opd_av hok.1 hv
        | succ j => exact h2 j v' y' (by simpa using hj) (by simpa using hy)
      · cases h
    · cases h
theorem mm_run {isMax : Bool} {f : Value → Value → Sem Value} (hf : ∀ k x k' y,f (.int k x) (.int k' y) = pure (.int k (if isMax then (if y > x then y else x) else (if y < x then y else x)))) :
    ∀ (vs : List AV) (ys : List Value) (v : AV) (x : Value) (r : AV),mmA isMax v vs = some r → VR N w S v x → vs.length = ys.length →
    (∀ (j : Nat) (v : AV) (y : Value),vs[j]? = some v → ys[j]? = some y → VR N w S v y) → ∃ cv,(∀ w',(ys.foldlM f x).run P w' = .ok cv w') ∧ VR N w S r cv
  | [],ys,v,x,r,h,hv,hl,_ => by
    have : ys = [] := List.eq_nil_of_length_eq_zero hl.symm
    subst this
    have e : mmA isMax v [] = some v := by cases v <;> rfl
    rw [e] at h
    simp only [Option.some.injEq] at h; subst h
    exact ⟨x,fun _ => rfl,hv⟩
  | u :: vs,ys,v,x,r,h,hv,hl,hall => by
    cases ys with
    | nil => simp at hl
    | cons y ys =>
      have hu := hall 0 u y rfl rfl
      unfold mmA at h
      split at h
      · exact absurd ‹u :: vs = []› (by simp)
      · rename_i k n k' m r' heq
        simp only [List.cons.injEq] at heq
        obtain ⟨rfl,rfl⟩ := heq
        cases hv; cases hu
        have := mm_run hf vs ys _ (.int k (if isMax then (if m > n then m else n) else (if m < n then m else n))) r h (.int _ _) (by simpa using hl) fun j v y hj hy => hall (j + 1) v y hj hy
        obtain ⟨cv,h1,h2⟩ := this
        refine ⟨cv,fun w' => ?_,h2⟩
        rw [List.foldlM_cons,hf,pure_bind]
        exact h1 w'
      · cases h
theorem sim_mm {isMax : Bool} {xs : List Opd} (R : Rel N F S s st a w) (hd : ∀ d,dst = some d → d ∉ F.roots) (hok : okOp P N F.roots (.mm isMax xs) o = true)
    (h : stepOp dst (.mm isMax xs) st = some (tv,st')) : PureDone P N F S st' a w dst tv (execOp a.eval o) := by
  simp only [okOp] at hok
  split at hok
  · rename_i b args argTypes ho
    simp only [Bool.and_eq_true] at hok
    obtain ⟨hb,hargs⟩ := hok
    simp only [stepOp] at h
    split at h
    · rename_i v vs hvs
      split at h
      · rename_i r hr
        simp only [Option.some.injEq,Prod.mk.injEq] at h
        obtain ⟨rfl,rfl⟩ := h
        obtain ⟨h1,h2⟩ := rds_ok R hargs hvs
        obtain ⟨y,ys,hys⟩ : ∃ y ys,args.toList = y :: ys := by
          cases ha : args.toList with
          | nil => rw [ha] at h1; simp at h1
          | cons y ys => exact ⟨y,ys,rfl⟩
        rw [hys] at h1 h2
        have hmap : (args.map a.eval).toList = a.eval y :: ys.map a.eval := by simp [hys]
        have hv0 := h2 0 v y rfl rfl
        have hall : ∀ (j : Nat) (v' : AV) (y' : Value),vs[j]? = some v' → (ys.map a.eval)[j]? = some y' → VR N w S v' y' := fun j v' y' hj hy => by
          simp only [List.getElem?_map,Option.map_eq_some_iff] at hy
          obtain ⟨z,hz,rfl⟩ := hy
          exact h2 (j + 1) v' z hj hz
        have hlen : vs.length = (ys.map a.eval).length := by simp at h1 ⊢; exact h1
        cases isMax with
        | true =>
          simp only [if_true] at hb
          split at hb
          · obtain ⟨cv,e1,e2⟩ := mm_run (P := P) (isMax := true) (f := Builtin.max2) (fun k x k' y => by simp [Builtin.max2]) vs _ v _ r hr hv0 hlen hall
            refine R.done_av hd (cv := cv) ?_ e2
            intro w'
            simp only [execOp,ho]
            simp [resolve,invoke,builtin,Builtin.max_,hys,e1]
          · cases hb
        | false =>
          simp only [Bool.false_eq_true,if_false] at hb
          split at hb
          · obtain ⟨cv,e1,e2⟩ := mm_run (P := P) (isMax := false) (f := Builtin.min2) (fun k x k' y => by simp [Builtin.min2]) vs _ v _ r hr hv0 hlen hall
            refine R.done_av hd (cv := cv) ?_ e2
            intro w'
            simp only [execOp,ho]
            simp [resolve,invoke,builtin,Builtin.min_,hys,e1]
          · cases hb
      · cases h
    · cases h
  · cases hok
theorem sim_tas {t : Nat} {ok : Bool} {x : Opd} (R : Rel N F S s st a w) (hd : ∀ d,dst = some d → d ∉ F.roots) (hok : okOp P N F.roots (.tas t ok x) o = true)
    (h : stepOp dst (.tas t ok x) st = some (tv,st')) : PureDone P N F S st' a w dst tv (execOp a.eval o) := by
  simp only [okOp] at hok
  split at hok
  · rename_i y xt at' ok' ho
    simp only [Bool.and_eq_true,beq_iff_eq] at hok
    obtain ⟨⟨⟨hx,rfl⟩,rfl⟩,h4⟩ := hok
    simp only [stepOp] at h
    split at h
    · rename_i u v hv
      split at h
      · cases h
      · rename_i hokf
        split at h
        · rename_i hut
          subst hut
          simp only [Option.some.injEq,Prod.mk.injEq] at h
          obtain ⟨rfl,rfl⟩ := h
          have e1 := R.opd_av hx hv
          obtain ⟨cv,hcv,e2⟩ : ∃ cv,a.eval y = .iface (N.t u) cv ∧ VR N w S v cv := by
            generalize a.eval y = cy at e1
            cases e1; exact ⟨_,rfl,by assumption⟩
          refine R.done_av hd ?_ e2
          simp only [Bool.not_eq_true] at hokf
          subst hokf
          simp only [execOp,ho,hcv]
          cases hu : P.underlying (N.t u) with
          | none => simp [hu] at h4
          | some d =>
            cases d <;> simp [hu] at h4 <;> simp [Instr.typeAssert,run_underlying hu]
        · cases h
    · cases h
  · cases hok
end
end Hm
/- Cuts, parts of tuples, interfaces of plain values. Conditions: none (plain lemmas). -/
namespace Hm
open Go
section
variable {P : Program} {N : Nm} {F : Fx} {S : Nat → Prop} {s : GS} {st st' : St} {a : Act} {w : World} {dst : Option Nat} {o : Oper} {tv : TV}
theorem Free.sub {l l' : List Nat} (h : Free F S s l) (hs : l'.Sublist l) : Free F S s l' :=
  ⟨h.nodup.sublist hs,fun x hx => h.free x (hs.subset hx),fun x hx => h.mine x (hs.subset hx)⟩
theorem blocksRows_take (h : Nat) : ∀ (rows : List (List GC)),(blocksRows (rows.take h)).Sublist (blocksRows rows) := by
  induction h with
  | zero => intro rows; simp [blocksRows]
  | succ h ih => intro rows; cases rows with
    | nil => simp
    | cons r rs => simp only [List.take_succ_cons,blocksRows]; exact List.Sublist.append (List.Sublist.refl _) (ih rs)
def bnd (st : St) (d : Nat) : Option Opd → Option Nat
  | none => some d
  | some o => match st.opd o with | .av i => idx i | _ => none
theorem bnd_run (R : Rel N F S s st a w) {x : Option Opd} {y : Option Operand} (h : okOpt N x y = true) {d n : Nat} (hb : bnd st d x = some n) :
    (y.map a.eval = none ∧ n = d) ∨ ∃ k,y.map a.eval = some (.int k (n : Int)) := by
  cases x with
  | none => cases y with
    | none => simp only [bnd,Option.some.injEq] at hb; exact .inl ⟨rfl,hb.symm⟩
    | some y => simp [okOpt] at h
  | some x => cases y with
    | none => simp [okOpt] at h
    | some y =>
      simp only [bnd] at hb
      split at hb
      · rename_i i hi
        obtain ⟨k,hk⟩ := idx_VR (R.opd_av h hi) hb
        exact .inr ⟨k,by simp [hk]⟩
      · cases hb
theorem run_bound {x : Value} {k : IntKind} {n m : Nat} (hx : x = .int k (n : Int)) (hn : n ≤ m) (c : BoundsCode) (w : World) : (Instr.sliceBound x m c).run P w = .ok n w := by
  have h : (0 : Int) ≤ (n : Int) ∧ (n : Int) ≤ (m : Int) := ⟨by omega,by omega⟩
  subst hx
  simp [Instr.sliceBound,asIntOf,h]
theorem run_bounds {isSlice : Bool} {len cap l h : Nat} {lo hi : Option Value} (hlo : (lo = none ∧ l = 0) ∨ ∃ k,lo = some (.int k (l : Int))) (hhi : (hi = none ∧ h = len) ∨ ∃ k,hi = some (.int k (h : Int)))
    (h1 : l ≤ h) (h2 : h ≤ cap) (w : World) : (Instr.sliceBounds isSlice len cap lo hi none).run P w = .ok (l,h,cap) w := by
  unfold Instr.sliceBounds
  rcases hhi with ⟨rfl,rfl⟩ | ⟨k,rfl⟩ <;> rcases hlo with ⟨rfl,rfl⟩ | ⟨k',rfl⟩ <;>
    simp [Sem.run_bind,run_bound rfl h1,run_bound rfl h2]
theorem VR.cut {S' : Nat → Prop} {k : Nat} {rows : List (List AV)} {cv : Value} (hv : VR N w S' (.lst k rows) cv) {l h : Nat} (h1 : l ≤ h) (h2 : h ≤ rows.length) :
    ∃ ad len cap,cv = .slice ad len cap ∧ len = rows.length ∧ h ≤ cap ∧ VR N w S' (.lst k ((rows.take h).drop l)) (.slice (if cap = l then ad else ad.map (·.add (l * k))) (h - l) (cap - l)) := by
  cases hv with
  | lstNil _ ad c hc ha =>
    simp only [List.length_nil,Nat.le_zero] at h2
    subst h2
    simp only [Nat.le_zero] at h1
    subst h1
    refine ⟨ad,0,c,rfl,rfl,Nat.zero_le _,?_⟩
    simp only [List.take_nil,List.drop_nil,Nat.sub_zero]
    refine .lstNil _ _ _ hc ?_
    split
    · exact ha
    · intro e; exact ha (by simpa using e)
  | lst _ ad c st cvf h0 hS hsp hl hc hst hr hcell h1' hvv =>
    refine ⟨some ad,rows.length,c,rfl,rfl,by omega,?_⟩
    by_cases hlt : l < h
    · have hne : c ≠ l := by omega
      rw [if_neg hne]
      have had : ad = ⟨ad.block,ad.off,none⟩ := by cases ad; simp at hsp; simp [hsp]
      have hlen : ((rows.take h).drop l).length = h - l := by simp; omega
      have hget : ∀ i r,((rows.take h).drop l)[i]? = some r → rows[l + i]? = some r := fun i r e => by
        rw [List.getElem?_drop,List.getElem?_take] at e
        split at e
        · exact e
        · cases e
      have key := VR.lst (N := N) (w := w) (S := S') ((rows.take h).drop l) ⟨ad.block,ad.off + l * k,none⟩ (c - l) k (fun i j => cvf (l + i) j) (by
          intro e; rw [e] at hlen; simp at hlen; omega) hS rfl (by rw [hlen]; omega) (by omega) hst (fun i r e => hr _ _ (hget i r e))
        (fun i r j x e e' => by
          have := hcell _ r j x (hget i r e) e'
          rw [Nat.add_mul] at this
          rw [← this]
          simp only [Nat.add_assoc])
        (fun i r j x e e' => h1' _ r j x (hget i r e) e') (fun i r j x e e' => hvv _ r j x (hget i r e) e')
      rw [hlen] at key
      rw [had,Option.map_some,add_addr]
      exact key
    · have : l = h := by omega
      subst this
      have hnil : (rows.take l).drop l = [] := by simp
      rw [hnil,Nat.sub_self]
      refine .lstNil _ _ _ (by omega) ?_
      split
      · intro e; cases e
      · intro e; cases e
theorem run_sliceS {t e : TypeId} {k : Nat} (hu : P.underlying t = some (.slice e)) (hs : tySize P e = some k) {ad : Option Addr} {len cap l h : Nat} {lo hi : Option Value}
    (hlo : (lo = none ∧ l = 0) ∨ ∃ k,lo = some (.int k (l : Int))) (hhi : (hi = none ∧ h = len) ∨ ∃ k,hi = some (.int k (h : Int))) (h1 : l ≤ h) (h2 : h ≤ cap) (w : World) :
    (Instr.sliceAt t (.slice ad len cap) lo hi none).run P w = .ok (.slice (if cap = l then ad else ad.map (·.add (l * k))) (h - l) (cap - l)) w := by
  simp [Instr.sliceAt,Instr.slice,run_underlying hu,run_bounds hlo hhi h1 h2,run_sizeOf hs]
theorem run_sliceStr {t : TypeId} (hu : P.underlying t = some .string) {b : ByteArray} {l h : Nat} {lo hi : Option Value}
    (hlo : (lo = none ∧ l = 0) ∨ ∃ k,lo = some (.int k (l : Int))) (hhi : (hi = none ∧ h = b.size) ∨ ∃ k,hi = some (.int k (h : Int))) (h1 : l ≤ h) (h2 : h ≤ b.size) (w : World) :
    (Instr.sliceAt t (.string b) lo hi none).run P w = .ok (.string (b.extract l h)) w := by
  simp [Instr.sliceAt,Instr.slice,run_underlying hu,run_bounds hlo hhi h1 h2]
theorem extract_list (b : ByteArray) (l h : Nat) : (b.extract l h).data.toList = (b.data.toList.take h).drop l := by
  rw [ByteArray.data_extract,Array.toList_extract]
  simp [List.extract_eq_take_drop,List.drop_take]
theorem sim_slc {isStr : Bool} {k : Nat} {x : Opd} {lo hi : Option Opd} (R : Rel N F S s st a w) (hd : ∀ d,dst = some d → d ∉ F.roots) (hok : okOp P N F.roots (.slc isStr k x lo hi) o = true)
    (h : stepOp dst (.slc isStr k x lo hi) st = some (tv,st')) : PureDone P N F S st' a w dst tv (execOp a.eval o) := by
  simp only [okOp] at hok
  split at hok
  · rename_i t y lo' hi' ho
    simp only [Bool.and_eq_true] at hok
    obtain ⟨⟨⟨hx,hlo⟩,hhi⟩,ht⟩ := hok
    have h0 := (okE_okO hx).1
    simp only [stepOp] at h
    split at h
    · rename_i b hb
      split at h
      · rename_i l hh hl hhh
        split at h
        · rename_i hle
          simp only [Option.some.injEq,Prod.mk.injEq] at h
          obtain ⟨rfl,rfl⟩ := h
          have hu : P.underlying t = some .string := by
            cases hu : P.underlying t with
            | none => simp [hu] at ht
            | some d => cases d <;> simp_all
          have e1 := R.opd_rd h0 hb
          have hl' := bnd_run R hlo (d := 0) (n := l) (by rw [← hl]; cases lo <;> rfl)
          have hh' := bnd_run R hhi (d := b.length) (n := hh) (by rw [← hhh]; cases hi <;> rfl)
          generalize hcy : a.eval y = cy at e1
          cases e1 with
          | str b =>
            have hsz : b.data.toList.length = b.size := rfl
            refine R.done_av hd (cv := .string (b.extract l hh)) ?_ ?_
            · intro w'
              simp only [execOp,ho,hcy]
              rw [Sem.run_bind,show (none : Option Operand).map a.eval = none from rfl,run_sliceStr hu hl' (by rw [hsz] at hh'; exact hh') hle.1 (by omega)]; rfl
            · rw [← extract_list]; exact .str _
        · cases h
      · cases h
    · rename_i k' rows hb
      split at h
      · rename_i l hh hl hhh
        split at h
        · rename_i hle
          obtain ⟨rfl,hle1,hle2⟩ := hle
          obtain ⟨e,hu,hs⟩ : ∃ e,P.underlying t = some (.slice e) ∧ tySize P e = some k' := by
            cases hu : P.underlying t with
            | none => simp [hu] at ht
            | some d => cases d <;> simp_all
          have hl' := bnd_run R hlo (d := 0) (n := l) (by rw [← hl]; cases lo <;> rfl)
          have hh' := bnd_run R hhi (d := rows.length) (n := hh) (by rw [← hhh]; cases hi <;> rfl)
          have hrun : ∀ ad len cap,a.eval y = .slice ad len cap → len = rows.length → hh ≤ cap →
              ∀ w',(execOp a.eval o).run P w' = .ok (.value (.slice (if cap = l then ad else ad.map (·.add (l * k'))) (hh - l) (cap - l))) w' := fun ad len cap e1 e2 e3 w' => by
            subst e2
            simp only [execOp,ho,e1]
            rw [Sem.run_bind,show (none : Option Operand).map a.eval = none from rfl,run_sliceS hu hs hl' hh' hle1 e3]; rfl
          split at h
          · rename_i k0 rs hx'
            split at h
            · rename_i hl0
              subst hl0
              simp only [Option.some.injEq,Prod.mk.injEq] at h
              obtain ⟨rfl,rfl⟩ := h
              obtain ⟨s',gs,d1,d2,d3,d4,d5,d6⟩ := R.own hx hx'
              obtain ⟨c,rfl⟩ := d4 rfl
              simp only [cellRow,List.cons.injEq,and_true] at d2
              have hc := d3 c (by simp)
              have hrows : rs.length = rows.length := by
                rw [hx'] at hb
                simp only [TV.rd,sealRow,mkV,Cell.shut,Bool.false_eq_true,if_false,Option.some.injEq,AV.lst.injEq] at hb
                rw [← hb.2,sealRows_eq,List.length_map]
              have hk0 : k0 = k' := by
                rw [hx'] at hb
                simp only [TV.rd,sealRow,mkV,Cell.shut,Bool.false_eq_true,if_false,Option.some.injEq,AV.lst.injEq] at hb
                exact hb.1
              subst hk0
              cases hc with
              | av v cv _ _ => simp [GC.cell] at d2
              | dead cv _ => simp [GC.cell] at d2
              | nil st0 =>
                simp only [GC.cell,Cell.own.injEq] at d2
                obtain ⟨rfl,rfl⟩ := d2
                simp only [List.length_nil] at hrows
                have hh0 : hh = 0 := by omega
                subst hh0
                have := hrun none 0 0 (by rw [d5]; rfl) hrows (Nat.le_refl 0)
                exact ⟨_,S,s',.own [.nil st0] false,this,fun _ h => h,d1,⟨by simp [GT.tv,cellRow,GC.cell],rfl,⟨fun c hc => by rw [List.mem_singleton.1 hc]; exact .nil _,fun _ => ⟨_,rfl⟩⟩,
                  by simpa [GT.blocks,blocksRow,GC.blocks] using Free.nil,by simp [GT.place?],d1.unrooted hd (by simp [GT.place?])⟩⟩
              | own b cap st0 e0 grows cur hst hgl hcap hr hb0 hs0 hcur hok0 =>
                simp only [GC.cell,Cell.own.injEq] at d2
                obtain ⟨rfl,rfl⟩ := d2
                rw [cellRows_eq,List.length_map] at hrows
                have hhc : hh ≤ cap := by omega
                have := hrun (some ⟨b,0,none⟩) grows.length cap (by rw [d5]; rfl) hrows hhc
                have hval : (if cap = 0 then some (⟨b,0,none⟩ : Addr) else (some (⟨b,0,none⟩ : Addr)).map (·.add (0 * st0))) = some ⟨b,0,none⟩ := by
                  split
                  · rfl
                  · simp [add_addr]
                rw [hval] at this
                have hget : ∀ (i : Nat) (r : List GC),(grows.take hh)[i]? = some r → grows[i]? = some r := fun i r e => by
                  rw [List.getElem?_take] at e
                  split at e
                  · exact e
                  · cases e
                refine ⟨_,S,s',.own [.own b cap st0 e0 (grows.take hh)] false,this,fun _ h => h,d1,⟨?_,?_,⟨fun c hc => ?_,fun _ => ⟨_,rfl⟩⟩,?_,by simp [GT.place?],d1.unrooted hd (by simp [GT.place?])⟩⟩
                · simp [GT.tv,cellRow,GC.cell,cellRows_eq,List.map_take]
                · simp only [GT.val,cval,GC.val,Bool.false_eq_true,if_false,Nat.sub_zero,List.length_take]
                  congr 1; omega
                · rw [List.mem_singleton.1 hc]
                  exact .own b cap st0 e0 _ cur hst (by simp; omega) hcap (fun i r e => hr i r (hget i r e)) hb0 hs0 (fun i r j c e => hcur i r j c (hget i r e)) (fun i r j c e => hok0 i r j c (hget i r e))
                · refine d6.sub ?_
                  simp only [GT.blocks,blocksRow,GC.blocks,List.append_nil]
                  exact List.Sublist.cons_cons _ (blocksRows_take _ _)
            · cases h
          · rename_i v hx'
            simp only [Option.some.injEq,Prod.mk.injEq] at h
            obtain ⟨rfl,rfl⟩ := h
            have hv : v = .lst k' rows := by rw [hx'] at hb; simpa [TV.rd] using hb
            subst hv
            obtain ⟨ad,len,cap,e1,e2,e3,e4⟩ := (R.opd_av h0 hx').cut hle1 hle2
            exact R.done_av hd (hrun ad len cap e1 e2 e3) e4
          · rename_i v p hx'
            simp only [Option.some.injEq,Prod.mk.injEq] at h
            obtain ⟨rfl,rfl⟩ := h
            obtain ⟨ad,len,cap,e1,e2,e3,e4⟩ := (R.opd_rd h0 hb).cut hle1 hle2
            exact R.done hd (g := .ali _ none _) (hrun ad len cap e1 e2 e3) e4 rfl (by simp [GT.place?])
          · cases h
        · cases h
      · cases h
    · cases h
  · cases hok
theorem tupBlocks_set (x : Nat) : ∀ (l : List (Option (List GC × Bool))) (i : Nat) (gs : List GC) (g : Bool),l[i]? = some (some (gs,g)) →
    (tupBlocks (l.set i none)).count x + (blocksRow gs).count x = (tupBlocks l).count x
  | [],i,gs,g,h => by simp at h
  | y :: l,0,gs,g,h => by
    simp at h; subst h
    simp [tupBlocks]; omega
  | y :: l,i + 1,gs,g,h => by
    have := tupBlocks_set x l i gs g (by simpa using h)
    cases y with
    | none => simpa [tupBlocks] using this
    | some y => obtain ⟨a,b⟩ := y
                simp [tupBlocks]; omega
theorem tupCells_get {l : List (Option (List GC × Bool))} {i : Nat} {cs : List Cell} {g : Bool} (h : (tupCells l)[i]? = some (some (cs,g))) :
    ∃ gs,l[i]? = some (some (gs,g)) ∧ cellRow gs = cs := by
  simp only [tupCells,List.getElem?_map,Option.map_eq_some_iff] at h
  obtain ⟨x,h1,h2⟩ := h
  cases x with
  | none => cases h2
  | some x => obtain ⟨gs,g'⟩ := x
              simp only [Option.some.injEq,Prod.mk.injEq] at h2
              exact ⟨gs,by rw [h1,h2.2],h2.1⟩
theorem tupCells_set (l : List (Option (List GC × Bool))) (i : Nat) : tupCells (l.set i none) = (tupCells l).set i none := by
  simp [tupCells,List.map_set]
theorem Rel.tupTake (R : Rel N F S s st a w) {n : Nat} (hn : n ∉ F.roots) {l : List (Option (List GC × Bool))} {vs : Array Value} (hγ : s.γ n = .tup l vs) {i : Nat} {gs : List GC} {g : Bool}
    (hi : l[i]? = some (some (gs,g))) :
    Rel N F S (s.put n (.tup (l.set i none) vs)) (st.put n (.tup (tupCells (l.set i none)))) a w ∧ Free F S (s.put n (.tup (l.set i none) vs)) (blocksRow gs) := by
  have hok := R.inv.slot n
  rw [hγ] at hok
  have hnd := R.inv.nodup (.slot n)
  have hfp : s.fp (.slot n) = tupBlocks l := by simp [GS.fp,hγ,GT.blocks]
  rw [hfp,List.nodup_iff_count] at hnd
  have hcnt := fun x => tupBlocks_set x l i gs g hi
  have hsub : ∀ x,x ∈ tupBlocks (l.set i none) → x ∈ tupBlocks l := fun x hx => by
    rw [mem_of_count] at hx ⊢; have := hcnt x; omega
  have hsub2 : ∀ x,x ∈ blocksRow gs → x ∈ tupBlocks l := fun x hx => by
    rw [mem_of_count] at hx ⊢; have := hcnt x; omega
  have I' : Inv N F S (s.put n (.tup (l.set i none) vs)) w := by
    refine R.inv.put ?_ ?_ ?_ ?_ (by simp [GT.place?]) fun j p _ hp e => hn (R.inv.rooted j p hp n e)
    · refine ⟨by simp [hok.1],fun j gs' g' hj => ?_⟩
      rw [List.getElem?_set] at hj
      split at hj
      · split at hj <;> cases hj
      · exact hok.2 j gs' g' hj
    · simp only [GT.blocks]
      rw [List.nodup_iff_count]
      intro x; have := hcnt x; have := hnd x; omega
    · intro x hx r hr hx'
      exact hr (R.inv.apart r (.slot n) x hx' (by rw [hfp]; exact hsub x hx))
    · intro x hx; exact R.inv.mine (.slot n) x (by rw [hfp]; exact hsub x hx)
  refine ⟨⟨I',⟨fun k => ?_,R.er.box⟩,fun k => ?_,R.size,R.dfr⟩,⟨?_,fun x hx r hx' => ?_,fun x hx => R.inv.mine (.slot n) x (by rw [hfp]; exact hsub2 x hx)⟩⟩
  · rw [getE_put]
    by_cases h : k = n
    · subst h; rw [s.put_γ,if_pos rfl]; rfl
    · rw [s.put_γ_ne _ h,if_neg (fun e => h e.symm)]; exact R.er.env k
  · by_cases h : k = n
    · subst h; rw [s.put_γ,R.tmp k,hγ]; rfl
    · rw [s.put_γ_ne _ h]; exact R.tmp k
  · rw [List.nodup_iff_count]
    intro x; have := hcnt x; have := hnd x; omega
  · by_cases h : r = .slot n
    · subst h
      rw [s.fp_put] at hx'
      simp only [GT.blocks] at hx'
      rw [mem_of_count] at hx hx'
      have := hcnt x; have := hnd x; omega
    · rw [s.fp_put_ne _ h] at hx'
      exact h (R.inv.apart r (.slot n) x hx' (by rw [hfp]; exact hsub2 x hx))
theorem cval_av {gs : List GC} {g : Bool} {vs : List AV} (h : allAv (cellRow gs) = some vs) (hok : AllOk N w S gs) (hg : g = false → ∃ c,gs = [c]) : VR N w S (mkV g vs) (cval g gs) := by
  obtain ⟨h1,h2⟩ := allAv_eq h hok
  cases g with
  | true =>
    refine .agg vs _ (by simp [h1]) (fun j v hj => ?_) fun j x v hx hv => ?_
    · simp only [List.getElem?_toArray,List.getElem?_map,Option.map_eq_some_iff] at hj
      obtain ⟨c,hc,rfl⟩ := hj
      exact (hok c (List.mem_of_getElem? hc)).one
    · simp only [List.getElem?_toArray,List.getElem?_map,Option.map_eq_some_iff] at hv
      obtain ⟨c,hc,rfl⟩ := hv
      exact h2 j x c hx hc
  | false =>
    obtain ⟨c,rfl⟩ := hg rfl
    obtain ⟨v,rfl⟩ := List.length_eq_one_iff.1 h1
    exact h2 0 v c rfl rfl
theorem sim_mki {t : Nat} {x : Opd} {v : AV} (R : Rel N F S s st a w) (hd : ∀ d,dst = some d → d ∉ F.roots) (hok : okOp P N F.roots (.mki t x) o = true)
    (hx : st.opd x = .av v) : PureDone P N F S st a w dst (.av (.iface t v)) (execOp a.eval o) := by
  simp only [okOp] at hok
  split at hok
  · rename_i u y ho
    simp only [Bool.and_eq_true,beq_iff_eq] at hok
    obtain ⟨⟨rfl,hu⟩,hy⟩ := hok
    refine R.done_av hd ?_ (.iface t v _ (R.opd_av (okE_okO hy).1 hx))
    intro w'
    simp only [execOp,ho]
    cases hu' : P.underlying (N.t t) with
    | none => simp [hu'] at hu
    | some d => cases d <;> simp [hu'] at hu <;> simp [Instr.makeInterface,run_underlying hu']
  · cases hok
theorem sim_ext {x : Opd} {i : Nat} (R : Rel N F S s st a w) (hd : ∀ d,dst = some d → d ∉ F.roots) (hok : okOp P N F.roots (.ext x i) o = true)
    (h : stepOp dst (.ext x i) st = some (tv,st')) : PureDone P N F S st' a w dst tv (execOp a.eval o) := by
  simp only [okOp] at hok
  split at hok
  · rename_i y j ho
    simp only [Bool.and_eq_true,beq_iff_eq] at hok
    obtain ⟨hx,rfl⟩ := hok
    obtain ⟨h0,hroot⟩ := okE_okO hx
    simp only [stepOp] at h
    split at h
    · rename_i n l hl
      split at h
      · rename_i cs g hi
        obtain ⟨t,h1,h2,h3,h4⟩ := R.opd h0
        rw [hl] at h1
        obtain ⟨l',vs,rfl,rfl⟩ := GT.of_tup h1
        have hγ : s.γ n = .tup l' vs := by
          rcases h4 with ⟨m,e,e'⟩ | ⟨hn,_,_⟩
          · cases e; exact e'.symm
          · exact absurd rfl (hn n)
        obtain ⟨gs,hgs,rfl⟩ := tupCells_get hi
        obtain ⟨e1,e2,e3⟩ := h3.2 i gs g hgs
        have hrun : ∀ w',(execOp a.eval o).run P w' = .ok (.value (cval g gs)) w' := fun w' => by
          simp only [execOp,ho,← h2,GT.val,Instr.extract,e1]; rfl
        split at h
        · rename_i us hus
          simp only [Option.some.injEq,Prod.mk.injEq] at h
          obtain ⟨rfl,rfl⟩ := h
          exact R.done_av hd hrun (cval_av hus e2 e3)
        · simp only [Option.some.injEq,Prod.mk.injEq] at h
          obtain ⟨rfl,rfl⟩ := h
          obtain ⟨d1,d2⟩ := R.tupTake (hroot n rfl) hγ hgs
          rw [tupCells_set] at d1
          exact ⟨_,S,_,.own gs g,hrun,fun _ h => h,d1,⟨rfl,rfl,⟨e2,e3⟩,d2,by simp [GT.place?],d1.unrooted hd (by simp [GT.place?])⟩⟩
      · cases h
    · cases h
  · cases hok
end
end Hm
