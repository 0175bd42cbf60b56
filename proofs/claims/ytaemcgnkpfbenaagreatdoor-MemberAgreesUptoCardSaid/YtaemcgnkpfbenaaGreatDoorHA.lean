/- The abstract machine: values as trees, code without memory. Conditions: none (definitions and plain lemmas). -/
import GoSem.Core.View
set_option linter.unusedVariables false
set_option linter.unusedSimpArgs false
/- The abstract machine: values as trees, code without memory. Conditions: none (definitions and plain lemmas). -/
namespace Hm
open Go (IntKind BinOp UnOp)
inductive AV where
  | int (k : IntKind) (n : Int)
  | bool (b : Bool)
  | str (s : List UInt8)
  | lst (st : Nat) (rows : List (List AV))
  | emp (st : Nat) (nn : Bool)
  | agg (cs : List AV)
  | vptr (cs : List AV)
  | nilp
  | clo (f : Nat) (first caps : List AV)
  | nilf
  | iface (t : Nat) (v : AV)
  | nili
  | tag (n : Nat)
  | tab (n : Nat)
  | und
  deriving Inhabited
inductive Cell where
  | av (v : AV)
  | own (st : Nat) (rows : List (List Cell))
  | dead
  deriving Inhabited
mutual
def Cell.shut : Cell → AV
  | .av v => v
  | .own k rows => .lst k (sealRows rows)
  | .dead => .und
def sealRow : List Cell → List AV
  | [] => []
  | c :: r => c.shut :: sealRow r
def sealRows : List (List Cell) → List (List AV)
  | [] => []
  | r :: rs => sealRow r :: sealRows rs
end
def allAv : List Cell → Option (List AV)
  | [] => some []
  | .av v :: r => match allAv r with | some vs => some (v :: vs) | none => none
  | _ :: _ => none
def viewAv : List Cell → Option (List AV)
  | [] => some []
  | .av v :: r => match viewAv r with | some vs => some (v :: vs) | none => none
  | .own k [] :: r => match viewAv r with | some vs => some (.lst k [] :: vs) | none => none
  | _ :: _ => none
def AV.isAgg : AV → Bool
  | .agg _ => true
  | _ => false
def cellsOf : AV → List Cell
  | .agg vs => vs.map .av
  | v => [.av v]
def mkV (g : Bool) (vs : List AV) : AV :=
  if g then .agg vs else match vs with | [v] => v | _ => .und
inductive Root where
  | box (k : Nat)
  | slot (k : Nat)
  deriving DecidableEq,Inhabited
structure Place where
  root : Root
  path : List (Nat × Nat)
  off : Nat
  deriving Inhabited
inductive TV where
  | av (v : AV)
  | own (cs : List Cell) (g : Bool)
  | ali (v : AV) (p : Option Place)
  | plc (p : Place)
  | hd (p : Place) (len : Nat)
  | tup (l : List (Option (List Cell × Bool)))
  | skp
  | und
  deriving Inhabited
def TV.ofCells (g : Bool) (cs : List Cell) : TV :=
  match allAv cs with
  | some vs => .av (mkV g vs)
  | none => .own cs g
def TV.shut : TV → TV
  | .own cs g => .av (mkV g (sealRow cs))
  | t => t
structure St where
  env : Nat → TV
  boxes : Nat → Option (List Cell)
  deriving Inhabited
def upd {α : Type} (f : Nat → α) (k : Nat) (v : α) : Nat → α := fun j => if j = k then v else f j
def lstE : List (Nat × TV) → Nat → TV
  | [],_ => .und
  | (j,v) :: r,k => if k = j then v else lstE r k
def lstB : List (Nat × Option (List Cell)) → Nat → Option (List Cell)
  | [],_ => none
  | (j,v) :: r,k => if k = j then v else lstB r k
def getE (e : Nat → TV) (k : Nat) : TV := e k
def getB (b : Nat → Option (List Cell)) (k : Nat) : Option (List Cell) := b k
theorem getB_upd (b : Nat → Option (List Cell)) (k j : Nat) (v : Option (List Cell)) : getB (upd b k v) j = if k = j then v else getB b j := by
  simp only [getB,upd,eq_comm]
theorem getE_upd (e : Nat → TV) (k j : Nat) (v : TV) : getE (upd e k v) j = if k = j then v else getE e j := by
  simp only [getE,upd,eq_comm]
def St.put (st : St) (k : Nat) (v : TV) : St := ⟨upd st.env k v,st.boxes⟩
def getRow : List Cell → List (Nat × Nat) → Option (List Cell)
  | cs,[] => some cs
  | cs,(o,i) :: p => match cs[o]? with
    | some (.own _ rows) => match rows[i]? with
      | some r => getRow r p
      | none => none
    | _ => none
def setRow (f : List Cell → Option (List Cell)) : List Cell → List (Nat × Nat) → Option (List Cell)
  | cs,[] => f cs
  | cs,(o,i) :: p => match cs[o]? with
    | some (.own k rows) => match rows[i]? with
      | some r => match setRow f r p with
        | some r' => some (cs.set o (.own k (rows.set i r')))
        | none => none
      | none => none
    | _ => none
def St.root (st : St) : Root → Option (List Cell)
  | .box k => getB st.boxes k
  | .slot k => match getE st.env k with
    | .own cs _ => some cs
    | _ => none
def St.setRoot (st : St) : Root → List Cell → St
  | .box k,cs => ⟨st.env,upd st.boxes k (some cs)⟩
  | .slot k,cs => match getE st.env k with
    | .own _ g => ⟨upd st.env k (.own cs g),st.boxes⟩
    | _ => st
def St.cells (st : St) (p : Place) (n : Nat) : Option (List Cell) :=
  match st.root p.root with
  | some cs => match getRow cs p.path with
    | some r => if p.off + n ≤ r.length then some ((r.drop p.off).take n) else none
    | none => none
  | none => none
def splice (off : Nat) (new : List Cell) (r : List Cell) : Option (List Cell) :=
  if off + new.length ≤ r.length then some (r.take off ++ new ++ r.drop (off + new.length)) else none
def TV.clr (p : Place) (n : Nat) : TV → TV
  | .ali v (some q) => if q.root = p.root then .und else .ali v (some q)
  | .ali _ none => .und
  | .plc q => if q.root = p.root ∧ hits (q.path.map (·.1)) (p.path.map (·.1)) then .und else .plc q
  | .hd q l => if q.root = p.root ∧ hits (q.path.map (·.1)) (p.path.map (·.1)) then .und else .hd q l
  | t => t
where hits : List Nat → List Nat → Bool
  | o :: _,[] => decide (p.off ≤ o ∧ o < p.off + n)
  | o :: qs,x :: ps => decide (o = x) && hits qs ps
  | [],_ => false
def TV.un (r : Root) : TV → TV
  | .ali v (some q) => if q.root = r then .und else .ali v (some q)
  | .plc q => if q.root = r then .und else .plc q
  | .hd q l => if q.root = r then .und else .hd q l
  | t => t
def TV.hush : TV → TV
  | .ali _ none => .und
  | t => t
def hushE (env : Nat → TV) : Nat → TV := fun k => (env k).hush
def St.hush (st : St) : St := ⟨hushE st.env,st.boxes⟩
def unE (r : Root) (env : Nat → TV) : Nat → TV := fun k => (env k).un r
def clrE (p : Place) (n : Nat) (env : Nat → TV) : Nat → TV := fun k => (env k).clr p n
def St.write (st : St) (p : Place) (new : List Cell) : Option St :=
  match st.root p.root with
  | some cs => match setRow (splice p.off new) cs p.path with
    | some cs' => some ((⟨clrE p new.length st.env,st.boxes⟩ : St).setRoot p.root cs')
    | none => none
  | none => none
/-! ### Code -/
inductive Opd where
  | t (n : Nat)
  | v (a : AV)
  | w (cs : List Cell) (g : Bool)
  deriving Inhabited
inductive Seal where
  | deep | none
  deriving DecidableEq,Inhabited
inductive Cv where
  | same | int (k : IntKind) | toBytes | toStr
  deriving DecidableEq,Inhabited
inductive NK where
  | sl | pt | ifc | fn
  deriving DecidableEq,Inhabited
inductive AOp where
  | mv (x : Opd)
  | mvr (n : Nat)
  | mvt (n : Nat)
  | asg (x : Opd)
  | asgs (x : Opd)
  | asgo (x : Opd)
  | pick (c a b : Opd)
  | alloc (zero : List Cell)
  | box (x : Opd)
  | build (zero : List Cell) (parts : List (Nat × Nat × Opd))
  | buildZ (zero : List Cell) (parts : List (Nat × Nat × Opd))
  | buildS (n st : Nat) (zero : List Cell) (parts : List (Nat × Nat × Opd))
  | load (n : Nat) (g : Bool) (a : Opd)
  | loadC (n : Nat) (a : Opd)
  | take (n : Nat) (g : Bool) (a : Opd)
  | store (n : Nat) (a x : Opd)
  | storeR (n : Nat) (a : Opd) (m : Nat)
  | iadrR (st n : Nat) (i : Opd)
  | mvh (n : Nat)
  | iadrH (st m : Nat) (i : Opd)
  | appendR (bytes st : Nat) (x y : Opd)
  | nilc (x : Opd)
  | bin (op : BinOp) (x y : Opd)
  | binB (neg : Bool) (x y : Opd)
  | isnil (k : NK) (neg : Bool) (x : Opd)
  | un (op : UnOp) (x : Opd)
  | conv (c : Cv) (x : Opd)
  | mki (t : Nat) (x : Opd)
  | mkf (f : Nat) (first caps : List Opd)
  | mks (zero : List Cell) (len cap : Opd)
  | slc (isStr : Bool) (st : Nat) (x : Opd) (lo hi : Option Opd)
  | fadr (off : Nat) (x : Opd)
  | fld (off n : Nat) (g : Bool) (x : Opd)
  | iadr (st : Nat) (x i : Opd)
  | iadrA (len st : Nat) (x i : Opd)
  | idxA (len st : Nat) (g : Bool) (x i : Opd)
  | idxS (x i : Opd)
  | ext (x : Opd) (i : Nat)
  | tas (t : Nat) (ok : Bool) (x : Opd)
  | len (isStr : Bool) (x : Opd)
  | mm (isMax : Bool) (xs : List Opd)
  | append (bytes st : Nat) (x y : Opd)
  | call (s : Seal) (f : Opd) (args : List Opd)
  | callM (s : Seal) (f : Opd) (args : List Opd)
  | fail
  deriving Inhabited
structure AO where
  dst : Option Nat
  op : AOp
  guard : Option (Nat × Bool) := none
  deriving Inhabited
inductive Ph where
  | bag (hu : Bool) (hs es : List Nat) (ops : List (Nat × AO))
  | bagS (ss hs es : List Nat) (ops : List (Nat × AO))
  | one (i : Nat) (o : AO)
  | pair (i : Nat) (o : AO) (j : Nat) (o' : AO)
  deriving Inhabited
inductive AC where
  | skip
  | reg (ops : List AO) (keep : List Nat)
  | dreg (phs : List Ph) (keep : List Nat)
  | seq (a b : AC)
  | cond (c : Opd) (a b : AC)
  | block (id : Nat) (b : AC)
  | loop (keep : List Nat) (b : AC)
  | exit (id : Nat)
  | ret
  | ask (f d d0 d1 tE tP e m : Nat) (keep : List Nat)
  | fail
  deriving Inhabited
inductive PMode where
  | val
  | mv
  | io (n : Nat)
  deriving DecidableEq,Inhabited
inductive ARes where
  | tmp (t : Nat)
  | cell (a n : Nat) (g : Bool)
  deriving DecidableEq,Inhabited
structure AFun where
  params : List PMode
  ntmps : Nat
  results : List ARes
  roots : List Nat
  body : AC
  deriving Inhabited
inductive Arg where
  | val (v : AV)
  | mv (cs : List Cell) (g : Bool)
  | io (cs : List Cell)
  deriving Inhabited
structure CR where
  res : List (List Cell × Bool)
  outs : List (List Cell)
  deriving Inhabited
structure Tab where
  fn : Nat → Option AFun
  prim : Nat → Option (List Arg → Option CR)
  modes : Nat → List PMode
  ask : Nat → Nat → Nat → Bool := fun _ _ _ => false
inductive Ex where
  | norm
  | exit (id : Nat)
  | ret
  deriving DecidableEq,Inhabited
def St.opd (st : St) : Opd → TV
  | .t n => getE st.env n
  | .v a => .av a
  | .w cs g => .own cs g
def TV.rd : TV → Option AV
  | .av v => some v
  | .ali v _ => some v
  | .own cs g => some (mkV g (sealRow cs))
  | _ => none
def Opd.eat (st : St) : Opd → St
  | .t n => match getE st.env n with
    | .own _ _ => st.put n .und
    | _ => st
  | _ => st
def TV.give : TV → Option (List Cell × Bool)
  | .av .und => none
  | .av v => some (cellsOf v,v.isAgg)
  | .own cs g => some (cs,g)
  | _ => none
def inRange (k : IntKind) (n : Int) : AV := .int k (k.wrap n)
def binA (op : BinOp) : AV → AV → Option AV
  | .int k a,.int k' b =>
    match op with
    | .shl => if b < 0 then none else some (.int k (k.wrap (a * 2 ^ (min b.toNat k.bits))))
    | .shr => if b < 0 then none else some (.int k (a.fdiv (2 ^ (min b.toNat k.bits))))
    | _ => if k ≠ k' then none else match op with
      | .add => some (inRange k (a + b))
      | .sub => some (inRange k (a - b))
      | .mul => some (inRange k (a * b))
      | .quo => if b = 0 then none else some (inRange k (a.tdiv b))
      | .rem => if b = 0 then none else some (.int k (a.tmod b))
      | .and => some (inRange k (BitVec.ofInt k.bits a &&& BitVec.ofInt k.bits b).toNat)
      | .or => some (inRange k (BitVec.ofInt k.bits a ||| BitVec.ofInt k.bits b).toNat)
      | .xor => some (inRange k (BitVec.ofInt k.bits a ^^^ BitVec.ofInt k.bits b).toNat)
      | .andNot => some (inRange k (BitVec.ofInt k.bits a &&& ~~~ BitVec.ofInt k.bits b).toNat)
      | .eql => some (.bool (a == b))
      | .neq => some (.bool (a != b))
      | .lss => some (.bool (decide (a < b)))
      | .leq => some (.bool (decide (a ≤ b)))
      | .gtr => some (.bool (decide (a > b)))
      | .geq => some (.bool (decide (a ≥ b)))
      | _ => none
  | .str a,.str b => match op with
    | .add => if a.length + b.length ≤ 2 ^ 62 then some (.str (a ++ b)) else none
    | .eql => some (.bool (a == b))
    | .neq => some (.bool (!(a == b)))
    | .lss => some (.bool (bLess a b))
    | .leq => some (.bool (bLess a b || a == b))
    | .gtr => some (.bool (!(bLess a b || a == b)))
    | .geq => some (.bool (!(bLess a b)))
    | _ => none
  | _,_ => none
where bLess : List UInt8 → List UInt8 → Bool
  | _,[] => false
  | [],_ :: _ => true
  | a :: x,b :: y => a < b || (a == b && bLess x y)
def unA : UnOp → AV → Option AV
  | .not,.bool b => some (.bool (!b))
  | .neg,.int k n => some (inRange k (0 - n))
  | _,_ => none
def isNilA : NK → AV → Option Bool
  | .pt,.nilp => some true
  | .pt,.vptr _ => some false
  | .fn,.nilf => some true
  | .fn,.clo _ _ _ => some false
  | .ifc,.nili => some true
  | .ifc,.iface _ _ => some false
  | .sl,.lst _ (_ :: _) => some false
  | .sl,.emp _ nn => some (!nn)
  | _,_ => none
def convA : Cv → AV → Option AV
  | .same,.str s => some (.str s)
  | .int k,.int _ n => some (.int k (k.wrap n))
  | _,_ => none
def AV.scalar : AV → Bool
  | .int _ _ | .bool _ | .str _ | .nilp | .nili | .nilf => true
  | _ => false
def Cell.scalar : Cell → Bool
  | .av v => v.scalar
  | _ => false
def gives (st : St) : List (Nat × Nat × Opd) → Option (List (Nat × List Cell) × St)
  | [] => some ([],st)
  | (o,n,x) :: r => match (st.opd x).give with
    | some (cs,_) => if cs.length = n then match gives (x.eat st) r with
        | some (l,st') => some ((o,cs) :: l,st')
        | none => none
      else none
    | none => none
def fillC : List Cell → List (Nat × List Cell) → Option (List Cell)
  | cs,[] => some cs
  | cs,(o,new) :: r => match splice o new cs with
    | some cs' => fillC cs' r
    | none => none
def chop (st : Nat) : Nat → List Cell → List (List Cell)
  | 0,_ => []
  | n + 1,cs => cs.take st :: chop st n (cs.drop st)
def repC (zero : List Cell) : Nat → List Cell
  | 0 => []
  | n + 1 => zero ++ repC zero n
def repR (zero : List Cell) : Nat → List (List Cell)
  | 0 => []
  | n + 1 => zero :: repR zero n
def avs (st : St) : List Opd → Option (List AV)
  | [] => some []
  | x :: r => match st.opd x with
    | .av v => match avs st r with | some vs => some (v :: vs) | none => none
    | _ => none
def St.freeze (st : St) (n k : Nat) (cs : List Cell) : St := ⟨upd (unE (.box k) st.env) n (.av (.vptr (sealRow cs))),upd st.boxes k none⟩
def caps (st : St) : List Opd → Option (List AV × St)
  | [] => some ([],st)
  | x :: r => match st.opd x with
    | .av v => match caps st r with
      | some (vs,st') => some (v :: vs,st')
      | none => none
    | .plc ⟨.box k,[],0⟩ => match x,getB st.boxes k with
      | .t n,some cs => match caps (st.freeze n k cs) r with
        | some (vs,st') => some (.vptr (sealRow cs) :: vs,st')
        | none => none
      | _,_ => none
    | _ => none
def mmA (isMax : Bool) : AV → List AV → Option AV
  | v,[] => some v
  | .int k x,.int _ y :: r => mmA isMax (.int k (if isMax then (if y > x then y else x) else (if y < x then y else x))) r
  | _,_ => none
def idx (i : AV) : Option Nat :=
  match i with
  | .int _ n => if 0 ≤ n then some n.toNat else none
  | _ => none
def St.bnd (st : St) (d : Nat) : Option Opd → Option Nat
  | none => some d
  | some o => match st.opd o with
    | .av i => idx i
    | _ => none
def limit : Nat := 4294967296
def appNew (st : St) (k : Nat) (y : Opd) : Option (List (List Cell) × St) :=
  match st.opd y with
  | .av (.lst k' rows) => if k' = k then some (rows.map (·.map .av),st) else none
  | .av (.emp k' _) => if k' = k then some ([],st) else none
  | .own [.own k' rows] false => if k' = k then some (rows,y.eat st) else none
  | .ali (.lst _ rows) (some p) => match st.cells p 1 with
    | some [.own k' rs] => if k' = k then match allAv rs.flatten with
        | some _ => some (rows.map (·.map .av),st)
        | none => none
      else none
    | _ => none
  | _ => none
def appR (st : St) (k : Nat) (x y : Opd) : Option (TV × St) :=
  match appNew st k y with
  | none => none
  | some (rows,st1) => match st1.opd x with
    | .own [.own k' base] false =>
      if k' = k ∧ base.length + rows.length ≤ limit then some (.own [.own k (base ++ rows)] false,(x.eat st1).hush) else none
    | .ali (.lst _ _) (some p) => match st1.cells p 1 with
      | some [.own k' base] =>
        if k' = k ∧ base.length + rows.length ≤ limit then match st1.write p [.dead] with
          | some st2 => some (.own [.own k (base ++ rows)] false,st2.hush)
          | none => none
        else none
      | _ => none
    | _ => none
def stepOp (dst : Option Nat) (op : AOp) (st : St) : Option (TV × St) :=
  match op with
  | .mv x => match st.opd x with
    | .av v => some (.av v,st)
    | .plc p => some (.plc p,st)
    | .ali v p => some (.ali v p,st)
    | .own cs g => match x with | .w _ _ => some (.own cs g,st) | _ => none
    | .tup l => match x with | .t n => some (.tup l,st.put n .und) | _ => none
    | _ => none
  | .mvr n => match getE st.env n with
    | .av v => some (.av v,st)
    | .own cs g => some (.ali (mkV g (sealRow cs)) (some ⟨.slot n,[],0⟩),st)
    | _ => none
  | .mvt n => match getE st.env n with
    | .av v => some (.av v,st)
    | .own cs g => some (.own cs g,⟨unE (.slot n) (st.put n .und).env,st.boxes⟩)
    | _ => none
  | .asg x => match st.opd x with
    | .av v => some (.av v,st)
    | .plc p => some (.plc p,st)
    | .own cs g => some (.own cs g,x.eat st)
    | _ => none
  | .asgs x => match st.opd x with
    | .av v => some (.av v,st)
    | .own cs g => some (.av (mkV g (sealRow cs)),x.eat st)
    | _ => none
  | .asgo x => match dst with
    | none => none
    | some d => match st.opd x with
      | .av v => some (.av v,⟨unE (.slot d) st.env,st.boxes⟩)
      | .own cs g => some (.own cs g,⟨unE (.slot d) (x.eat st).env,(x.eat st).boxes⟩)
      | _ => none
  | .pick c a b => match st.opd c with
    | .av (.bool t) => match st.opd (if t then a else b) with
      | .av v => some (.av v,st)
      | _ => none
    | _ => none
  | .alloc zero => match dst with
    | none => none
    | some d => match getB st.boxes d with
      | some _ => none
      | none => some (.plc ⟨.box d,[],0⟩,⟨st.env,upd st.boxes d (some zero)⟩)
  | .box x => match dst with
    | none => none
    | some d => match getB st.boxes d with
      | some _ => none
      | none => match (st.opd x).give with
        | some (cs,_) => some (.plc ⟨.box d,[],0⟩,⟨(x.eat st).env,upd st.boxes d (some cs)⟩)
        | none => none
  | .build zero parts => match gives st parts with
    | some (l,st') => match fillC zero l with
      | some cs => some (TV.ofCells true cs,st')
      | none => none
    | none => none
  | .buildZ zero parts => match gives st parts with
    | some (l,st') => match fillC zero l with
      | some cs => some ((TV.ofCells true cs).shut,st')
      | none => none
    | none => none
  | .buildS n k zero parts => match gives st parts with
    | some (l,st') => match fillC (repC zero n) l with
      | some cs => some (.own [.own k (chop k n cs)] false,st')
      | none => none
    | none => none
  | .load n g a => match st.opd a with
    | .plc p => match st.cells p n with
      | some cs => match (if g then viewAv cs else allAv cs) with
        | some vs => some (.av (mkV g vs),st)
        | none => some (.ali (mkV g (sealRow cs)) (some p),st)
      | none => none
    | .av (.vptr cs) => if n ≤ cs.length then some (.av (mkV g (cs.take n)),st) else none
    | .ali (.vptr cs) _ => if n ≤ cs.length then some (.ali (mkV g (cs.take n)) none,st) else none
    | _ => none
  | .loadC n a => match st.opd a with
    | .plc p => match st.cells p n with
      | some cs => match allAv cs with
        | some vs => some (.av (mkV true vs),st)
        | none => some (.ali (mkV true (sealRow cs)) (some p),st)
      | none => none
    | .av (.vptr cs) => if n ≤ cs.length then some (.av (mkV true (cs.take n)),st) else none
    | .ali (.vptr cs) _ => if n ≤ cs.length then some (.ali (mkV true (cs.take n)) none,st) else none
    | _ => none
  | .take n g a => match st.opd a with
    | .plc p => match st.cells p n with
      | some cs => match allAv cs with
        | some vs => some (.av (mkV g vs),st)
        | none => match st.write p (cs.map fun _ => .dead) with
          | some st' => some (.own cs g,st')
          | none => none
      | none => none
    | .av (.vptr cs) => if n ≤ cs.length then some (.av (mkV g (cs.take n)),st) else none
    | _ => none
  | .store n a x => match st.opd a with
    | .plc p => match (st.opd x).give with
      | some (cs,_) => if cs.length = n then match (x.eat st).write p cs with
          | some st' => some (.und,st')
          | none => none
        else none
      | none => none
    | _ => none
  | .storeR n a m => match st.opd a with
    | .plc p => match getE st.env m with
      | .own cs _ => if cs.length = n then match (⟨unE (.slot m) (st.put m .und).env,st.boxes⟩ : St).write p cs with
          | some st' => some (.und,st')
          | none => none
        else none
      | _ => none
    | _ => none
  | .iadrR k n i => match st.opd i with
    | .av iv => match idx iv with
      | some j => match getE st.env n with
        | .own [.own k' rs] false => if k' = k ∧ j < rs.length then some (.plc ⟨.slot n,[(0,j)],0⟩,st) else none
        | _ => none
      | none => none
    | _ => none
  | .mvh n => match getE st.env n with
    | .own [.own _ (r :: rs)] false => some (.hd ⟨.slot n,[(0,0)],0⟩ (r :: rs).length,st)
    | _ => none
  | .iadrH k m i => match st.opd i with
    | .av iv => match idx iv with
      | some j => match getE st.env m with
        | .hd ⟨.slot n,[(0,0)],0⟩ len => match st.cells ⟨.slot n,[],0⟩ 1 with
          | some [.own k' rs] => if k' = k ∧ j < rs.length ∧ j < len then some (.plc ⟨.slot n,[(0,j)],0⟩,st) else none
          | _ => none
        | _ => none
      | none => none
    | _ => none
  | .appendR _ k x y => match dst with
    | none => none
    | some d => match appR st k x y with
      | some (v,st') => some (v,⟨unE (.slot d) st'.env,st'.boxes⟩)
      | none => none
  | .nilc x => match st.opd x with
    | .plc p => some (.plc p,st)
    | .av (.vptr cs) => some (.av (.vptr cs),st)
    | .av (.clo f a b) => some (.av (.clo f a b),st)
    | .ali (.clo f a b) p => some (.ali (.clo f a b) p,st)
    | _ => none
  | .bin op x y => match st.opd x,st.opd y with
    | .av a,.av b => match binA op a b with | some v => some (.av v,st) | none => none
    | _,_ => none
  | .binB neg x y => match st.opd x,st.opd y with
    | .av (.bool a),.av (.bool b) => some (.av (.bool (if neg then !(a == b) else a == b)),st)
    | _,_ => none
  | .isnil k neg x => match (st.opd x).rd with
    | some v => match isNilA k v with | some b => some (.av (.bool (if neg then !b else b)),st) | none => none
    | none => none
  | .un op x => match st.opd x with
    | .av a => match unA op a with | some v => some (.av v,st) | none => none
    | _ => none
  | .conv c x => match st.opd x with
    | .av v => match convA c v with | some r => some (.av r,st) | none => none
    | _ => none
  | .mki t x => match st.opd x with
    | .av v => some (.av (.iface t v),st)
    | .plc ⟨.box k,[],0⟩ => match x,getB st.boxes k with
      | .t n,some cs => some (.av (.iface t (.vptr (sealRow cs))),st.freeze n k cs)
      | _,_ => none
    | _ => none
  | .mkf f first cs => match avs st first with
    | some fs => match caps st cs with
      | some (vs,st') => some (.av (.clo f fs vs),st')
      | none => none
    | none => none
  | .mks zero l c => match st.opd l,st.opd c with
    | .av (.int _ n),.av (.int _ m) => if 0 ≤ n ∧ n ≤ m ∧ m ≤ limit then some (.own [.own zero.length (repR zero n.toNat)] false,st) else none
    | _,_ => none
  | .slc isStr k x lo hi =>
    match isStr,(st.opd x).rd with
    | true,some (.str s) =>
      match st.bnd 0 lo,st.bnd s.length hi with
      | some l,some h => if l ≤ h ∧ h ≤ s.length then some (.av (.str ((s.take h).drop l)),st) else none
      | _,_ => none
    | false,some (.lst k' rows) =>
      match st.bnd 0 lo,st.bnd rows.length hi with
      | some l,some h => if k' = k ∧ l ≤ h ∧ h ≤ rows.length then match st.opd x with
          | .own [.own _ rs] false => if l = 0 then some (.own [.own k (rs.take h)] false,x.eat st) else none
          | .av _ => some (.av (.lst k ((rows.take h).drop l)),st)
          | .ali _ _ => some (.ali (.lst k ((rows.take h).drop l)) none,st)
          | _ => none
        else none
      | _,_ => none
    | _,_ => none
  | .fadr off x => match st.opd x with
    | .plc p => if (st.cells p off).isSome then some (.plc { p with off := p.off + off },st) else none
    | .av (.vptr cs) => if off ≤ cs.length then some (.av (.vptr (cs.drop off)),st) else none
    | .ali (.vptr cs) _ => if off ≤ cs.length then some (.ali (.vptr (cs.drop off)) none,st) else none
    | _ => none
  | .fld off n g x => match st.opd x with
    | .av (.agg cs) => if off + n ≤ cs.length then some (.av (mkV g ((cs.drop off).take n)),st) else none
    | .ali (.agg cs) _ => if off + n ≤ cs.length then some (.ali (mkV g ((cs.drop off).take n)) none,st) else none
    | _ => none
  | .iadr k x i => match st.opd i with
    | .av i => match idx i with
      | none => none
      | some i => match st.opd x with
        | .av (.lst k' rows) => if k' = k then match rows[i]? with | some r => some (.av (.vptr r),st) | none => none else none
        | .ali (.lst _ _) (some p) => match st.cells p 1 with
          | some [.own k' rs] => if k' = k ∧ i < rs.length then some (.plc ⟨p.root,p.path ++ [(p.off,i)],0⟩,st) else none
          | _ => none
        | .ali (.lst k' rows) none => if k' = k then match rows[i]? with | some r => some (.ali (.vptr r) none,st) | none => none else none
        | _ => none
    | _ => none
  | .iadrA n k x i => match st.opd i with
    | .av i => match idx i with
      | none => none
      | some i => if n ≤ i then none else match st.opd x with
        | .plc p => if (st.cells p (i * k)).isSome then some (.plc { p with off := p.off + i * k },st) else none
        | .av (.vptr cs) => if i * k ≤ cs.length then some (.av (.vptr (cs.drop (i * k))),st) else none
        | _ => none
    | _ => none
  | .idxA n k g x i => match st.opd x,st.opd i with
    | .av (.agg cs),.av i => match idx i with
      | none => none
      | some i => if i < n ∧ i * k + k ≤ cs.length then some (.av (mkV g ((cs.drop (i * k)).take k)),st) else none
    | .ali (.agg cs) _,.av i => match idx i with
      | none => none
      | some i => if i < n ∧ i * k + k ≤ cs.length then some (.ali (mkV g ((cs.drop (i * k)).take k)) none,st) else none
    | _,_ => none
  | .idxS x i => match st.opd x,st.opd i with
    | .av (.str s),.av i => match idx i with
      | none => none
      | some i => match s[i]? with | some b => some (.av (.int .u8 b.toNat),st) | none => none
    | _,_ => none
  | .ext x i => match x,st.opd x with
    | .t n,.tup l => match l[i]? with
      | some (some (cs,g)) => match allAv cs with
        | some vs => some (.av (mkV g vs),st)
        | none => some (.own cs g,st.put n (.tup (l.set i none)))
      | _ => none
    | _,_ => none
  | .tas t ok x => match st.opd x with
    | .av (.iface u v) => if ok then none else if u = t then some (.av v,st) else none
    | _ => none
  | .len isStr x => match isStr,(st.opd x).rd with
    | true,some (.str s) => some (.av (.int .i64 s.length),st)
    | false,some (.lst _ rows) => some (.av (.int .i64 rows.length),st)
    | _,_ => none
  | .mm isMax xs => match avs st xs with
    | some (v :: vs) => match mmA isMax v vs with | some r => some (.av r,st) | none => none
    | _ => none
  | .append _ k x y =>
    match appNew st k y with
    | none => none
    | some (rows,st1) => match st1.opd x with
      | .own [.own k' base] false =>
        if k' = k ∧ base.length + rows.length ≤ limit then some (.own [.own k (base ++ rows)] false,(x.eat st1).hush) else none
      | .ali (.lst _ _) (some p) => match st1.cells p 1 with
        | some [.own k' base] =>
          if k' = k ∧ base.length + rows.length ≤ limit then match st1.write p [.dead] with
            | some st2 => some (.own [.own k (base ++ rows)] false,st2.hush)
            | none => none
          else none
        | _ => none
      | _ => none
  | .call .. | .callM .. | .fail => none
def args (st : St) : List PMode → List Opd → Option (List Arg × Bool × List Nat × St)
  | _,[] => some ([],false,[],st)
  | m :: ms,x :: xs => match m,st.opd x with
    | .val,.av v => match args st ms xs with
      | some (l,t,ks,st') => some (.val v :: l,t,ks,st')
      | none => none
    | .val,.own cs g => match args (x.eat st) ms xs with
      | some (l,t,ks,st') => some (.val (mkV g (sealRow cs)) :: l,t,ks,st')
      | none => none
    | .val,.ali v _ => match args st ms xs with
      | some (l,_,ks,st') => some (.val v :: l,true,ks,st')
      | none => none
    | .mv,.own cs g => match args (x.eat st) ms xs with
      | some (l,t,ks,st') => some (.mv cs g :: l,t,ks,st')
      | none => none
    | .mv,.av .und => none
    | .mv,.av v => match args st ms xs with
      | some (l,t,ks,st') => some (.mv (cellsOf v) v.isAgg :: l,t,ks,st')
      | none => none
    | .mv,.ali v (some p) => match st.cells p (cellsOf v).length with
      | some cs => match st.write p (cs.map fun _ => .dead) with
        | some st1 => match args st1 ms xs with
          | some (l,t,ks,st') => some (.mv cs v.isAgg :: l,t,ks,st')
          | none => none
        | none => none
      | none => none
    | .io n,.plc ⟨.box k,[],0⟩ => match getB st.boxes k with
      | some cs => if cs.length = n then match st.write ⟨.box k,[],0⟩ (cs.map fun _ => .dead) with
          | some st1 => match args st1 ms xs with
            | some (l,t,ks,st') => some (.io cs :: l,t,k :: ks,st')
            | none => none
          | none => none
        else none
      | none => none
    | _,_ => none
  | [],_ :: _ => none
def St.back (st : St) (k : Nat) (cs : List Cell) : St := ⟨clrE ⟨.box k,[],0⟩ cs.length st.env,upd st.boxes k (some cs)⟩
def tvOf (s : Seal) (cs : List Cell) (g : Bool) : TV :=
  match s with
  | .deep => .av (mkV g (sealRow cs))
  | .none => TV.ofCells g cs
def resTV (s : Seal) : List (List Cell × Bool) → TV
  | [(cs,g)] => tvOf s cs g
  | l => .tup (l.map fun (cs,g) => some (match s with | .deep => (sealRow cs).map .av | .none => cs,g))
def allScalar (l : List (List Cell × Bool)) : Bool := l.all fun (cs,_) => cs.all Cell.scalar
def fits : List PMode → List Arg → Bool
  | [],[] => true
  | .io _ :: ms,.io _ :: as => fits ms as
  | .io _ :: _,_ :: _ => false
  | _ :: _,.io _ :: _ => false
  | _ :: ms,_ :: as => fits ms as
  | _,_ => false
def entry : Nat → List Arg → List (Nat × TV) × List (Nat × Option (List Cell))
  | _,[] => ([],[])
  | i,.val v :: r => ((i,.av v) :: (entry (i + 1) r).1,(entry (i + 1) r).2)
  | i,.mv cs g :: r => ((i,TV.ofCells g cs) :: (entry (i + 1) r).1,(entry (i + 1) r).2)
  | i,.io cs :: r => ((i,.plc ⟨.box i,[],0⟩) :: (entry (i + 1) r).1,(i,some cs) :: (entry (i + 1) r).2)
def TV.fn : TV → Option (Nat × List AV × List AV × Bool)
  | .av (.clo f a b) => some (f,a,b,false)
  | .ali (.clo f a b) _ => some (f,a,b,true)
  | _ => none
def hasMv : List Arg → Bool
  | [] => false
  | .mv cs _ :: r => (allAv cs).isNone || hasMv r
  | _ :: r => hasMv r
def hasIo : List Arg → Bool
  | [] => false
  | .io _ :: _ => true
  | _ :: r => hasIo r
def results (st : St) : List ARes → Option (List (List Cell × Bool))
  | [] => some []
  | .tmp t :: r => match getE st.env t,results st r with
    | .av .und,_ => none
    | .av v,some l => some ((cellsOf v,v.isAgg) :: l)
    | .own cs g,some l => some ((cs,g) :: l)
    | .ali v _,some l => if v.scalar then some ((cellsOf v,v.isAgg) :: l) else none
    | _,_ => none
  | .cell a n g :: r => match getE st.env a,results st r with
    | .plc ⟨.box k,[],0⟩,some l => if k = a then match getB st.boxes k with
        | some cs => if cs.length = n then some ((cs,g) :: l) else none
        | none => none
      else none
    | _,_ => none
def outs (st : St) : Nat → List Arg → Option (List (List Cell))
  | _,[] => some []
  | i,.io cs0 :: r => match getE st.env i,getB st.boxes i,outs st (i + 1) r with
    | .plc ⟨.box k,[],0⟩,some cs,some l => if k = i ∧ cs.length = cs0.length then some (cs :: l) else none
    | _,_,_ => none
  | i,_ :: r => outs st (i + 1) r
def TV.kept (K : List Nat) : TV → TV
  | .plc p => if inK p.root then .plc p else .und
  | .hd p l => if inK p.root then .hd p l else .und
  | .ali v (some p) => if inK p.root then .ali v (some p) else .und
  | t => t
where inK : Root → Bool
  | .box k => K.contains k
  | .slot k => K.contains k
def St.keep (K : List Nat) (st : St) : St :=
  ⟨lstE (K.map fun k => (k,(getE st.env k).kept K)),lstB (K.map fun k => (k,getB st.boxes k))⟩
def wanted (st : St) : Option (Nat × Bool) → Option Bool
  | none => some true
  | some (t,b) => match getE st.env t with
    | .av (.bool c) => some (c == b)
    | .skp => some false
    | _ => none
/-! ### Operations that may come in whatever order -/
def safeP (ds es : List Nat) (p : Place) : Bool :=
  match p.root with
  | .box k => !ds.contains k
  | .slot k => !ds.contains k && !es.contains k
def safeT (ds es : List Nat) : TV → Bool
  | .plc p => safeP ds es p
  | .hd p _ => safeP ds es p
  | .ali _ (some p) => safeP ds es p
  | _ => true
def eatOk (es : List Nat) (st : St) (x : Opd) : Bool :=
  match x with
  | .t n => match getE st.env n with
    | .own _ _ => es.contains n
    | _ => true
  | _ => true
def TV.isPlc : TV → Bool
  | .plc _ => true
  | _ => false
def TV.isAli : TV → Bool
  | .ali _ _ => true
  | _ => false
def TV.loose : TV → Bool
  | .ali _ none => true
  | _ => false
def PMode.isVal : PMode → Bool
  | .val => true
  | _ => false
def quiet (T : Tab) (hu : Bool) (ds es : List Nat) (st : St) : AOp → Bool
  | .mv x => match st.opd x with
    | .tup _ => (match x with | .t n => es.contains n | _ => false)
    | _ => true
  | .mvr _ => true
  | .mvt n => match getE st.env n with
    | .av _ => true
    | _ => false
  | .asg x => eatOk es st x
  | .asgs x => eatOk es st x
  | .asgo _ => false
  | .pick _ _ _ => true
  | .alloc _ => true
  | .box x => eatOk es st x
  | .build _ parts | .buildZ _ parts => parts.all fun x => eatOk es st x.2.2
  | .buildS _ _ _ parts => parts.all fun x => eatOk es st x.2.2
  | .load _ _ a | .loadC _ a => safeT ds es (st.opd a)
  | .take _ _ _ => false
  | .store _ _ _ | .storeR _ _ _ | .appendR _ _ _ _ => false
  | .iadrR _ _ _ | .mvh _ => true
  | .iadrH _ m _ => safeT ds es (getE st.env m)
  | .nilc _ | .bin _ _ _ | .binB _ _ _ | .isnil _ _ _ | .un _ _ | .conv _ _ => true
  | .mki _ x => !(st.opd x).isPlc
  | .mkf _ _ cs => cs.all fun x => !(st.opd x).isPlc
  | .mks _ _ _ => true
  | .slc _ _ x _ _ => eatOk es st x
  | .fadr _ x => safeT ds es (st.opd x)
  | .fld _ _ _ _ => true
  | .iadr _ x _ => safeT ds es (st.opd x)
  | .iadrA _ _ x _ => safeT ds es (st.opd x)
  | .idxA _ _ _ _ _ | .idxS _ _ => true
  | .ext x i => match st.opd x with
    | .tup l => match l[i]? with
      | some (some (cs,_)) => (allAv cs).isSome
      | _ => true
    | _ => true
  | .tas _ _ _ | .len _ _ | .mm _ _ => true
  | .append _ _ x y => hu && (match st.opd x with | .own _ _ => eatOk es st x | _ => false) && !(st.opd y).isAli && eatOk es st y
  | .call _ f xs => (match (st.opd f).fn with
    | some (g,_,_,_) => (T.modes g).all PMode.isVal
    | none => false) && xs.all fun x => eatOk es st x
  | .callM _ _ _ => false
  | .fail => false
def AO.loose (o : AO) (st : St) : Bool :=
  match o.dst with
  | some d => (getE st.env d).loose
  | none => false
def AOp.bx : AOp → Option Nat
  | .store _ (.t n) _ => some n
  | _ => none
def AO.sbx (o : AO) : Option Nat := match o.dst with
  | none => o.op.bx
  | some _ => none
def bagDs (ops : List (Nat × AO)) : List Nat := ops.filterMap (·.2.dst) ++ ops.filterMap (·.2.sbx)
def TV.still (n : Nat) : TV → Bool
  | .ali _ (some q) => decide (q.root ≠ .box n)
  | .ali _ none => false
  | .plc q => decide (q.root ≠ .box n) || q.path.isEmpty
  | .hd q _ => decide (q.root ≠ .box n)
  | _ => true
def St.calm (ss : List Nat) (st : St) : St := ⟨fun k => if ss.all (fun n => (getE st.env k).still n) then getE st.env k else .und,st.boxes⟩
def AO.stillO (ss : List Nat) (o : AO) (st : St) : Bool :=
  match o.dst with
  | some d => ss.all fun n => (getE st.env d).still n
  | none => true
def storeQ (ss es : List Nat) (st : St) (o : AO) : Bool := match o.dst,o.guard,o.op with
  | none,none,.store m (.t n) x => ss.contains n && (match getE st.env n with | .plc ⟨.box k,[],0⟩ => k == n | _ => false) && (match getB st.boxes n with | some cs => cs.length == m | none => false) && eatOk es st x
  | _,_,_ => false
def AOp.stA : AOp → Option Opd
  | .store _ a _ => some a
  | .storeR _ a _ => some a
  | _ => none
def pairOk (st : St) (o o' : AO) : Bool :=
  o.dst.isNone && o'.dst.isNone && o.guard.isNone && o'.guard.isNone && match o.op.stA,o'.op.stA with
  | some a,some b => match st.opd a,st.opd b with
    | .plc p,.plc q => decide (p.root ≠ q.root)
    | _,_ => false
  | _,_ => false
def quietO (T : Tab) (hu : Bool) (ds es : List Nat) (st : St) (o : AO) : Bool :=
  match wanted st o.guard with
  | some true => quiet T hu ds es st o.op
  | some false => true
  | none => false
def askSt (d d0 d1 tE e m : Nat) (st : St) : Option St :=
  match getE st.env e with
  | .av v => match getE st.env m with
    | .plc ⟨.box k,[],0⟩ => match getB st.boxes k with
      | some [_] => match v with
        | .nili => some (((st.put d0 (.av v)).put d1 .und).put d (.av (.bool false)))
        | .iface t (.vptr cs) => if t = tE then match ((st.put d0 (.av v)).put d1 .und).write ⟨.box k,[],0⟩ [.dead] with
            | some st1 => some ((st1.back k [.av (.vptr cs)]).put d (.av (.bool true)))
            | none => none
          else none
        | _ => none
      | _ => none
    | _ => none
  | _ => none
mutual
def callF (T : Tab) : Nat → Nat → List Arg → Option CR
  | 0,_,_ => none
  | n + 1,f,as => match T.prim f with
    | some p => p as
    | none => match T.fn f with
      | none => none
      | some fn =>
        if !fits fn.params as then none else
        match exec T n fn.body ⟨lstE (entry 0 as).1,lstB (entry 0 as).2⟩ with
        | some (.norm,st) | some (.ret,st) => match results st fn.results,outs st 0 as with
          | some l,some o => some ⟨l,o⟩
          | _,_ => none
        | _ => none
def exec (T : Tab) : Nat → AC → St → Option (Ex × St)
  | 0,_,_ => none
  | n + 1,c,st => match c with
    | .skip => some (.norm,st)
    | .reg ops K => match runOps T n ops st with
      | some st' => some (.norm,st'.keep K)
      | none => none
    | .dreg phs K => match runPhs T n phs st with
      | some st' => some (.norm,st'.keep K)
      | none => none
    | .seq a b => match exec T n a st with
      | some (.norm,st') => exec T n b st'
      | r => r
    | .cond x a b => match st.opd x with
      | .av (.bool t) => exec T n (if t then a else b) st
      | _ => none
    | .block id b => match exec T n b st with
      | some (.exit j,st') => if j = id then some (.norm,st') else some (.exit j,st')
      | r => r
    | .loop K b => match exec T n b (st.keep K) with
      | some (.norm,st') => exec T n (.loop K b) st'
      | r => r
    | .exit id => some (.exit id,st)
    | .ret => some (.ret,st)
    | .ask f d d0 d1 tE tP e m K => if T.ask f tE tP then match askSt d d0 d1 tE e m st with
        | some st' => some (.norm,st'.keep K)
        | none => none
      else none
    | .fail => none
def runOps (T : Tab) : Nat → List AO → St → Option St
  | 0,_,_ => none
  | n + 1,ops,st => match ops with
    | [] => some st
    | o :: r => match runOp T n o st with
      | some st' => runOps T n r st'
      | none => none
def runPhs (T : Tab) : Nat → List Ph → St → Option St
  | 0,_,_ => none
  | n + 1,phs,st => match phs with
    | [] => some st
    | .one _ o :: r => match runOp T n o st with
      | some st' => runPhs T n r st'
      | none => none
    | .bagS ss _ es ops :: r => match runBag T n true ss (bagDs ops) es ops (st.hush.calm ss) with
      | some st' => runPhs T n r st'
      | none => none
    | .bag hu _ es ops :: r => match runBag T n hu [] (bagDs ops) es ops (if hu then st.hush else st) with
      | some st' => runPhs T n r st'
      | none => none
    | .pair _ o _ o' :: r => if pairOk st o o' then match runOp T n o st with
        | some st1 => match runOp T n o' st1 with
          | some st2 => runPhs T n r st2
          | none => none
        | none => none
      else none
def runBag (T : Tab) : Nat → Bool → List Nat → List Nat → List Nat → List (Nat × AO) → St → Option St
  | 0,_,_,_,_,_,_ => none
  | n + 1,hu,ss,ds,es,ops,st => match ops with
    | [] => some st
    | (_,o) :: r => if quietO T hu ds es st o || storeQ ss es st o then match runOp T n o st with
        | some st' => if (hu && o.loose st') || !o.stillO ss st' then none else runBag T n hu ss ds es r st'
        | none => none
      else none
def runOp (T : Tab) : Nat → AO → St → Option St
  | 0,_,_ => none
  | n + 1,o,st => match wanted st o.guard with
    | none => none
    | some false => match o.dst with
      | some d => some (st.put d .skp)
      | none => some st
    | some true => match stepC T n o.dst o.op st with
      | some (v,st') => match o.dst with
        | some d => some (st'.put d v)
        | none => some st'
      | none => none
def stepC (T : Tab) : Nat → Option Nat → AOp → St → Option (TV × St)
  | 0,_,_,_ => none
  | n + 1,dst,op,st => match op with
    | .call s f xs => match (st.opd f).fn with
      | some (f,first,cs,t0) =>
        match args st ((T.modes f).drop first.length) xs with
        | some (l,t,_,st') => if hasIo l then none else
          match callF T n f (first.map .val ++ l ++ cs.map .val) with
          | some r => if (t0 || t) && (hasMv l || !allScalar r.res) then none else some (resTV s r.res,if hasMv l then st'.hush else st')
          | none => none
        | none => none
      | none => none
    | .callM s f xs => match (st.opd f).fn with
      | some (f,first,cs,t0) =>
        match args st ((T.modes f).drop first.length) xs with
        | some (l,t,ks,st') => if t0 || t then none else
          match callF T n f (first.map .val ++ l ++ cs.map .val) with
          | some r => match ks,r.outs with
            | [],[] => some (resTV s r.res,st'.hush)
            | [k],[out] => some (resTV s r.res,(st'.back k out).hush)
            | _,_ => none
          | none => none
        | none => none
      | none => none
    | op => stepOp dst op st
end
end Hm
/- More fuel, the same answer. Conditions: none (plain lemmas). -/
namespace Hm
structure Mono (T : Tab) (n : Nat) : Prop where
  call : ∀ f as r,callF T n f as = some r → callF T (n + 1) f as = some r
  exec : ∀ c st r,exec T n c st = some r → exec T (n + 1) c st = some r
  ops : ∀ os st r,runOps T n os st = some r → runOps T (n + 1) os st = some r
  phs : ∀ ps st r,runPhs T n ps st = some r → runPhs T (n + 1) ps st = some r
  bag : ∀ hu ss ds es os st r,runBag T n hu ss ds es os st = some r → runBag T (n + 1) hu ss ds es os st = some r
  op : ∀ o st r,runOp T n o st = some r → runOp T (n + 1) o st = some r
  step : ∀ dst o st r,stepC T n dst o st = some r → stepC T (n + 1) dst o st = some r
theorem mono (T : Tab) : ∀ n,Mono T n
  | 0 => by constructor <;> intros <;> simp_all [callF,Hm.exec,runOps,runPhs,runBag,runOp,stepC]
  | n + 1 => by
    have ih := mono T n
    constructor
    · intro f as r h
      rw [callF] at h ⊢
      split at h
      · exact h
      · split at h
        · cases h
        · rename_i fn _
          split at h
          · cases h
          · rename_i hl
            rw [if_neg hl]
            split at h
            · rename_i st he; rw [ih.exec _ _ _ he]; exact h
            · rename_i st he; rw [ih.exec _ _ _ he]; exact h
            · cases h
    · intro c st r h
      cases c with
      | reg os K =>
        rw [Hm.exec] at h ⊢
        split at h
        · rename_i st' he; rw [ih.ops _ _ _ he]; exact h
        · cases h
      | dreg ps K =>
        rw [Hm.exec] at h ⊢
        split at h
        · rename_i st' he; rw [ih.phs _ _ _ he]; exact h
        · cases h
      | seq a b =>
        rw [Hm.exec] at h ⊢
        split at h
        · rename_i st' he; rw [ih.exec _ _ _ he]; exact ih.exec _ _ _ h
        · rename_i hne
          rw [ih.exec _ _ _ h]
          split
          · rename_i st' he; simp only [Option.some.injEq] at he; subst he; exact absurd h (hne _)
          · rfl
      | cond x a b =>
        rw [Hm.exec] at h ⊢
        split at h
        · exact ih.exec _ _ _ h
        · cases h
      | block id b =>
        rw [Hm.exec] at h ⊢
        split at h
        · rename_i j st' he; rw [ih.exec _ _ _ he]; exact h
        · rename_i hne
          rw [ih.exec _ _ _ h]
          split
          · rename_i j st' he; simp only [Option.some.injEq] at he; subst he; exact absurd h (hne _ _)
          · rfl
      | loop K b =>
        rw [Hm.exec] at h ⊢
        split at h
        · rename_i st' he; rw [ih.exec _ _ _ he]; exact ih.exec _ _ _ h
        · rename_i hne
          rw [ih.exec _ _ _ h]
          split
          · rename_i st' he; simp only [Option.some.injEq] at he; subst he; exact absurd h (hne _)
          · rfl
      | _ => simp only [Hm.exec] at h ⊢ <;> exact h
    · intro os st r h
      cases os with
      | nil => rw [runOps] at h ⊢; exact h
      | cons o os =>
        rw [runOps] at h ⊢
        split at h
        · rename_i st' he; rw [ih.op _ _ _ he]; exact ih.ops _ _ _ h
        · cases h
    · intro ps st r h
      cases ps with
      | nil => rw [runPhs] at h ⊢; exact h
      | cons p ps =>
        cases p with
        | one i o =>
          rw [runPhs] at h ⊢
          split at h
          · rename_i st' he; rw [ih.op _ _ _ he]; exact ih.phs _ _ _ h
          · cases h
        | pair i o j o' =>
          rw [runPhs] at h ⊢
          split at h
          · rename_i hq
            rw [if_pos hq]
            split at h
            · rename_i st1 he
              rw [ih.op _ _ _ he]
              split at h
              · rename_i st2 he2
                rw [ih.op _ _ _ he2]
                exact ih.phs _ _ _ h
              · cases h
            · cases h
          · cases h
        | bag hu hs es os =>
          rw [runPhs] at h ⊢
          split at h
          · rename_i st' he; rw [ih.bag _ _ _ _ _ _ _ he]; exact ih.phs _ _ _ h
          · cases h
        | bagS ss hs es os =>
          rw [runPhs] at h ⊢
          split at h
          · rename_i st' he; rw [ih.bag _ _ _ _ _ _ _ he]; exact ih.phs _ _ _ h
          · cases h
    · intro hu ss ds es os st r h
      cases os with
      | nil => rw [runBag] at h ⊢; exact h
      | cons o os =>
        obtain ⟨i,o⟩ := o
        rw [runBag] at h ⊢
        split at h
        · rename_i hq
          rw [if_pos hq]
          split at h
          · rename_i st' he
            rw [ih.op _ _ _ he]
            simp only
            split at h
            · cases h
            · rename_i hb
              rw [if_neg hb]
              exact ih.bag _ _ _ _ _ _ _ h
          · cases h
        · cases h
    · intro o st r h
      rw [runOp] at h ⊢
      split at h
      · cases h
      · exact h
      · split at h
        · rename_i he; rw [ih.step _ _ _ _ he]; exact h
        · cases h
    · intro dst o st r h
      cases o with
      | call s f xs =>
        rw [stepC] at h ⊢
        split at h
        · split at h
          · split at h
            · cases h
            · rename_i hio
              rw [if_neg hio]
              split at h
              · rename_i he; rw [ih.call _ _ _ he]; exact h
              · cases h
          · cases h
        · cases h
      | callM s f xs =>
        rw [stepC] at h ⊢
        split at h
        · split at h
          · split at h
            · cases h
            · rename_i hio
              rw [if_neg hio]
              split at h
              · rename_i he; rw [ih.call _ _ _ he]; exact h
              · cases h
          · cases h
        · cases h
      | _ => simp only [stepC] at h ⊢ <;> exact h
theorem callF_le {T : Tab} {n m f : Nat} {as : List Arg} {r : CR} (h : callF T n f as = some r) (hm : n ≤ m) : callF T m f as = some r := by
  induction hm with
  | refl => exact h
  | step _ ih => exact (mono T _).call _ _ _ ih
theorem exec_le {T : Tab} {n m : Nat} {c : AC} {st : St} {r : Ex × St} (h : exec T n c st = some r) (hm : n ≤ m) : exec T m c st = some r := by
  induction hm with
  | refl => exact h
  | step _ ih => exact (mono T _).exec _ _ _ ih
theorem runOps_le {T : Tab} {n m : Nat} {c : List AO} {st r : St} (h : runOps T n c st = some r) (hm : n ≤ m) : runOps T m c st = some r := by
  induction hm with
  | refl => exact h
  | step _ ih => exact (mono T _).ops _ _ _ ih
theorem runPhs_le {T : Tab} {n m : Nat} {c : List Ph} {st r : St} (h : runPhs T n c st = some r) (hm : n ≤ m) : runPhs T m c st = some r := by
  induction hm with
  | refl => exact h
  | step _ ih => exact (mono T _).phs _ _ _ ih
theorem runBag_le {T : Tab} {n m : Nat} {hu : Bool} {ss ds es : List Nat} {c : List (Nat × AO)} {st r : St} (h : runBag T n hu ss ds es c st = some r) (hm : n ≤ m) : runBag T m hu ss ds es c st = some r := by
  induction hm with
  | refl => exact h
  | step _ ih => exact (mono T _).bag _ _ _ _ _ _ _ ih
theorem runOp_le {T : Tab} {n m : Nat} {c : AO} {st r : St} (h : runOp T n c st = some r) (hm : n ≤ m) : runOp T m c st = some r := by
  induction hm with
  | refl => exact h
  | step _ ih => exact (mono T _).op _ _ _ ih
end Hm
/- Rules for what the abstract machine answers. Conditions: none (plain lemmas). -/
namespace Hm
open Go (IntKind)
structure Ret (T : Tab) (f : Nat) (as : List Arg) (r : CR) : Prop where
  mk0 ::
  out : ∃ n,callF T n f as = some r
structure W (T : Tab) (c : AC) (st : St) (Q : Ex → St → Prop) : Prop where
  mk0 ::
  out : ∃ n e st',exec T n c st = some (e,st') ∧ Q e st'
structure WO (T : Tab) (os : List AO) (st : St) (K : St → Prop) : Prop where
  mk0 ::
  out : ∃ n st',runOps T n os st = some st' ∧ K st'
structure WP (T : Tab) (ps : List Ph) (st : St) (K : St → Prop) : Prop where
  mk0 ::
  out : ∃ n st',runPhs T n ps st = some st' ∧ K st'
structure WB (T : Tab) (hu : Bool) (ds es : List Nat) (os : List (Nat × AO)) (st : St) (K : St → Prop) : Prop where
  mk0 ::
  out : ∃ n st',runBag T n hu [] ds es os st = some st' ∧ K st'
structure W1 (T : Tab) (o : AO) (st : St) (K : St → Prop) : Prop where
  mk0 ::
  out : ∃ n st',runOp T n o st = some st' ∧ K st'
structure WS (T : Tab) (dst : Option Nat) (op : AOp) (st : St) (K : TV → St → Prop) : Prop where
  mk0 ::
  out : ∃ n v st',stepC T n dst op st = some (v,st') ∧ K v st'
def Qseq (T : Tab) (b : AC) (Q : Ex → St → Prop) : Ex → St → Prop
  | .norm,st => W T b st Q
  | e,st => Q e st
def Qblk (id : Nat) (Q : Ex → St → Prop) : Ex → St → Prop
  | .exit j,st => if j = id then Q .norm st else Q (.exit j) st
  | e,st => Q e st
section
variable {T : Tab} {st st' : St} {Q : Ex → St → Prop} {K : St → Prop}
theorem W.skip (h : Q .norm st) : W T .skip st Q := ⟨1,.norm,st,rfl,h⟩
theorem W.ret (h : Q .ret st) : W T .ret st Q := ⟨1,.ret,st,rfl,h⟩
theorem W.exit {id : Nat} (h : Q (.exit id) st) : W T (.exit id) st Q := ⟨1,.exit id,st,rfl,h⟩
theorem W.reg {os : List AO} {ks : List Nat} (h : WO T os st fun st' => Q .norm (st'.keep ks)) : W T (.reg os ks) st Q := by
  obtain ⟨n,st',h1,h2⟩ := h
  exact ⟨n + 1,.norm,_,by rw [exec,h1],h2⟩
theorem W.dreg {ps : List Ph} {ks : List Nat} (h : WP T ps st fun st' => Q .norm (st'.keep ks)) : W T (.dreg ps ks) st Q := by
  obtain ⟨n,st',h1,h2⟩ := h
  exact ⟨n + 1,.norm,_,by rw [exec,h1],h2⟩
theorem W.seq {a b : AC} (h : W T a st (Qseq T b Q)) : W T (.seq a b) st Q := by
  obtain ⟨n,e,st1,h1,h2⟩ := h
  cases e with
  | norm =>
    obtain ⟨m,e,st2,h3,h4⟩ := h2
    exact ⟨max n m + 1,e,st2,by rw [exec,exec_le h1 (Nat.le_max_left n m)]; exact exec_le h3 (Nat.le_max_right n m),h4⟩
  | exit id => exact ⟨n + 1,.exit id,st1,by rw [exec,h1],h2⟩
  | ret => exact ⟨n + 1,.ret,st1,by rw [exec,h1],h2⟩
theorem W.cond {x : Opd} {a b : AC} {t : Bool} (hx : st.opd x = .av (.bool t)) (h1 : t = true → W T a st Q) (h2 : t = false → W T b st Q) : W T (.cond x a b) st Q := by
  cases t with
  | true =>
    obtain ⟨n,e,st1,h3,h4⟩ := h1 rfl
    exact ⟨n + 1,e,st1,by rw [exec,hx]; exact h3,h4⟩
  | false =>
    obtain ⟨n,e,st1,h3,h4⟩ := h2 rfl
    exact ⟨n + 1,e,st1,by rw [exec,hx]; exact h3,h4⟩
theorem W.block {id : Nat} {a : AC} (h : W T a st (Qblk id Q)) : W T (.block id a) st Q := by
  obtain ⟨n,e,st1,h1,h2⟩ := h
  cases e with
  | norm => exact ⟨n + 1,.norm,st1,by rw [exec,h1],h2⟩
  | ret => exact ⟨n + 1,.ret,st1,by rw [exec,h1],h2⟩
  | exit j =>
    simp only [Qblk] at h2
    by_cases hj : j = id
    · rw [if_pos hj] at h2
      exact ⟨n + 1,.norm,st1,by rw [exec,h1]; simp only [if_pos hj],h2⟩
    · rw [if_neg hj] at h2
      exact ⟨n + 1,.exit j,st1,by rw [exec,h1]; simp only [if_neg hj],h2⟩
theorem W.loop {ks : List Nat} {a : AC} (h : W T a (st.keep ks) (Qseq T (.loop ks a) Q)) : W T (.loop ks a) st Q := by
  obtain ⟨n,e,st1,h1,h2⟩ := h
  cases e with
  | norm =>
    obtain ⟨m,e,st2,h3,h4⟩ := h2
    exact ⟨max n m + 1,e,st2,by rw [exec,exec_le h1 (Nat.le_max_left n m)]; exact exec_le h3 (Nat.le_max_right n m),h4⟩
  | exit id => exact ⟨n + 1,.exit id,st1,by rw [exec,h1],h2⟩
  | ret => exact ⟨n + 1,.ret,st1,by rw [exec,h1],h2⟩
theorem W.mono {c : AC} {Q' : Ex → St → Prop} (h : W T c st Q) (hq : ∀ e st,Q e st → Q' e st) : W T c st Q' := by
  obtain ⟨n,e,st1,h1,h2⟩ := h
  exact ⟨n,e,st1,h1,hq _ _ h2⟩
theorem WO.nil (h : K st) : WO T [] st K := ⟨1,st,rfl,h⟩
theorem WO.cons {o : AO} {r : List AO} (h : W1 T o st fun st' => WO T r st' K) : WO T (o :: r) st K := by
  obtain ⟨n,st1,h1,m,st2,h2,h3⟩ := h
  exact ⟨max n m + 1,st2,by rw [runOps,runOp_le h1 (Nat.le_max_left n m)]; exact runOps_le h2 (Nat.le_max_right n m),h3⟩
theorem WP.nil (h : K st) : WP T [] st K := ⟨1,st,rfl,h⟩
theorem WP.one {i : Nat} {o : AO} {r : List Ph} (h : W1 T o st fun st' => WP T r st' K) : WP T (.one i o :: r) st K := by
  obtain ⟨n,st1,h1,m,st2,h2,h3⟩ := h
  exact ⟨max n m + 1,st2,by rw [runPhs,runOp_le h1 (Nat.le_max_left n m)]; exact runPhs_le h2 (Nat.le_max_right n m),h3⟩
theorem WP.pair {i j : Nat} {o o' : AO} {r : List Ph} (hp : pairOk st o o' = true) (h : W1 T o st fun st1 => W1 T o' st1 fun st' => WP T r st' K) : WP T (.pair i o j o' :: r) st K := by
  obtain ⟨n,st1,h1,m,st2,h2,k,st3,h3,h4⟩ := h
  refine ⟨max n (max m k) + 1,st3,?_,h4⟩
  rw [runPhs]
  simp only [hp,if_true]
  rw [runOp_le h1 (Nat.le_max_left n _)]
  simp only
  rw [runOp_le h2 (Nat.le_trans (Nat.le_max_left m k) (Nat.le_max_right n _))]
  exact runPhs_le h3 (Nat.le_trans (Nat.le_max_right m k) (Nat.le_max_right n _))
theorem WP.bag {hs es : List Nat} {os : List (Nat × AO)} {r : List Ph} {ds : List Nat} (hd : bagDs os = ds) (h : WB T false ds es os st fun st' => WP T r st' K) : WP T (.bag false hs es os :: r) st K := by
  subst hd
  obtain ⟨n,st1,h1,m,st2,h2,h3⟩ := h
  exact ⟨max n m + 1,st2,by rw [runPhs]; simp only [Bool.false_eq_true,if_false]; rw [runBag_le h1 (Nat.le_max_left n m)]; exact runPhs_le h2 (Nat.le_max_right n m),h3⟩
theorem stillO_nil (o : AO) (st : St) : o.stillO [] st = true := by
  unfold AO.stillO; split <;> rfl
structure WBS (T : Tab) (ss ds es : List Nat) (os : List (Nat × AO)) (st : St) (K : St → Prop) : Prop where
  mk0 ::
  out : ∃ n st',runBag T n true ss ds es os st = some st' ∧ K st'
theorem WP.bagS {ss hs es : List Nat} {os : List (Nat × AO)} {r : List Ph} {ds : List Nat} (hd : bagDs os = ds) (h : WBS T ss ds es os (st.hush.calm ss) fun st' => WP T r st' K) : WP T (.bagS ss hs es os :: r) st K := by
  subst hd
  obtain ⟨n,st1,h1,m,st2,h2,h3⟩ := h
  exact ⟨max n m + 1,st2,by rw [runPhs]; rw [runBag_le h1 (Nat.le_max_left n m)]; exact runPhs_le h2 (Nat.le_max_right n m),h3⟩
structure WQ (T : Tab) (hu : Bool) (ds es : List Nat) (o : AO) (st : St) (K : St → Prop) : Prop where
  mk0 ::
  qt : quietO T hu ds es st o = true
  rn : W1 T o st K
theorem WB.nil {hu : Bool} {ds es : List Nat} (h : K st) : WB T hu ds es [] st K := ⟨1,st,rfl,h⟩
theorem WB.cons {ds es : List Nat} {i : Nat} {o : AO} {r : List (Nat × AO)} (h : WQ T false ds es o st fun st' => WB T false ds es r st' K) : WB T false ds es ((i,o) :: r) st K := by
  obtain ⟨hq,n,st1,h1,m,st2,h2,h3⟩ := h
  exact ⟨max n m + 1,st2,by rw [runBag,if_pos (by rw [hq]; rfl),runOp_le h1 (Nat.le_max_left n m)]; simp only [Bool.false_and,stillO_nil,Bool.not_true,Bool.or_self,Bool.false_eq_true,if_false]; exact runBag_le h2 (Nat.le_max_right n m),h3⟩
theorem WBS.nil {ss ds es : List Nat} (h : K st) : WBS T ss ds es [] st K := ⟨1,st,rfl,h⟩
theorem WBS.cons {ss ds es : List Nat} {i : Nat} {o : AO} {r : List (Nat × AO)} (h : WQ T true ds es o st fun st' => o.loose st' = false ∧ o.stillO ss st' = true ∧ WBS T ss ds es r st' K) : WBS T ss ds es ((i,o) :: r) st K := by
  obtain ⟨hq,n,st1,h1,hl,hs,m,st2,h2,h3⟩ := h
  exact ⟨max n m + 1,st2,by rw [runBag,if_pos (by rw [hq]; rfl),runOp_le h1 (Nat.le_max_left n m)]; simp only [hl,hs,Bool.and_false,Bool.not_true,Bool.or_self,Bool.false_eq_true,if_false]; exact runBag_le h2 (Nat.le_max_right n m),h3⟩
theorem WBS.store {ss ds es : List Nat} {i : Nat} {o : AO} {r : List (Nat × AO)} (hq : storeQ ss es st o = true) (h : W1 T o st fun st' => WBS T ss ds es r st' K) : WBS T ss ds es ((i,o) :: r) st K := by
  have hd : o.dst = none := by
    unfold storeQ at hq
    split at hq
    · assumption
    · cases hq
  obtain ⟨n,st1,h1,m,st2,h2,h3⟩ := h
  exact ⟨max n m + 1,st2,by rw [runBag,if_pos (by rw [hq,Bool.or_true]),runOp_le h1 (Nat.le_max_left n m)]; simp only [AO.loose,AO.stillO,hd,Bool.and_false,Bool.not_true,Bool.or_self,Bool.false_eq_true,if_false]; exact runBag_le h2 (Nat.le_max_right n m),h3⟩
def putD (dst : Option Nat) (v : TV) (st : St) : St :=
  match dst with
  | some d => st.put d v
  | none => st
theorem W1.go {dst : Option Nat} {op : AOp} {g : Option (Nat × Bool)} (hg : wanted st g = some true) (h : WS T dst op st fun v st' => K (putD dst v st')) : W1 T ⟨dst,op,g⟩ st K := by
  obtain ⟨n,v,st1,h1,h2⟩ := h
  refine ⟨n + 1,_,?_,h2⟩
  simp only [runOp,hg,h1]
  cases dst <;> rfl
theorem W1.no {dst : Option Nat} {op : AOp} {g : Option (Nat × Bool)} (hg : wanted st g = some false) (h : K (putD dst .skp st)) : W1 T ⟨dst,op,g⟩ st K := by
  refine ⟨1,_,?_,h⟩
  simp only [runOp,hg]
  cases dst <;> rfl
theorem W1.bothT {dst : Option Nat} {op : AOp} {t : Nat} {c : Bool} (hg : getE st.env t = .av (.bool c)) (h1 : c = true → W1 T ⟨dst,op,none⟩ st K) (h2 : c = false → K (putD dst .skp st)) : W1 T ⟨dst,op,some (t,true)⟩ st K := by
  cases c with
  | true =>
    obtain ⟨n,st1,e1,e2⟩ := h1 rfl
    refine ⟨n,st1,?_,e2⟩
    cases n with
    | zero => simp [runOp] at e1
    | succ n =>
      simp only [runOp,wanted] at e1
      simp only [runOp,wanted,hg,beq_self_eq_true]
      exact e1
  | false => exact W1.no (by simp only [wanted,hg]; rfl) (h2 rfl)
theorem W1.bothF {dst : Option Nat} {op : AOp} {t : Nat} {c : Bool} (hg : getE st.env t = .av (.bool c)) (h1 : c = false → W1 T ⟨dst,op,none⟩ st K) (h2 : c = true → K (putD dst .skp st)) : W1 T ⟨dst,op,some (t,false)⟩ st K := by
  cases c with
  | false =>
    obtain ⟨n,st1,e1,e2⟩ := h1 rfl
    refine ⟨n,st1,?_,e2⟩
    cases n with
    | zero => simp [runOp] at e1
    | succ n =>
      simp only [runOp,wanted] at e1
      simp only [runOp,wanted,hg,beq_self_eq_true]
      exact e1
  | true => exact W1.no (by simp only [wanted,hg]; rfl) (h2 rfl)
theorem WQ.go {hu : Bool} {ds es : List Nat} {dst : Option Nat} {op : AOp} {g : Option (Nat × Bool)} (hg : wanted st g = some true) (hq : quiet T hu ds es st op = true) (h : W1 T ⟨dst,op,none⟩ st K) : WQ T hu ds es ⟨dst,op,g⟩ st K := by
  refine ⟨by simp only [quietO,hg,hq],?_⟩
  obtain ⟨n,st1,e1,e2⟩ := h
  refine ⟨n,st1,?_,e2⟩
  cases n with
  | zero => simp [runOp] at e1
  | succ n =>
    simp only [runOp,wanted] at e1
    simp only [runOp,hg]
    exact e1
theorem WQ.call {hu : Bool} {ds es : List Nat} {dst : Option Nat} {s : Seal} {f : Opd} {xs : List Opd} {gd : Option (Nat × Bool)} {g : Nat} {x : List AV × List AV × Bool} {ms : List PMode} (hg : wanted st gd = some true) (hf : (st.opd f).fn = some (g,x)) (hm : T.modes g = ms)
    (hv : ms.all PMode.isVal = true) (he : (xs.all fun x => eatOk es st x) = true) (h : W1 T ⟨dst,.call s f xs,none⟩ st K) : WQ T hu ds es ⟨dst,.call s f xs,gd⟩ st K := by
  refine WQ.go hg ?_ h
  obtain ⟨a,b,c⟩ := x
  subst hm
  simp only [quiet,hf,hv,he,Bool.and_self]
theorem WQ.no {hu : Bool} {ds es : List Nat} {dst : Option Nat} {op : AOp} {g : Option (Nat × Bool)} (hg : wanted st g = some false) (h : K (putD dst .skp st)) : WQ T hu ds es ⟨dst,op,g⟩ st K :=
  ⟨by simp only [quietO,hg],W1.no hg h⟩
theorem WQ.bothT {hu : Bool} {ds es : List Nat} {dst : Option Nat} {op : AOp} {t : Nat} {c : Bool} (hg : getE st.env t = .av (.bool c)) (h1 : c = true → WQ T hu ds es ⟨dst,op,none⟩ st K) (h2 : c = false → K (putD dst .skp st)) : WQ T hu ds es ⟨dst,op,some (t,true)⟩ st K := by
  cases c with
  | true =>
    obtain ⟨hq,h⟩ := h1 rfl
    exact WQ.go (by simp only [wanted,hg]; rfl) (by simpa only [quietO,wanted] using hq) h
  | false => exact WQ.no (by simp only [wanted,hg]; rfl) (h2 rfl)
theorem WQ.bothF {hu : Bool} {ds es : List Nat} {dst : Option Nat} {op : AOp} {t : Nat} {c : Bool} (hg : getE st.env t = .av (.bool c)) (h1 : c = false → WQ T hu ds es ⟨dst,op,none⟩ st K) (h2 : c = true → K (putD dst .skp st)) : WQ T hu ds es ⟨dst,op,some (t,false)⟩ st K := by
  cases c with
  | false =>
    obtain ⟨hq,h⟩ := h1 rfl
    exact WQ.go (by simp only [wanted,hg]; rfl) (by simpa only [quietO,wanted] using hq) h
  | true => exact WQ.no (by simp only [wanted,hg]; rfl) (h2 rfl)
def AOp.plain : AOp → Bool
  | .call _ _ _ | .callM _ _ _ | .fail => false
  | _ => true
theorem WS.op {dst : Option Nat} {op : AOp} {K : TV → St → Prop} {v : TV} (hp : op.plain = true) (h : stepOp dst op st = some (v,st')) (hk : K v st') : WS T dst op st K := by
  refine ⟨1,v,st',?_,hk⟩
  cases op <;> first | (simp only [stepC]; exact h) | (simp [AOp.plain] at hp)
theorem WS.call {dst : Option Nat} {K : TV → St → Prop} {s : Seal} {f : Opd} {xs : List Opd} {g : Nat} {first cs : List AV} {t0 t : Bool} {ms : List PMode} {l : List Arg} {ks : List Nat} {r : CR}
    (hf : (st.opd f).fn = some (g,first,cs,t0)) (hm : T.modes g = ms) (ha : args st (ms.drop first.length) xs = some (l,t,ks,st')) (hio : hasIo l = false)
    (hr : Ret T g (first.map .val ++ l ++ cs.map .val) r) (ht : ((t0 || t) && (hasMv l || !allScalar r.res)) = false) (hk : K (resTV s r.res) (if hasMv l then st'.hush else st')) : WS T dst (.call s f xs) st K := by
  obtain ⟨n,hn⟩ := hr
  subst hm
  refine ⟨n + 1,_,_,?_,hk⟩
  simp only [stepC,hf,ha,hio,hn,ht,Bool.false_eq_true,if_false]
theorem WS.callV {dst : Option Nat} {K : TV → St → Prop} {s : Seal} {f : Opd} {xs : List Opd} {g : Nat} {first cs : List AV} {t0 t : Bool} {ms : List PMode} {l : List Arg} {ks : List Nat} {r : CR}
    (hf : (st.opd f).fn = some (g,first,cs,t0)) (hm : T.modes g = ms) (ha : args st (ms.drop first.length) xs = some (l,t,ks,st')) (hio : hasIo l = false) (hmv : hasMv l = false)
    (hr : Ret T g (first.map .val ++ l ++ cs.map .val) r) (ht : ((t0 || t) && !allScalar r.res) = false) (hk : K (resTV s r.res) st') : WS T dst (.call s f xs) st K :=
  WS.call hf hm ha hio hr (by rw [hmv,Bool.false_or]; exact ht) (by rw [hmv]; exact hk)
structure Fn (T : Tab) (f : Nat) (fn : AFun) : Prop where
  prim : T.prim f = none
  code : T.fn f = some fn
  modes : T.modes f = fn.params
def Qend (fn : AFun) (as : List Arg) (r : CR) : Ex → St → Prop := fun e st => (e = .norm ∨ e = .ret) ∧ results st fn.results = some r.res ∧ outs st 0 as = some r.outs
theorem Ret.mk {f : Nat} {fn : AFun} {as : List Arg} {r : CR} (h : Fn T f fn) (hfit : fits fn.params as = true) (hw : W T fn.body ⟨lstE (entry 0 as).1,lstB (entry 0 as).2⟩ (Qend fn as r)) : Ret T f as r := by
  obtain ⟨n,e,st1,h1,he,h2,h3⟩ := hw
  refine ⟨n + 1,?_⟩
  simp only [callF,h.prim,h.code,hfit,Bool.not_true,Bool.false_eq_true,if_false,h1]
  rcases he with rfl | rfl
  · simp only [h2,h3]
  · simp only [h2,h3]
theorem Ret.prim {f : Nat} {p : List Arg → Option CR} {as : List Arg} {r : CR} (h : T.prim f = some p) (hp : p as = some r) : Ret T f as r :=
  ⟨1,by rw [callF,h]; exact hp⟩
end
end Hm
namespace Hm
/-! ### States, evaluated -/
theorem put_env (st : St) (d k : Nat) (t : TV) : getE (st.put d t).env k = if d = k then t else getE st.env k := by simp only [getE,St.put,upd,eq_comm]
theorem put_box (st : St) (d : Nat) (t : TV) : (st.put d t).boxes = st.boxes := rfl
theorem lstE_cons (j k : Nat) (v : TV) (l : List (Nat × TV)) : getE (lstE ((j,v) :: l)) k = if k = j then v else getE (lstE l) k := rfl
theorem lstE_nil (k : Nat) : getE (lstE []) k = .und := rfl
theorem lstB_cons (j k : Nat) (v : Option (List Cell)) (l : List (Nat × Option (List Cell))) : getB (lstB ((j,v) :: l)) k = if k = j then v else getB (lstB l) k := rfl
theorem lstB_nil (k : Nat) : getB (lstB []) k = none := rfl
theorem keep_eq (K : List Nat) (st : St) : st.keep K = ⟨lstE (K.map fun k => (k,(getE st.env k).kept K)),lstB (K.map fun k => (k,getB st.boxes k))⟩ := rfl
theorem kept_av (K : List Nat) (v : AV) : (TV.av v).kept K = .av v := rfl
theorem kept_own (K : List Nat) (cs : List Cell) (g : Bool) : (TV.own cs g).kept K = .own cs g := rfl
theorem kept_und (K : List Nat) : TV.und.kept K = .und := rfl
theorem kept_skp (K : List Nat) : TV.skp.kept K = .skp := rfl
theorem kept_tup (K : List Nat) (l : List (Option (List Cell × Bool))) : (TV.tup l).kept K = .tup l := rfl
theorem kept_plcB (K : List Nat) (k : Nat) (p : List (Nat × Nat)) (o : Nat) : (TV.plc ⟨.box k,p,o⟩).kept K = if K.contains k then .plc ⟨.box k,p,o⟩ else .und := rfl
theorem kept_plcS (K : List Nat) (k : Nat) (p : List (Nat × Nat)) (o : Nat) : (TV.plc ⟨.slot k,p,o⟩).kept K = if K.contains k then .plc ⟨.slot k,p,o⟩ else .und := rfl
theorem kept_aliN (K : List Nat) (v : AV) : (TV.ali v none).kept K = .ali v none := rfl
theorem kept_aliB (K : List Nat) (v : AV) (k : Nat) (p : List (Nat × Nat)) (o : Nat) : (TV.ali v (some ⟨.box k,p,o⟩)).kept K = if K.contains k then .ali v (some ⟨.box k,p,o⟩) else .und := rfl
theorem kept_aliS (K : List Nat) (v : AV) (k : Nat) (p : List (Nat × Nat)) (o : Nat) : (TV.ali v (some ⟨.slot k,p,o⟩)).kept K = if K.contains k then .ali v (some ⟨.slot k,p,o⟩) else .und := rfl
end Hm
/- What library functions answer that are not run as code. Conditions: none (definitions). -/
namespace Hm
def pClone (k : Nat) : List Arg → Option CR
  | [.val (.lst k' rows)] => if k' = k ∧ rows.length ≤ limit then some ⟨[([.own k (rows.map (·.map .av))],false)],[]⟩ else none
  | _ => none
def runeLen : List UInt8 → Nat
  | [] => 0
  | a :: r =>
    let c (x : UInt8) (lo hi : UInt8) : Bool := lo ≤ x && x ≤ hi
    if a < 0x80 then 1 else
    match r with
    | [] => 0
    | b :: r =>
      if c a 0xC2 0xDF then (if c b 0x80 0xBF then 2 else 0) else
      match r with
      | [] => 0
      | d :: r =>
        if c a 0xE0 0xEF then
          (if c b (if a == 0xE0 then 0xA0 else 0x80) (if a == 0xED then 0x9F else 0xBF) && c d 0x80 0xBF then 3 else 0)
        else match r with
        | [] => 0
        | e :: _ =>
          if c a 0xF0 0xF4 then
            (if c b (if a == 0xF0 then 0x90 else 0x80) (if a == 0xF4 then 0x8F else 0xBF) && c d 0x80 0xBF && c e 0x80 0xBF then 4 else 0)
          else 0
def utf8F : Nat → List UInt8 → Bool
  | 0,_ => true
  | n + 1,s => match s with
    | [] => true
    | _ => match runeLen s with
      | 0 => false
      | k => utf8F n (s.drop k)
def utf8 (s : List UInt8) : Bool := utf8F s.length s
def digits : Nat → Nat → List UInt8
  | 0,_ => []
  | f + 1,n => if n < 10 then [UInt8.ofNat (48 + n)] else digits f (n / 10) ++ [UInt8.ofNat (48 + n % 10)]
def itoa (n : Int) : List UInt8 := if n < 0 then 45 :: digits 20 n.natAbs else digits 20 n.natAbs
def pItoa : List Arg → Option CR
  | [.val (.int .i64 n)] => if -9223372036854775808 ≤ n ∧ n ≤ 9223372036854775807 then some ⟨[([.av (.str (itoa n))],false)],[]⟩ else none
  | _ => none
def zavs (zs : List Int) : List AV := zs.map fun z => .int .u8 z
def firZ : List Int := [240] ++ List.replicate 127 240 ++ List.replicate 66 241 ++ List.replicate 30 2 ++ [19] ++ List.replicate 12 3 ++ [35,3,3,52,4,4,4,68] ++ List.replicate 11 241
def accZ : List Int := [128,191,160,191,128,159,144,191,128,143,0,0,0,0,0,0,0,0,0,0,0,0,0,0,0,0,0,0,0,0,0,0]
end Hm
