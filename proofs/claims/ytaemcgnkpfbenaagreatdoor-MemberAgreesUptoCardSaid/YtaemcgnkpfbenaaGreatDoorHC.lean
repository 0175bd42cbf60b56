/- The tie between the abstract machine and the model, second part. Conditions: none (plain lemmas). -/
import Derived.Test.YtaemcgnkpfbenaaGreatDoorHB
import Derived.Laws.MakeOwn
set_option linter.unusedVariables false
set_option linter.unusedSimpArgs false
/- Operations that hand over: places forgotten, values taken and stored. Conditions: none (plain lemmas). -/
namespace Hm
open Go
def unG (r : Root) : GT → GT
  | .ali v (some q) cv => if q.root = r then .und cv else .ali v (some q) cv
  | .plc q a => if q.root = r then .und (.pointer (some a)) else .plc q a
  | .hd q l a => if q.root = r then .und a else .hd q l a
  | t => t
theorem unG_tv (r : Root) (t : GT) : (unG r t).tv = t.tv.un r := by
  cases t with
  | ali v q cv =>
    cases q with
    | none => rfl
    | some q => by_cases h : q.root = r <;> simp [unG,GT.tv,TV.un,h]
  | plc q a => by_cases h : q.root = r <;> simp [unG,GT.tv,TV.un,h]
  | hd q l a => by_cases h : q.root = r <;> simp [unG,GT.tv,TV.un,h]
  | _ => rfl
theorem unG_val (r : Root) (t : GT) : (unG r t).val = t.val := by
  cases t with
  | ali v q cv =>
    cases q with
    | none => rfl
    | some q => simp only [unG]; split <;> rfl
  | plc q a => simp only [unG]; split <;> rfl
  | hd q l a => simp only [unG]; split <;> rfl
  | _ => rfl
theorem unG_blocks (r : Root) (t : GT) : (unG r t).blocks = t.blocks := by
  cases t with
  | ali v q cv =>
    cases q with
    | none => rfl
    | some q => simp only [unG]; split <;> rfl
  | plc q a => simp only [unG]; split <;> rfl
  | hd q l a => simp only [unG]; split <;> rfl
  | _ => rfl
theorem unG_place (r : Root) (t : GT) (q : Place) (h : (unG r t).place? = some q) : unG r t = t ∧ q.root ≠ r := by
  cases t with
  | ali v q' cv =>
    cases q' with
    | none => simp [unG,GT.place?] at h
    | some q' =>
      simp only [unG] at h ⊢
      split at h
      · simp [GT.place?] at h
      · rename_i hne
        simp only [GT.place?,Option.some.injEq] at h
        subst h
        exact ⟨by rw [if_neg hne],hne⟩
  | plc q' a =>
    simp only [unG] at h ⊢
    split at h
    · simp [GT.place?] at h
    · rename_i hne
      simp only [GT.place?,Option.some.injEq] at h
      subst h
      exact ⟨by rw [if_neg hne],hne⟩
  | hd q' l a =>
    simp only [unG] at h ⊢
    split at h
    · simp [GT.place?] at h
    · rename_i hne
      simp only [GT.place?,Option.some.injEq] at h
      subst h
      exact ⟨by rw [if_neg hne],hne⟩
  | _ => simp [unG,GT.place?] at h
theorem unG_own (r : Root) (t : GT) : (match unG r t with | .own gs _ => some ((none : Option Nat),gs) | _ => none) = (match t with | .own gs _ => some ((none : Option Nat),gs) | _ => none) := by
  cases t with
  | ali v q cv =>
    cases q with
    | none => rfl
    | some q => by_cases h : q.root = r <;> simp [unG,h]
  | plc q a => by_cases h : q.root = r <;> simp [unG,h]
  | hd q l a => by_cases h : q.root = r <;> simp [unG,h]
  | _ => rfl
def GS.un (s : GS) (r : Root) : GS := ⟨fun k => unG r (s.γ k),s.β⟩
theorem GS.un_root (s : GS) (r q : Root) : (s.un r).root q = s.root q := by
  cases q with
  | box k => rfl
  | slot k => exact unG_own r (s.γ k)
theorem GS.un_loc (s : GS) (r : Root) (p : Place) : (s.un r).loc p = s.loc p := by simp only [GS.loc,s.un_root]
theorem GS.un_fp (s : GS) (r q : Root) : (s.un r).fp q = s.fp q := by
  cases q with
  | box k => rfl
  | slot k => exact unG_blocks r (s.γ k)
section
variable {P : Program} {N : Nm} {F : Fx} {S : Nat → Prop} {s : GS} {st st' : St} {a : Act} {w w' : World} {dst : Option Nat} {o : Oper} {tv : TV}
theorem Inv.un (I : Inv N F S s w) (r : Root) : Inv N F S (s.un r) w where
  slot k := by
    show (unG r (s.γ k)).ok N w S (s.un r)
    have h := I.slot k
    have h2 : (unG r (s.γ k)).ok N w S s := by
      generalize s.γ k = t at h
      cases t with
      | ali v q cv =>
        cases q with
        | none => exact h
        | some q => by_cases e : q.root = r
                    · simp only [unG,if_pos e]; trivial
                    · simp only [unG,if_neg e]; exact h
      | plc q ad => by_cases e : q.root = r
                    · simp only [unG,if_pos e]; trivial
                    · simp only [unG,if_neg e]; exact h
      | hd q l ad =>
        by_cases e : q.root = r
        · simp only [unG,if_pos e]; trivial
        · simp only [unG,if_neg e]; exact h
      | _ => exact h
    exact GT.ok_of_loc h2 fun p _ => s.un_loc r p
  box := I.box
  nodup q := by rw [s.un_fp]; exact I.nodup q
  apart q q' x hx hx' := by rw [s.un_fp] at hx hx'; exact I.apart q q' x hx hx'
  mine q x hx := by rw [s.un_fp] at hx; exact I.mine q x hx
  immB := I.immB
  frm := I.frm
  glob := I.glob
  rooted k p hp n hn := by
    have hp' : (unG r (s.γ k)).place? = some p := hp
    obtain ⟨e,_⟩ := unG_place r _ p hp'
    rw [e] at hp'
    exact I.rooted k p hp' n hn
theorem getE_unE (r : Root) (env : Nat → TV) (k : Nat) : getE (unE r env) k = (getE env k).un r := rfl
theorem Rel.un (R : Rel N F S s st a w) (r : Root) : Rel N F S (s.un r) ⟨unE r st.env,st.boxes⟩ a w :=
  ⟨R.inv.un r,⟨fun k => by rw [getE_unE,← R.er.env k]; exact unG_tv r _,R.er.box⟩,fun k => by rw [R.tmp k]; exact (unG_val r _).symm,R.size,R.dfr⟩
theorem GS.un_free (s : GS) (r : Root) (k : Nat) (p : Place) (h : ((s.un r).γ k).place? = some p) : p.root ≠ r := (unG_place r _ p h).2
theorem Free.un {l : List Nat} (h : Free F S s l) (r : Root) : Free F S (s.un r) l := ⟨h.nodup,fun x hx q => by rw [s.un_fp]; exact h.free x hx q,h.mine⟩
theorem Rel.env (R : Rel N F S s st a w) (st2 : St) (he : ∀ k,getE st2.env k = getE st.env k) (hb : ∀ k,getB st2.boxes k = getB st.boxes k) : Rel N F S s st2 a w :=
  ⟨R.inv,⟨fun k => by rw [he]; exact R.er.env k,fun k => by rw [hb]; exact R.er.box k⟩,R.tmp,R.size,R.dfr⟩
theorem Rel.drop' (R : Rel N F S s st a w) {n : Nat} (hn : ∀ j p,j ≠ n → (s.γ j).place? = some p → p.root ≠ .slot n) :
    Rel N F S (s.put n (.und (s.γ n).val)) (st.put n .und) a w ∧ Free F S (s.put n (.und (s.γ n).val)) (s.γ n).blocks := by
  obtain ⟨h1,h2⟩ := R.inv.drop n (s.γ n).val hn
  refine ⟨⟨h1,⟨fun k => ?_,R.er.box⟩,fun k => ?_,R.size,R.dfr⟩,h2⟩
  · rw [getE_put]
    by_cases h : k = n
    · subst h; rw [s.put_γ,if_pos rfl]; rfl
    · rw [s.put_γ_ne _ h,if_neg (fun e => h e.symm)]; exact R.er.env k
  · by_cases h : k = n
    · subst h; rw [s.put_γ]; exact R.tmp k
    · rw [s.put_γ_ne _ h]; exact R.tmp k
theorem sim_mvt {n : Nat} (R : Rel N F S s st a w) (hd : ∀ d,dst = some d → d ∉ F.roots) (hok : okOp P N F.roots (.mvt n) o = true)
    (h : stepOp dst (.mvt n) st = some (tv,st')) : PureDone P N F S st' a w dst tv (execOp a.eval o) := by
  simp only [okOp] at hok
  split at hok
  · rename_i m ho
    simp only [Bool.and_eq_true,beq_iff_eq] at hok
    obtain ⟨rfl,hroot⟩ := hok
    have hrun : ∀ w',(execOp a.eval o).run P w' = .ok (.value ((s.γ n).val)) w' := fun w' => by simp only [execOp,ho,Act.eval,R.tmp n]; rfl
    simp only [stepOp] at h
    have he := R.er.env n
    split at h
    · rename_i v hv
      simp only [Option.some.injEq,Prod.mk.injEq] at h
      obtain ⟨rfl,rfl⟩ := h
      rw [hv] at he
      obtain ⟨cv,e⟩ := GT.of_av he
      have := R.inv.slot n
      rw [e] at this
      exact R.done_av hd (cv := cv) (fun w' => by rw [hrun,e]; rfl) this
    · rename_i cs g hv
      simp only [Option.some.injEq,Prod.mk.injEq] at h
      obtain ⟨rfl,rfl⟩ := h
      rw [hv] at he
      obtain ⟨gs,e,rfl⟩ := GT.of_own he
      have hsl := R.inv.slot n
      rw [e] at hsl
      have R1 := R.un (.slot n)
      have e1 : (s.un (.slot n)).γ n = .own gs g := by show unG _ (s.γ n) = _; rw [e]; rfl
      obtain ⟨d1,d2⟩ := R1.drop' (n := n) fun j p _ hp => s.un_free _ j p hp
      rw [e1] at d1 d2
      have d1' := d1.env ⟨unE (.slot n) (st.put n .und).env,st.boxes⟩ (fun k => by
        rw [getE_unE,getE_put,getE_put,getE_unE]
        split <;> rfl) fun _ => rfl
      refine ⟨_,S,_,.own gs g,hrun,fun _ h => h,d1',⟨rfl,by rw [e],hsl,d2,by simp [GT.place?],d1.unrooted hd (by simp [GT.place?])⟩⟩
    · cases h
  · cases hok
theorem sim_asgo {x : Opd} (R : Rel N F S s st a w) (hok : okOp P N F.roots (.asgo x) o = true)
    (h : stepOp dst (.asgo x) st = some (tv,st')) : PureDone P N F S st' a w dst tv (execOp a.eval o) := by
  simp only [okOp] at hok
  split at hok
  · rename_i y ho
    have hrun : ∀ w',(execOp a.eval o).run P w' = .ok (.value (a.eval y)) w' := fun w' => by simp only [execOp,ho]; rfl
    obtain ⟨h0,hroot⟩ := okE_okO hok
    simp only [stepOp] at h
    split at h
    · cases h
    · rename_i d
      split at h
      · rename_i v hv
        simp only [Option.some.injEq,Prod.mk.injEq] at h
        obtain ⟨rfl,rfl⟩ := h
        have e1 := R.opd_av h0 hv
        refine ⟨a.eval y,S,s.un (.slot d),.av v (a.eval y),hrun,fun _ h => h,R.un (.slot d),⟨rfl,rfl,e1,by simpa [GT.blocks] using Free.nil,by simp [GT.place?],?_⟩⟩
        intro d' e; cases e
        exact ⟨fun j p _ hp => s.un_free _ j p hp,by simp [GT.place?]⟩
      · rename_i cs g hv
        simp only [Option.some.injEq,Prod.mk.injEq] at h
        obtain ⟨rfl,rfl⟩ := h
        obtain ⟨s',gs,d1,rfl,d3,d4,d5,d6⟩ := R.own hok hv
        refine ⟨a.eval y,S,s'.un (.slot d),.own gs g,hrun,fun _ h => h,d1.un (.slot d),⟨rfl,d5.symm,⟨d3,d4⟩,d6.un _,by simp [GT.place?],?_⟩⟩
        intro d' e; cases e
        exact ⟨fun j p _ hp => s'.un_free _ j p hp,by simp [GT.place?]⟩
      · cases h
  · cases hok
theorem Rel.write (R : Rel N F S s st a w) {p : Place} {new : List GC} {h : Option (Nat × Nat)} {r : List GC} (W : WriteH N F S s w w' p new h r) (hw : st.write p (cellRow new) = some st') :
    Rel N F S (s.write p new) st' a w' ∧ Free F S (s.write p new) (blocksRow ((r.drop p.off).take new.length)) := by
  obtain ⟨h1,h2,h3⟩ := R.inv.write W
  exact ⟨⟨h1,(R.er.write hw).1,fun k => by rw [h2]; exact R.tmp k,R.size,R.dfr⟩,h3⟩
theorem WriteH.dead (I : Inv N F S s w) {p : Place} {h : Option (Nat × Nat)} {r : List GC} (hl : s.loc p = some (h,r)) {n : Nat} (hn : p.off + n ≤ r.length) :
    WriteH N F S s w w p (((r.drop p.off).take n).map fun c => GC.dead c.val) h r where
  loc := hl
  fits := by simp; omega
  ok c hc := by
    simp only [List.mem_map] at hc
    obtain ⟨c',hc',rfl⟩ := hc
    exact .dead _ ((I.loc_ok hl) c' (List.mem_of_mem_drop (List.mem_of_mem_take hc'))).one
  free := by
    have : blocksRow (((r.drop p.off).take n).map fun c => GC.dead c.val) = [] := by
      rw [blocksRow_eq,List.flatMap_eq_nil_iff]
      intro x hx
      simp only [List.mem_map] at hx
      obtain ⟨c,_,rfl⟩ := hx
      rfl
    rw [this]; exact Free.nil
  other _ _ := rfl
  block b base hb := by
    subst hb
    obtain ⟨_,⟨cur,e,k2,k3,k4⟩,_⟩ := I.loc_mem hl
    refine ⟨cur,cur,e,k2,k2,rfl,fun _ _ => rfl,fun j c hj => ?_⟩
    simp only [List.getElem?_map,List.getElem?_take,List.getElem?_drop,Option.map_eq_some_iff] at hj
    obtain ⟨c',hc',rfl⟩ := hj
    split at hc'
    · rw [Nat.add_assoc]; exact k4 _ c' hc'
    · cases hc'
  vals _ := by
    have : (((r.drop p.off).take n).map fun c => GC.dead c.val).length = n := by simp; omega
    rw [this]
    simp only [List.map_map]
    rfl
  os := rfl
  tape := rfl
  output := rfl
  size := rfl
theorem deads_cells (gs : List GC) : cellRow (gs.map fun c => GC.dead c.val) = (cellRow gs).map fun _ => .dead := by
  simp [cellRow_eq,GC.cell,Function.comp_def]
theorem sim_take {n : Nat} {g : Bool} {x : Opd} (R : Rel N F S s st a w) (hd : ∀ d,dst = some d → d ∉ F.roots) (hok : okOp P N F.roots (.take n g x) o = true)
    (h : stepOp dst (.take n g x) st = some (tv,st')) : OpDone N F S st' a dst tv ((execOp a.eval o).run P w) := by
  have hok' := hok
  simp only [okOp] at hok
  split at hok
  · rename_i t y ho
    simp only [Bool.and_eq_true] at hok
    obtain ⟨ht,hx⟩ := hok
    simp only [stepOp] at h
    split at h
    · rename_i p hp
      split at h
      · rename_i cs hc
        obtain ⟨hh,r,k1,k2,k3,k4,k5⟩ := load_place R ht hx hp hc
        have hrun : (execOp a.eval o).run P w = .ok (.value (cval g ((r.drop p.off).take n))) w := by
          simp only [execOp,ho]; rw [Sem.run_bind,k5]; rfl
        have hg : g = false → ∃ c,(r.drop p.off).take n = [c] := fun hg => by
          have := tyIs_one ht hg; subst this
          exact List.length_eq_one_iff.1 (by simp; omega)
        split at h
        · rename_i vs hvs
          simp only [Option.some.injEq,Prod.mk.injEq] at h
          obtain ⟨rfl,rfl⟩ := h
          subst k3
          exact R.done_av0 hd hrun (cval_av hvs k4 hg)
        · split at h
          · rename_i st1 hw
            simp only [Option.some.injEq,Prod.mk.injEq] at h
            obtain ⟨rfl,rfl⟩ := h
            subst k3
            obtain ⟨d1,d2⟩ := R.write (WriteH.dead R.inv k1 k2) (by rw [deads_cells]; exact hw)
            have hlen : (((r.drop p.off).take n).map fun c => GC.dead c.val).length = n := by simp; omega
            rw [hlen] at d2
            exact ⟨_,w,S,_,.own ((r.drop p.off).take n) g,.inl hrun,fun _ h => h,d1,⟨rfl,rfl,⟨k4,hg⟩,d2,by simp [GT.place?],d1.unrooted hd (by simp [GT.place?])⟩⟩
          · cases h
      · cases h
    · rename_i cs hx'
      have : stepOp dst (.load n g x) st = some (tv,st') := by simp only [stepOp,hx']; exact h
      exact sim_load R hd hok' this
    · cases h
  · cases hok
theorem eat_plc {x y : Opd} {p : Place} (h : st.opd y = .plc p) : (x.eat st).opd y = .plc p := by
  cases x with
  | t n =>
    simp only [Opd.eat]
    split
    · rename_i cs g hn
      cases y with
      | t m =>
        simp only [St.opd] at h ⊢
        rw [getE_put]
        split
        · rename_i e; subst e; rw [h] at hn; cases hn
        · exact h
      | _ => exact h
    · exact h
  | _ => exact h
theorem store_place (R : Rel N F S s st a w) {t : TypeId} {new : List GC} (ht : tySize P t = some new.length) {x : Opd} {y : Operand} (hx : okO N x y = true) {p : Place}
    (hp : st.opd x = .plc p) {v : Value} (hv : v.cells.toList = new.map GC.val) (hnew : AllOk N w S new) (hfree : Free F S s (blocksRow new)) (hw : st.write p (cellRow new) = some st') :
    ∃ w',(Instr.storeAt t (a.eval y) v).run P w = .ok () w' ∧ Rel N F S (s.write p new) st' a w' := by
  obtain ⟨m,b,base,r,rfl,e1,e2,e3,e4⟩ := R.opd_plc hx hp
  obtain ⟨k1,⟨cur,e,k2,k3,k4⟩,k5⟩ := R.inv.loc_mem e2
  have hfit : p.off + new.length ≤ r.length := by
    obtain ⟨_,h',r',f1,f2⟩ := R.er.write hw
    rw [e2] at f1
    simp only [Option.some.injEq,Prod.mk.injEq] at f1
    rw [f1.2]; exact f2
  have h1 : ∀ u ∈ new.map GC.val,u.oneCell' = true := fun u hu => by
    simp only [List.mem_map] at hu
    obtain ⟨c,hc,rfl⟩ := hu
    exact (hnew c hc).one
  have hst := run_storeCells_at P b (base + p.off) e (new.map GC.val) 0 cur w k2 (by simp; omega) h1
  simp only [Nat.add_zero,List.length_map] at hst
  have hsz := run_sizeOf (P := P) ht w
  have hcsz : v.cells.size = new.length := by rw [← Array.length_toList,hv,List.length_map]
  refine ⟨_,?_,(R.write (w' := w.setRow b (cur.toList.take (base + p.off) ++ new.map GC.val ++ cur.toList.drop (base + p.off + new.length)).toArray) ⟨e2,hfit,?_,hfree,?_,?_,by simp,rfl,rfl,rfl,by simp [World.setRow]⟩ hw).1⟩
  · simp only [Instr.storeAt,e4,Instr.sureAddr,Sem.run_bind,Sem.run_pure,Result.andThen_ok,storeVar,hsz,hcsz,hv]
    simp [hst]
  · refine AllOk.keep hnew (fun x hx => setRow_other _ _ _ _ fun e' => ?_) fun x hx => setRow_other _ _ _ _ fun e' => ?_
    · subst e'; exact (R.inv.mine _ _ k5).1 hx
    · subst e'; exact hfree.free _ hx _ k5
  · intro z hz; exact setRow_other _ _ _ _ (hz b base rfl)
  · intro b' base' hb
    simp only [Option.some.injEq,Prod.mk.injEq] at hb
    obtain ⟨rfl,rfl⟩ := hb
    have hlen : (cur.toList.take (base + p.off)).length = base + p.off := by simp; omega
    refine ⟨cur,_,e,k2,setRow_heap w b cur _ e _ k2,?_,?_,?_⟩
    · simp; omega
    · intro j hj
      simp only [List.getElem?_toArray,List.append_assoc]
      rcases hj with hj | hj
      · rw [List.getElem?_append_left (by omega),List.getElem?_take,if_pos hj,Array.getElem?_toList]
      · rw [List.getElem?_append_right (by omega),List.getElem?_append_right (by simp; omega),List.getElem?_drop,Array.getElem?_toList,hlen]
        congr 1; simp; omega
    · intro j c hj
      have hjl := (List.getElem?_eq_some_iff.1 hj).1
      simp only [List.getElem?_toArray,List.append_assoc]
      rw [List.getElem?_append_right (by omega),List.getElem?_append_left (by simp; omega),hlen,show base + p.off + j - (base + p.off) = j by omega]
      simp [hj]
theorem sim_store {n : Nat} {x y : Opd} (R : Rel N F S s st a w) (hd : ∀ d,dst = some d → d ∉ F.roots) (hok : okOp P N F.roots (.store n x y) o = true)
    (h : stepOp dst (.store n x y) st = some (tv,st')) : OpDone N F S st' a dst tv ((execOp a.eval o).run P w) := by
  simp only [okOp] at hok
  split at hok
  · rename_i t y' z ho
    simp only [Bool.and_eq_true,beq_iff_eq] at hok
    obtain ⟨⟨ht,hx⟩,hz⟩ := hok
    simp only [stepOp] at h
    split at h
    · rename_i p hp
      split at h
      · rename_i cs g hg
        split at h
        · rename_i hl
          split at h
          · rename_i st1 hw
            simp only [Option.some.injEq,Prod.mk.injEq] at h
            obtain ⟨rfl,rfl⟩ := h
            obtain ⟨s',gs,d1,rfl,d3,d4,d5,d6,d7⟩ := R.give hz hg
            rw [cellRow_length] at hl
            subst hl
            obtain ⟨w',e1,e2⟩ := store_place d1 ht hx (eat_plc hp) d7 d3 d6 hw
            refine ⟨undef,w',S,_,.und undef,.inr ⟨?_,rfl⟩,fun _ h => h,e2,⟨rfl,rfl,trivial,by simpa [GT.blocks] using Free.nil,by simp [GT.place?],e2.unrooted hd (by simp [GT.place?])⟩⟩
            simp only [execOp,ho]
            rw [Sem.run_bind,e1]; rfl
          · cases h
        · cases h
      · cases h
    · cases h
  · cases hok
theorem Rel.ownR (R : Rel N F S s st a w) {n : Nat} {cs : List Cell} {g : Bool} (hv : getE st.env n = .own cs g) :
    ∃ s' gs,Rel N F S s' ⟨unE (.slot n) (st.put n .und).env,st.boxes⟩ a w ∧ cellRow gs = cs ∧ AllOk N w S gs ∧ Free F S s' (blocksRow gs) ∧ a.eval (.tmp n) = cval g gs ∧ (g = false → ∃ c,gs = [c]) := by
  have he := R.er.env n
  rw [hv] at he
  obtain ⟨gs,e,rfl⟩ := GT.of_own he
  have hsl := R.inv.slot n
  rw [e] at hsl
  have R1 := R.un (.slot n)
  have e1 : (s.un (.slot n)).γ n = .own gs g := by show unG _ (s.γ n) = _; rw [e]; rfl
  obtain ⟨d1,d2⟩ := R1.drop' (n := n) fun j p _ hp => s.un_free _ j p hp
  rw [e1] at d1 d2
  have d1' := d1.env ⟨unE (.slot n) (st.put n .und).env,st.boxes⟩ (fun k => by
    rw [getE_unE,getE_put,getE_put,getE_unE]
    split <;> rfl) fun _ => rfl
  refine ⟨_,gs,d1',rfl,hsl.1,d2,?_,hsl.2⟩
  have : a.eval (.tmp n) = (s.γ n).val := R.tmp n
  rw [this,e]; rfl
theorem opd_unR {x : Opd} {p : Place} {n : Nat} {cs : List Cell} {g : Bool} (hp : st.opd x = .plc p) (hv : getE st.env n = .own cs g) (hr : p.root ≠ .slot n) :
    (⟨unE (.slot n) (st.put n .und).env,st.boxes⟩ : St).opd x = .plc p := by
  cases x with
  | t j =>
    simp only [St.opd] at hp ⊢
    have hj : n ≠ j := fun e => by subst e; rw [hv] at hp; cases hp
    rw [getE_unE,getE_put,if_neg hj,hp]
    simp [TV.un,hr]
  | v a => simp [St.opd] at hp
  | w a b => simp [St.opd] at hp
theorem write_unR {n : Nat} {p : Place} {new : List Cell} (h : (⟨unE (.slot n) (st.put n .und).env,st.boxes⟩ : St).write p new = some st') : p.root ≠ .slot n := fun e => by
  simp only [St.write,St.root,e] at h
  rw [getE_unE,getE_put,if_pos rfl] at h
  simp [TV.un] at h
theorem sim_storeR {n m : Nat} {x : Opd} (R : Rel N F S s st a w) (hd : ∀ d,dst = some d → d ∉ F.roots) (hok : okOp P N F.roots (.storeR n x m) o = true)
    (h : stepOp dst (.storeR n x m) st = some (tv,st')) : OpDone N F S st' a dst tv ((execOp a.eval o).run P w) := by
  simp only [okOp] at hok
  split at hok
  · rename_i t y' j ho
    simp only [Bool.and_eq_true,beq_iff_eq] at hok
    obtain ⟨⟨⟨ht,hx⟩,rfl⟩,_⟩ := hok
    simp only [stepOp] at h
    split at h
    · rename_i p hp
      split at h
      · rename_i cs g hg
        split at h
        · rename_i hl
          split at h
          · rename_i st1 hw
            simp only [Option.some.injEq,Prod.mk.injEq] at h
            obtain ⟨rfl,rfl⟩ := h
            obtain ⟨s',gs,d1,rfl,d3,d4,d5,d6⟩ := R.ownR hg
            rw [cellRow_length] at hl
            subst hl
            have hv : (a.eval (.tmp m)).cells.toList = gs.map GC.val := by rw [d5]; exact cval_cells d3 d6
            obtain ⟨w',e1,e2⟩ := store_place d1 ht hx (opd_unR hp hg (write_unR hw)) hv d3 d4 hw
            refine ⟨undef,w',S,_,.und undef,.inr ⟨?_,rfl⟩,fun _ h => h,e2,⟨rfl,rfl,trivial,by simpa [GT.blocks] using Free.nil,by simp [GT.place?],e2.unrooted hd (by simp [GT.place?])⟩⟩
            simp only [execOp,ho]
            rw [Sem.run_bind,e1]; rfl
          · cases h
        · cases h
      · cases h
    · cases h
  · cases hok
end
end Hm
/- New memory. Conditions: none (plain lemmas). -/
namespace Hm
open Go
section
variable {P : Program} {N : Nm} {F : Fx} {S : Nat → Prop} {s : GS} {st st' : St} {a : Act} {w w' : World} {dst : Option Nat} {o : Oper} {tv : TV}
theorem AllOk.lt {gs : List GC} (h : AllOk N w S gs) : ∀ x ∈ blocksRow gs,x < w.heap.size := by
  intro x hx
  rw [blocksRow_eq,List.mem_flatMap] at hx
  obtain ⟨c,hc,hx⟩ := hx
  exact (h c hc).lt x hx
theorem GT.ok_lt {t : GT} (h : t.ok N w S s) : ∀ x ∈ t.blocks,x < w.heap.size := by
  intro x hx
  cases t with
  | own gs g => exact h.1.lt x hx
  | tup l vs =>
    simp only [GT.blocks] at hx
    have : ∀ (l : List (Option (List GC × Bool))),x ∈ tupBlocks l → ∃ (i : Nat) (gs : List GC) (g : Bool),l[i]? = some (some (gs,g)) ∧ x ∈ blocksRow gs := by
      intro l
      induction l with
      | nil => intro h; simp [tupBlocks] at h
      | cons y l ih =>
        intro hx
        cases y with
        | none =>
          obtain ⟨i,gs,g,h1,h2⟩ := ih (by simpa [tupBlocks] using hx)
          exact ⟨i + 1,gs,g,by simpa using h1,h2⟩
        | some y =>
          obtain ⟨gs,g⟩ := y
          simp only [tupBlocks,List.mem_append] at hx
          rcases hx with hx | hx
          · exact ⟨0,gs,g,rfl,hx⟩
          · obtain ⟨i,gs,g,h1,h2⟩ := ih hx
            exact ⟨i + 1,gs,g,by simpa using h1,h2⟩
    obtain ⟨i,gs,g,h1,h2⟩ := this l hx
    exact (h.2 i gs g h1).2.1.lt x h2
  | _ => simp [GT.blocks] at hx
theorem Inv.fp_lt (I : Inv N F S s w) (r : Root) : ∀ x ∈ s.fp r,x < w.heap.size := by
  intro x hx
  cases r with
  | box k =>
    simp only [GS.fp] at hx
    cases hb : s.β k with
    | none => simp [hb] at hx
    | some y =>
      obtain ⟨b,e,gs⟩ := y
      simp only [hb,List.mem_cons] at hx
      obtain ⟨h1,h2⟩ := I.box k b e gs hb
      rcases hx with rfl | hx
      · exact (Array.getElem?_eq_some_iff.1 h1).1
      · exact h2.lt x hx
  | slot k => exact GT.ok_lt (I.slot k) x hx
structure Grew (w w' : World) : Prop where
  os : w'.os = w.os
  tape : w'.tape = w.tape
  output : w'.output = w.output
  size : w.heap.size ≤ w'.heap.size
  block : ∀ x,x < w.heap.size → w'.heap[x]? = w.heap[x]?
theorem Grew.alloc (w : World) (ob : Obj) : Grew w (w.alloc ob) := ⟨rfl,rfl,rfl,by show w.heap.size ≤ (w.heap.push ob).size; simp,fun x hx => heap_alloc_old w ob x hx⟩
theorem Grew.refl (w : World) : Grew w w := ⟨rfl,rfl,rfl,Nat.le_refl _,fun _ _ => rfl⟩
theorem Grew.drew (w : World) : Grew w w.drew := ⟨rfl,rfl,rfl,Nat.le_refl _,fun _ _ => rfl⟩
theorem Grew.trans {w w1 w2 : World} (h : Grew w w1) (h' : Grew w1 w2) : Grew w w2 :=
  ⟨h'.os.trans h.os,h'.tape.trans h.tape,h'.output.trans h.output,Nat.le_trans h.size h'.size,fun x hx => (h'.block x (Nat.lt_of_lt_of_le hx h.size)).trans (h.block x hx)⟩
theorem Grew.cell (g : Grew w w') {ad : Addr} {v : Value} (h : w.cell? ad = some v) : w'.cell? ad = some v :=
  (cell_of_same (g.block ad.block (World.block_lt_of_cell? w ad h))).trans h
theorem VR.grew' {S' : Nat → Prop} {v : AV} {cv : Value} (h : VR N w S' v cv) (g : Grew w w') : VR N w' S' v cv := by
  induction h with
  | int k n => exact .int k n
  | bool b => exact .bool b
  | str b => exact .str b
  | lstNil st a c hc ha => exact .lstNil st a c hc ha
  | lst rows a c st cv h0 hb hsp hl hc hst hr hcell h1 _ ih => exact .lst rows a c st cv h0 hb hsp hl hc hst hr (fun i r j x hi hj => g.cell (hcell i r j x hi hj)) h1 ih
  | agg cs vs hl h1 _ ih => exact .agg cs vs hl h1 ih
  | vptr cs a cv hb hsp hcell h1 _ ih => exact .vptr cs a cv hb hsp (fun j x hj => g.cell (hcell j x hj)) h1 ih
  | nilp => exact .nilp
  | clo f first caps fs cs hf hc _ _ ih1 ih2 => exact .clo f first caps fs cs hf hc ih1 ih2
  | nilf => exact .nilf
  | iface t v cv _ ih => exact .iface t v cv ih
  | nili => exact .nili
  | emp st a c hc ha => exact .emp st a c hc ha
  | tag n cv h h1 h2 => exact .tag n cv h h1 h2
  | tab n b ty fr hb hc => exact .tab n b ty fr hb ((g.block b (Array.getElem?_eq_some_iff.1 hc).1).trans hc)
  | und v => exact .und v
theorem AllOk.grew {gs : List GC} (h : AllOk N w S gs) (hS : ∀ x,S x → x < w.heap.size) (g : Grew w w') : AllOk N w' S gs :=
  AllOk.keep h (fun x hx => g.block x (hS x hx)) fun x hx => g.block x (h.lt x hx)
theorem Inv.grew (I : Inv N F S s w) (g : Grew w w') : Inv N F S s w' where
  slot k := by
    by_cases h : ∃ v cv,s.γ k = .ali v none cv
    · obtain ⟨v,cv,e⟩ := h
      have := I.slot k
      rw [e] at this ⊢
      exact VR.grew' this g
    · exact GT.ok_keep (I.slot k) (fun x hx => g.block x (I.imm x hx)) (fun x hx => g.block x (GT.ok_lt (I.slot k) x hx)) fun v cv e => h ⟨v,cv,e⟩
  box k b e gs hb := by
    obtain ⟨h1,h2⟩ := I.box k b e gs hb
    exact ⟨by rw [g.block b (Array.getElem?_eq_some_iff.1 h1).1]; exact h1,h2.grew I.imm g⟩
  nodup := I.nodup
  apart := I.apart
  mine := I.mine
  immB x hx := ⟨Nat.lt_of_lt_of_le (I.imm x hx) g.size,(I.immB x hx).2⟩
  frm := ⟨g.os.trans I.frm.os,g.tape.trans I.frm.tape,g.output.trans I.frm.output,Nat.le_trans I.frm.size g.size,
    fun b hb hX => (g.block b (Nat.lt_of_lt_of_le hb I.frm.size)).trans (I.frm.block b hb hX)⟩
  rooted := I.rooted
  glob x hx := (I.glob x hx).grew' g
theorem Rel.grew (R : Rel N F S s st a w) (g : Grew w w') : Rel N F S s st a w' := ⟨R.inv.grew g,R.er,R.tmp,R.size,R.dfr⟩
theorem VR.grew {v : AV} {cv : Value} (h : VR N w S v cv) (hS : ∀ x,S x → x < w.heap.size) (g : Grew w w') : VR N w' S v cv := h.mono (fun x hx => g.block x (hS x hx)) fun _ h => h
theorem Free.fresh (R : Rel N F S s st a w) {l : List Nat} (h : Free F S s l) (hl : ∀ x ∈ l,x < w.heap.size) : Free F S s (w.heap.size :: l) := by
  refine ⟨List.nodup_cons.2 ⟨fun hx => absurd (hl _ hx) (Nat.lt_irrefl _),h.nodup⟩,fun x hx r hx' => ?_,fun x hx => ?_⟩
  · rcases List.mem_cons.1 hx with rfl | hx
    · exact absurd (R.inv.fp_lt r _ hx') (Nat.lt_irrefl _)
    · exact h.free x hx r hx'
  · rcases List.mem_cons.1 hx with rfl | hx
    · exact ⟨fun hS => absurd (R.inv.imm _ hS) (Nat.lt_irrefl _),.inl R.inv.frm.size⟩
    · exact h.mine x hx
def GS.box (s : GS) (d b : Nat) (e : TypeId) (gs : List GC) : GS := ⟨s.γ,upd s.β d (some (b,e,gs))⟩
theorem GS.box_root (s : GS) (d b : Nat) (e : TypeId) (gs : List GC) {r : Root} (h : r ≠ .box d) : (s.box d b e gs).root r = s.root r := by
  cases r with
  | box k => have : k ≠ d := fun e => h (by rw [e])
             simp only [GS.root,GS.box,upd_ne _ _ this]
  | slot k => rfl
theorem GS.box_fp (s : GS) (d b : Nat) (e : TypeId) (gs : List GC) {r : Root} (h : r ≠ .box d) : (s.box d b e gs).fp r = s.fp r := by
  cases r with
  | box k => have : k ≠ d := fun e => h (by rw [e])
             simp only [GS.fp,GS.box,upd_ne _ _ this]
  | slot k => rfl
theorem GS.box_fp_same (s : GS) (d b : Nat) (e : TypeId) (gs : List GC) : (s.box d b e gs).fp (.box d) = b :: blocksRow gs := by simp [GS.fp,GS.box]
theorem GS.box_loc (s : GS) (d b : Nat) (e : TypeId) (gs : List GC) {p : Place} (h : p.root ≠ .box d) : (s.box d b e gs).loc p = s.loc p := by
  simp only [GS.loc,s.box_root d b e gs h]
theorem GT.ok_loc_some {t : GT} (h : t.ok N w S s) {p : Place} (hp : t.place? = some p) : ∃ x,s.loc p = some x := by
  cases t with
  | ali v q cv =>
    cases q with
    | none => simp [GT.place?] at hp
    | some q =>
      simp only [GT.place?,Option.some.injEq] at hp
      subst hp
      obtain ⟨h',r,n,g,h1,_⟩ := h
      exact ⟨_,h1⟩
  | plc q ad =>
    simp only [GT.place?,Option.some.injEq] at hp
    subst hp
    obtain ⟨b,base,r,h1,_⟩ := h
    exact ⟨_,h1⟩
  | hd q l ad =>
    simp only [GT.place?,Option.some.injEq] at hp
    subst hp
    obtain ⟨b,base,r,cap,h1,_⟩ := h
    exact ⟨_,h1⟩
  | _ => simp [GT.place?] at hp
theorem Rel.newBox (R : Rel N F S s st a w) {d : Nat} (hd : getB st.boxes d = none) {gs : List GC} (hok : AllOk N w S gs) (hf : Free F S s (blocksRow gs)) (e : TypeId) :
    Rel N F S (s.box d w.heap.size e gs) ⟨st.env,upd st.boxes d (some (cellRow gs))⟩ a (w.alloc (.cells (gs.map GC.val).toArray e)) := by
  have g := Grew.alloc w (.cells (gs.map GC.val).toArray e)
  have R' := R.grew g
  have hff := Free.fresh R hf hok.lt
  have hβ : s.β d = none := by
    have := R.er.box d
    rw [hd] at this
    cases hb : s.β d with
    | none => rfl
    | some y => simp [hb] at this
  refine ⟨⟨fun k => ?_,fun k b e' gs' hb => ?_,fun r => ?_,fun r r' x hx hx' => ?_,fun r x hx => ?_,R'.inv.immB,R'.inv.frm,R.inv.rooted,R'.inv.glob⟩,⟨R.er.env,fun k => ?_⟩,R.tmp,R.size,R.dfr⟩
  · refine GT.ok_of_loc (R'.inv.slot k) fun p hp => s.box_loc d _ e gs fun hr => ?_
    obtain ⟨x,hx⟩ := GT.ok_loc_some (R.inv.slot k) hp
    simp [GS.loc,hr,GS.root,hβ] at hx
  · by_cases h : k = d
    · subst h
      simp only [GS.box,upd_same,Option.some.injEq,Prod.mk.injEq] at hb
      obtain ⟨rfl,rfl,rfl⟩ := hb
      exact ⟨heap_alloc_new w _,hok.grew R.inv.imm g⟩
    · simp only [GS.box,upd_ne _ _ h] at hb
      exact R'.inv.box k b e' gs' hb
  · by_cases h : r = .box d
    · subst h; rw [s.box_fp_same]; exact hff.nodup
    · rw [s.box_fp d _ e gs h]; exact R.inv.nodup r
  · by_cases h : r = .box d
    · subst h
      by_cases h' : r' = .box d
      · exact h'.symm
      · rw [s.box_fp_same] at hx; rw [s.box_fp d _ e gs h'] at hx'
        exact absurd hx' (hff.free x hx r')
    · rw [s.box_fp d _ e gs h] at hx
      by_cases h' : r' = .box d
      · subst h'; rw [s.box_fp_same] at hx'; exact absurd hx (hff.free x hx' r)
      · rw [s.box_fp d _ e gs h'] at hx'; exact R.inv.apart r r' x hx hx'
  · by_cases h : r = .box d
    · subst h; rw [s.box_fp_same] at hx; exact hff.mine x hx
    · rw [s.box_fp d _ e gs h] at hx; exact R.inv.mine r x hx
  · show _ = getB (upd st.boxes d (some (cellRow gs))) k
    rw [getB_upd]
    by_cases h : d = k
    · subst h; simp [GS.box]
    · rw [if_neg h,← R.er.box k]
      simp only [GS.box,upd_ne _ _ (fun e => h e.symm)]
theorem newBox_done (R : Rel N F S s st a w) (hd : ∀ d,dst = some d → d ∉ F.roots) {d : Nat} (hdst : dst = some d) (hb : getB st.boxes d = none) {gs : List GC} (hok : AllOk N w S gs) (hf : Free F S s (blocksRow gs)) (e : TypeId)
    {run : Result Next} (hrun : run = .ok (.value (.pointer (some ⟨w.heap.size,0,none⟩))) (w.alloc (.cells (gs.map GC.val).toArray e))) :
    OpDone N F S ⟨st.env,upd st.boxes d (some (cellRow gs))⟩ a dst (.plc ⟨.box d,[],0⟩) run := by
  have R' := R.newBox hb hok hf e
  refine ⟨_,_,S,_,.plc ⟨.box d,[],0⟩ ⟨w.heap.size,0,none⟩,.inl hrun,fun _ h => h,R',⟨rfl,rfl,⟨w.heap.size,0,gs,?_,Nat.zero_le _,rfl⟩,by simpa [GT.blocks] using Free.nil,?_,R'.unrooted hd ?_⟩⟩
  · simp [GS.loc,GS.root,GS.box,locRow]
  · intro p hp n hn; simp only [GT.place?,Option.some.injEq] at hp; subst hp; cases hn
  · intro p hp n hn; simp only [GT.place?,Option.some.injEq] at hp; subst hp; cases hn
theorem okZero_spec {t : TypeId} {zero : List Cell} (h : okZero P t zero = true) : ∃ i v,P.info? t = some i ∧ i.zero = some v ∧ i.size = zero.length ∧ okCells zero v.cells.toList = true := by
  unfold okZero at h
  split at h
  · rename_i i hi
    simp only [Bool.and_eq_true,beq_iff_eq] at h
    obtain ⟨h1,h2⟩ := h
    split at h2
    · rename_i v hv
      exact ⟨i,v,hi,hv,h1,h2⟩
    · cases h2
  · cases h
theorem run_zero {t : TypeId} {i : TypeInfo} {v : Value} (hi : P.info? t = some i) (hz : i.zero = some v) (w : World) : (zeroValue t).run P w = .ok v w := by
  simp [zeroValue,typeInfo,hi,hz]
theorem run_newVar' {t : TypeId} {v : Value} (w : World) : (newVar t v).run P w = .ok ⟨w.heap.size,0,none⟩ (w.alloc (.cells v.cells t)) := rfl
theorem sim_alloc {zero : List Cell} (R : Rel N F S s st a w) (hd : ∀ d,dst = some d → d ∉ F.roots) (hok : okOp P N F.roots (.alloc zero) o = true)
    (h : stepOp dst (.alloc zero) st = some (tv,st')) : OpDone N F S st' a dst tv ((execOp a.eval o).run P w) := by
  simp only [okOp] at hok
  split at hok
  · rename_i t ho
    obtain ⟨i,v,hi,hz,hs,hc⟩ := okZero_spec hok
    obtain ⟨gs,rfl,h2,h3,h4⟩ := okCells_GC (N := N) (w := w) (S := S) hc
    simp only [stepOp] at h
    split at h
    · cases h
    · rename_i d
      split at h
      · cases h
      · rename_i hb
        simp only [Option.some.injEq,Prod.mk.injEq] at h
        obtain ⟨rfl,rfl⟩ := h
        refine newBox_done R hd rfl hb h3 (by rw [h4]; exact Free.nil) t ?_
        have hcells : v.cells = (gs.map GC.val).toArray := by rw [h2]
        simp only [execOp,ho,Instr.alloc]
        rw [Sem.run_bind,Sem.run_bind,run_zero hi hz,Result.andThen_ok]
        simp only [Sem.run_bind,run_newVar',hcells,Result.andThen_ok]
        rfl
  · cases hok
theorem sim_box {x : Opd} (R : Rel N F S s st a w) (hd : ∀ d,dst = some d → d ∉ F.roots) (hok : okOp P N F.roots (.box x) o = true)
    (h : stepOp dst (.box x) st = some (tv,st')) : OpDone N F S st' a dst tv ((execOp a.eval o).run P w) := by
  simp only [okOp] at hok
  split at hok
  · rename_i t y ho
    simp only [stepOp] at h
    split at h
    · cases h
    · rename_i d
      split at h
      · cases h
      · rename_i hb
        split at h
        · rename_i cs g hg
          simp only [Option.some.injEq,Prod.mk.injEq] at h
          obtain ⟨rfl,rfl⟩ := h
          obtain ⟨s',gs,d1,rfl,d3,d4,d5,d6,d7⟩ := R.give hok hg
          have hboxes : (x.eat st).boxes = st.boxes := by
            cases x with
            | t n => simp only [Opd.eat]; split <;> rfl
            | _ => rfl
          have hcells : (a.eval y).cells = (gs.map GC.val).toArray := by rw [← d7]
          have := newBox_done (N := N) (dst := some d) d1 hd rfl (by rw [hboxes]; exact hb) d3 d6 t (run := (execOp a.eval o).run P w) (by
            simp only [execOp,ho,Instr.box]
            simp only [Sem.run_bind,run_newVar',hcells,Result.andThen_ok]
            rfl)
          rw [hboxes] at this
          exact this
        · cases h
  · cases hok
end
end Hm
/- Append: the memory. Conditions: none (plain lemmas). -/
namespace Hm
open Go
theorem flatten_get {α : Type} {k : Nat} : ∀ (rows : List (List α)),(∀ r ∈ rows,r.length = k) → rows.flatten.length = rows.length * k ∧
    ∀ (i : Nat) (r : List α) (j : Nat),rows[i]? = some r → j < k → rows.flatten[i * k + j]? = r[j]?
  | [],_ => by simp
  | r :: rs,h => by
    have hr := h r (by simp)
    obtain ⟨h1,h2⟩ := flatten_get rs fun r hr => h r (List.mem_cons_of_mem _ hr)
    refine ⟨by simp [h1,hr,Nat.add_mul,Nat.add_comm],fun i r' j hi hj => ?_⟩
    cases i with
    | zero =>
      simp at hi; subst hi
      simp only [Nat.zero_mul,Nat.zero_add,List.flatten_cons]
      rw [List.getElem?_append_left (by omega)]
    | succ i =>
      simp only [List.flatten_cons]
      rw [List.getElem?_append_right (by rw [hr,Nat.add_mul]; omega),hr,show (i + 1) * k + j - k = i * k + j by rw [Nat.add_mul]; omega]
      exact h2 i r' j (by simpa using hi) hj
theorem flatten_at {α : Type} {k : Nat} (rows : List (List α)) (h : ∀ r ∈ rows,r.length = k) {j : Nat} {x : α} (hj : rows.flatten[j]? = some x) :
    ∃ i r j',rows[i]? = some r ∧ r[j']? = some x ∧ j' < k ∧ j = i * k + j' := by
  obtain ⟨h1,h2⟩ := flatten_get rows h
  have hlt := (List.getElem?_eq_some_iff.1 hj).1
  rw [h1] at hlt
  have hk : 0 < k := by
    rcases Nat.eq_zero_or_pos k with e | e
    · subst e; simp at hlt
    · exact e
  have hi : j / k < rows.length := Nat.div_lt_of_lt_mul (by rw [Nat.mul_comm]; exact hlt)
  have hd : j / k * k + j % k = j := by rw [Nat.mul_comm]; exact Nat.div_add_mod j k
  refine ⟨j / k,rows[j / k],j % k,List.getElem?_eq_getElem hi,?_,Nat.mod_lt _ hk,hd.symm⟩
  rw [← h2 (j / k) _ (j % k) (List.getElem?_eq_getElem hi) (Nat.mod_lt _ hk),hd]
  exact hj
section
variable {P : Program} {N : Nm} {F : Fx} {S : Nat → Prop} {s : GS} {st st' : St} {a : Act} {w w' : World} {dst : Option Nat} {o : Oper} {tv : TV}
theorem run_append_two (t u ty e e' : TypeId) (ht : P.underlying t = some (.slice e)) (hu : P.underlying u = some (.slice e')) (b ad : Option Addr) (n cap m c : Nat) (w : World) :
    (Builtin.append_ #[t,u] ty #[.slice b n cap,.slice ad m c]).run P w = (Builtin.append_ #[t,t] ty #[.slice b n cap,.slice ad m c]).run P w := by
  simp [Builtin.append_,run_underlying ht,run_underlying hu]
theorem run_append_none (t ty e : TypeId) (i : TypeInfo) (ht : P.underlying t = some (.slice e)) (hi : P.info? e = some i) (b a : Option Addr) (n cap c : Nat) (hn : n ≤ cap) (w : World) :
    (Builtin.append_ #[t,t] ty #[.slice b n cap,.slice a 0 c]).run P w = .ok (.slice b n cap) w := by
  cases a with
  | none => cases b <;> simp [Builtin.append_,run_underlying ht,Go.sizeOf,typeInfo,hi,Builtin.lenOf,hn,Builtin.firstCells,storeCells]
  | some a =>
    have hf := run_firstCells_some (P := P) w i.size 0 a 0 c [] (by simp) (by simp)
    cases b <;> simp [Builtin.append_,run_underlying ht,Go.sizeOf,typeInfo,hi,Builtin.lenOf,hn,hf,storeCells]
theorem run_append_room' (t ty e e0 : TypeId) (i : TypeInfo) (ht : P.underlying t = some (.slice e)) (hi : P.info? e = some i)
    (g sLen sCap : Nat) (cur : Array Value) (hg : w.heap[g]? = some (.cells cur e0 (0,0)))
    (a : Addr) (m c : Nat) (news : List Value) (hl : news.length = m * i.size) (hnews : ∀ j u,news[j]? = some u → w.cell? (a.add j) = some u) (h1 : ∀ u ∈ news,u.oneCell' = true)
    (hroom : sLen + m ≤ sCap) (hfit : sLen * i.size + news.length ≤ cur.size) :
    (Builtin.append_ #[t,t] ty #[.slice (some ⟨g,0,none⟩) sLen sCap,.slice (some a) m c]).run P w =
      .ok (.slice (some ⟨g,0,none⟩) (sLen + m) sCap) (w.setRow g (cur.toList.take (sLen * i.size) ++ news ++ cur.toList.drop (sLen * i.size + news.length)).toArray) := by
  have hf := run_firstCells_some (P := P) w i.size m a m c news hl hnews
  have hst := run_storeCells_at P g (sLen * i.size) e0 news 0 cur w hg (by simpa using hfit) h1
  simp only [Nat.add_zero] at hst
  simp [Builtin.append_,run_underlying ht,Go.sizeOf,typeInfo,hi,Builtin.lenOf,hroom,hf,Addr.add_lit,hst]
structure Appd (w w' : World) (c : GC) : Prop where
  os : w'.os = w.os
  tape : w'.tape = w.tape
  output : w'.output = w.output
  size : w.heap.size ≤ w'.heap.size
  block : ∀ x,x < w.heap.size → (∀ b cap k e rows,c = .own b cap k e rows → x ≠ b) → w'.heap[x]? = w.heap[x]?
theorem append_run {t u ty e e' : TypeId} {i : TypeInfo} {z : Value} {k : Nat} (ht : P.underlying t = some (.slice e)) (hu : P.underlying u = some (.slice e')) (hi : P.info? e = some i) (hz : i.zero = some z)
    (hk : 0 < k) (hsz : i.size = k) (hzs : z.cells.size = k) (hby : i.bytes ≤ 32768)
    {c : GC} {base : List (List Cell)} (hc : c.cell = .own k base) (hok : GC.ok N w S c)
    {ad : Option Addr} {cp : Nat} {new : List (List GC)} (hnr : ∀ r ∈ new,r.length = k) (hnok : ∀ r ∈ new,AllOk N w S r)
    (hsrc : new ≠ [] → ∃ ad',ad = some ad' ∧ ∀ (j : Nat) (g : GC),new.flatten[j]? = some g → w.cell? (ad'.add j) = some g.val)
    (hlim : base.length + new.length ≤ limit) (hnd : (c.blocks ++ blocksRows new).Nodup) (hS : ∀ x ∈ c.blocks,¬ S x) (hSlt : ∀ x,S x → x < w.heap.size) :
    ∃ w' c',(Builtin.append_ #[t,u] ty #[c.val,.slice ad new.length cp]).run P w = .ok c'.val w' ∧ c'.cell = .own k (base ++ cellRows new) ∧ GC.ok N w' S c' ∧ Appd w w' c ∧
      (∀ x,c'.blocks.count x ≤ (w.heap.size :: (c.blocks ++ blocksRows new)).count x) := by
  have hval : ∃ b n cap,c.val = .slice b n cap := by
    cases hok with
    | nil st0 => exact ⟨_,_,_,rfl⟩
    | own b cap st0 e0 rows cur hst hl hcp hr hb hs hcur hok' => exact ⟨_,_,_,rfl⟩
    | av v cv _ _ => simp [GC.cell] at hc
    | dead cv _ => simp [GC.cell] at hc
  obtain ⟨vb,vn,vc,hval⟩ := hval
  rw [hval,run_append_two t u ty e e' ht hu,← hval]
  by_cases hnil : new = []
  · subst hnil
    refine ⟨w,c,?_,by simp [cellRows,hc],hok,⟨rfl,rfl,rfl,Nat.le_refl _,fun _ _ _ => rfl⟩,fun x => ?_⟩
    · cases hok with
      | nil st0 => exact run_append_none t ty e i ht hi none ad 0 0 cp (Nat.le_refl 0) w
      | own b cap st0 e0 rows cur hst hl hcp hr hb hs hcur hok' => exact run_append_none t ty e i ht hi _ ad rows.length cap cp hl w
      | av v cv _ _ => simp [GC.cell] at hc
      | dead cv _ => simp [GC.cell] at hc
    · rw [List.count_cons,List.count_append]; omega
  obtain ⟨ad',rfl,hsrc'⟩ := hsrc hnil
  clear hsrc
  have hm0 : 0 < new.length := List.length_pos_iff.2 hnil
  obtain ⟨hfl,hfg⟩ := flatten_get new hnr
  subst hsz
  have hnl : (new.flatten.map GC.val).length = new.length * i.size := by simp only [List.length_map]; exact hfl
  have hnews : ∀ j v,(new.flatten.map GC.val)[j]? = some v → w.cell? (ad'.add j) = some v := fun j v hj => by
    rw [List.getElem?_map,Option.map_eq_some_iff] at hj
    obtain ⟨g,hg,rfl⟩ := hj
    exact hsrc' j g hg
  have hn1 : ∀ v ∈ new.flatten.map GC.val,v.oneCell' = true := fun v hv => by
    simp only [List.mem_map,List.mem_flatten] at hv
    obtain ⟨g,⟨r,hr,hg⟩,rfl⟩ := hv
    exact (hnok r hr g hg).one
  have hlim' : base.length + new.length ≤ 4294967296 := hlim
  have hbytes : (base.length + new.length) * i.bytes ≤ 140737488355328 :=
    calc (base.length + new.length) * i.bytes ≤ 4294967296 * 32768 := Nat.mul_le_mul hlim' hby
      _ = 140737488355328 := rfl
  -- the cells of the new rows
  have hncell : ∀ (cur : Array Value) (o : Nat),(∀ j v,(new.flatten.map GC.val)[j]? = some v → cur[o + j]? = some v) →
      ∀ (i0 : Nat) (r : List GC) (j : Nat) (g : GC),new[i0]? = some r → r[j]? = some g → cur[o + (i0 * i.size + j)]? = some g.val := by
    intro cur o h i0 r j g hi0 hj
    have hjk : j < i.size := by rw [← hnr r (List.mem_of_getElem? hi0)]; exact (List.getElem?_eq_some_iff.1 hj).1
    refine h _ _ ?_
    rw [List.getElem?_map,hfg i0 r j hi0 hjk,hj]; rfl
  have hrow : ∀ (rows : List (List GC)),(∀ (i0 : Nat) (r : List GC),rows[i0]? = some r → r.length = i.size) → ∀ (i0 : Nat) (r : List GC),(rows ++ new)[i0]? = some r → r.length = i.size := by
    intro rows h i0 r hi0
    rw [List.getElem?_append] at hi0
    split at hi0
    · exact h i0 r hi0
    · exact hnr r (List.mem_of_getElem? hi0)
  -- a new block
  have grown : ∀ (rows : List (List GC)) (old : Nat),rows.length = base.length → base = cellRows rows → old < base.length + new.length →
      (∀ (i0 : Nat) (r : List GC),rows[i0]? = some r → r.length = i.size) → (∀ r ∈ rows,AllOk N w S r) →
      ∀ w1,w1 = w.drew.alloc (.cells ((rows.flatten.map GC.val).toArray ++ (new.flatten.map GC.val).toArray ++ Builtin.zeroCells z.cells (grownCap w (base.length + new.length) old e - (base.length + new.length))) e) →
      GC.ok N w1 S (.own w.heap.size (grownCap w (base.length + new.length) old e) i.size e (rows ++ new)) ∧ Grew w w1 := by
    intro rows old hrl hbase hold hr hrok w1 hw1
    have hg : Grew w w1 := by subst hw1; exact (Grew.drew w).trans (Grew.alloc _ _)
    obtain ⟨hfl0,hfg0⟩ := flatten_get rows fun r hr' => by
      obtain ⟨i0,hi0⟩ := List.mem_iff_getElem?.1 hr'
      exact hr i0 r hi0
    have hge := grownCap_ge w (base.length + new.length) old e
    have hcm := grownCap_le_maxLen w (base.length + new.length) old e (by simp only [maxLen]; omega)
    refine ⟨.own _ _ _ _ _ _ hk (by simp; omega) hcm (hrow rows hr) (by subst hw1; exact heap_alloc_new w.drew _) ?_ ?_ ?_,hg⟩
    · simp only [Array.size_append,List.size_toArray,size_zeroCells,hzs,List.length_map,hfl,hfl0,← Nat.add_mul,hrl]
      congr 1; omega
    · intro i0 r j g hi0 hj
      have hjk : j < i.size := by rw [← hrow rows hr i0 r hi0]; exact (List.getElem?_eq_some_iff.1 hj).1
      rw [List.getElem?_append] at hi0
      simp only [← Array.getElem?_toList,Array.toList_append,List.append_assoc]
      split at hi0
      · rename_i hlt
        have hlt2 : i0 * i.size + j < rows.flatten.length := by
          rw [hfl0]
          calc i0 * i.size + j < i0 * i.size + i.size := by omega
            _ = (i0 + 1) * i.size := by rw [Nat.add_mul]; simp
            _ ≤ rows.length * i.size := Nat.mul_le_mul_right _ hlt
        rw [List.getElem?_append_left (by simp only [List.toList_toArray,List.length_map]; exact hlt2)]
        rw [List.getElem?_map,hfg0 i0 r j hi0 hjk,hj]; rfl
      · rename_i hge'
        have e1 : i0 * i.size + j = rows.length * i.size + ((i0 - rows.length) * i.size + j) := by
          have : i0 = rows.length + (i0 - rows.length) := by omega
          rw [← Nat.add_assoc,← Nat.add_mul,← this]
        have hlt2 : (i0 - rows.length) * i.size + j < new.flatten.length := by
          rw [hfl]
          have := (List.getElem?_eq_some_iff.1 hi0).1
          calc (i0 - rows.length) * i.size + j < (i0 - rows.length) * i.size + i.size := by omega
            _ = (i0 - rows.length + 1) * i.size := by rw [Nat.add_mul]; simp
            _ ≤ new.length * i.size := Nat.mul_le_mul_right _ this
        rw [e1,List.getElem?_append_right (by simp only [List.toList_toArray,List.length_map,hfl0]; omega)]
        rw [List.getElem?_append_left (by simp only [List.toList_toArray,List.length_map,hfl0]; omega)]
        simp only [List.toList_toArray,List.length_map,hfl0,Nat.add_sub_cancel_left]
        rw [List.getElem?_map,hfg _ r j hi0 hjk,hj]; rfl
    · intro i0 r j g hi0 hj
      have : AllOk N w S r := by
        have := List.mem_of_getElem? hi0
        rcases List.mem_append.1 this with h | h
        · exact hrok r h
        · exact hnok r h
      exact this.grew hSlt hg g (List.mem_of_getElem? hj)
  cases hok with
  | av v cv _ _ => simp [GC.cell] at hc
  | dead cv _ => simp [GC.cell] at hc
  | nil st0 =>
    simp only [GC.cell,Cell.own.injEq] at hc
    obtain ⟨rfl,rfl⟩ := hc
    simp only [List.length_nil,Nat.zero_add] at hbytes hlim' grown
    have hr := run_append_nil (P := P) w t ty e i z ht hi hz ad' new.length cp _ hnl hnews hm0 (by omega) (by omega)
    obtain ⟨g1,g2⟩ := grown [] 0 rfl rfl hm0 (by simp) (by simp) _ rfl
    simp only [List.flatten_nil,List.map_nil,List.nil_append,Array.empty_append] at g1 g2
    refine ⟨_,.own w.heap.size _ i.size e new,hr,by simp [GC.cell],g1,⟨g2.os,g2.tape,g2.output,g2.size,fun x hx _ => g2.block x hx⟩,fun x => ?_⟩
    simp [GC.blocks]
  | own b cap st0 e0 rows cur hst hl hcp hr hb hs hcur hok' =>
    simp only [GC.cell,Cell.own.injEq] at hc
    obtain ⟨rfl,rfl⟩ := hc
    have hbl : (cellRows rows).length = rows.length := by simp [cellRows_eq]
    rw [hbl] at hbytes hlim' grown
    have hrm : ∀ r ∈ rows,r.length = i.size := fun r hr' => by
      obtain ⟨i0,hi0⟩ := List.mem_iff_getElem?.1 hr'
      exact hr i0 r hi0
    obtain ⟨hfl0,hfg0⟩ := flatten_get rows hrm
    have hrok : ∀ r ∈ rows,AllOk N w S r := fun r hr' g hg => by
      obtain ⟨i0,hi0⟩ := List.mem_iff_getElem?.1 hr'
      obtain ⟨j,hj⟩ := List.mem_iff_getElem?.1 hg
      exact hok' i0 r j g hi0 hj
    have hcur0 : ∀ (j : Nat) (g : GC),rows.flatten[j]? = some g → cur[j]? = some g.val := fun j g hj => by
      obtain ⟨i0,r,j',h1,h2,h3,rfl⟩ := flatten_at rows hrm hj
      exact hcur i0 r j' g h1 h2
    by_cases hroom : rows.length + new.length ≤ cap
    · have hfit : rows.length * i.size + (new.flatten.map GC.val).length ≤ cur.size := by rw [hnl,hs,← Nat.add_mul]; exact Nat.mul_le_mul_right _ hroom
      have hrun := run_append_room' (P := P) (w := w) t ty e e0 i ht hi b rows.length cap cur hb ad' new.length cp _ hnl hnews hn1 hroom hfit
      have hnd' : (b :: (blocksRows rows ++ blocksRows new)).Nodup := hnd
      have hbb := (List.nodup_cons.1 hnd').1
      refine ⟨_,.own b cap i.size e0 (rows ++ new),by rw [show (GC.own b cap i.size e0 rows).val = .slice (some ⟨b,0,none⟩) rows.length cap from rfl,hrun,show (GC.own b cap i.size e0 (rows ++ new)).val = .slice (some ⟨b,0,none⟩) (rows ++ new).length cap from rfl,List.length_append],by simp [GC.cell,cellRows_eq],?_,?_,?_⟩
      · have hne : ∀ x,x ≠ b → (w.setRow b (cur.toList.take (rows.length * i.size) ++ new.flatten.map GC.val ++ cur.toList.drop (rows.length * i.size + (new.flatten.map GC.val).length)).toArray).heap[x]? = w.heap[x]? :=
          fun x hx => setRow_other _ _ _ _ hx
        have htl : (cur.toList.take (rows.length * i.size)).length = rows.length * i.size := by simp; omega
        refine .own _ _ _ _ _ _ hst (by simp; omega) hcp (hrow rows hr) (setRow_heap w b cur _ e0 _ hb) (by simp at hfit ⊢; omega) ?_ ?_
        · intro i0 r j g hi0 hj
          have hjk : j < i.size := by rw [← hrow rows hr i0 r hi0]; exact (List.getElem?_eq_some_iff.1 hj).1
          rw [List.getElem?_append] at hi0
          simp only [List.getElem?_toArray,List.append_assoc]
          split at hi0
          · rename_i hlt
            have hlt2 : i0 * i.size + j < rows.length * i.size := by
              calc i0 * i.size + j < i0 * i.size + i.size := by omega
                _ = (i0 + 1) * i.size := by rw [Nat.add_mul]; simp
                _ ≤ rows.length * i.size := Nat.mul_le_mul_right _ hlt
            rw [List.getElem?_append_left (by omega),List.getElem?_take,if_pos hlt2,Array.getElem?_toList]
            exact hcur i0 r j g hi0 hj
          · rename_i hge'
            have e1 : i0 * i.size + j = rows.length * i.size + ((i0 - rows.length) * i.size + j) := by
              have : i0 = rows.length + (i0 - rows.length) := by omega
              rw [← Nat.add_assoc,← Nat.add_mul,← this]
            have hlt2 : (i0 - rows.length) * i.size + j < new.flatten.length := by
              rw [hfl]
              have := (List.getElem?_eq_some_iff.1 hi0).1
              calc (i0 - rows.length) * i.size + j < (i0 - rows.length) * i.size + i.size := by omega
                _ = (i0 - rows.length + 1) * i.size := by rw [Nat.add_mul]; simp
                _ ≤ new.length * i.size := Nat.mul_le_mul_right _ this
            rw [e1,List.getElem?_append_right (by omega),List.getElem?_append_left (by simp only [List.length_map]; omega),htl,Nat.add_sub_cancel_left]
            rw [List.getElem?_map,hfg _ r j hi0 hjk,hj]; rfl
        · intro i0 r j g hi0 hj
          have hmem := List.mem_of_getElem? hi0
          have hr' : AllOk N w S r := by
            rcases List.mem_append.1 hmem with h | h
            · exact hrok r h
            · exact hnok r h
          refine (AllOk.keep hr' (fun x hx => hne x fun e => hS b (by simp [GC.blocks]) (e ▸ hx)) fun x hx => hne x fun e => hbb ?_) g (List.mem_of_getElem? hj)
          subst e
          rcases List.mem_append.1 hmem with h | h
          · obtain ⟨i1,hi1⟩ := List.mem_iff_getElem?.1 h
            exact List.mem_append_left _ (mem_blocksRows hi1 hx)
          · obtain ⟨i1,hi1⟩ := List.mem_iff_getElem?.1 h
            exact List.mem_append_right _ (mem_blocksRows hi1 hx)
      · exact ⟨rfl,rfl,rfl,by simp,fun x _ h => setRow_other _ _ _ _ (h b _ _ _ _ rfl)⟩
      · intro x
        have : blocksRows (rows ++ new) = blocksRows rows ++ blocksRows new := by simp [blocksRows_eq]
        simp only [GC.blocks,this,List.cons_append]
        rw [List.count_cons (a := x) (b := w.heap.size)]; omega
    · have holds : ∀ j v,(rows.flatten.map GC.val)[j]? = some v → w.cell? ((⟨b,0,none⟩ : Addr).add j) = some v := fun j v hj => by
        rw [List.getElem?_map,Option.map_eq_some_iff] at hj
        obtain ⟨g,hg,rfl⟩ := hj
        rw [add_addr,World.cell?,hb]
        simpa using hcur0 j g hg
      have hlo : (rows.flatten.map GC.val).length = rows.length * i.size := by simp only [List.length_map]; exact hfl0
      have hrun := run_append_grow (P := P) w t ty e i z ht hi hz ⟨b,0,none⟩ rows.length cap _ hlo holds ad' new.length cp _ hnl hnews (by omega) (by omega) (growslice_fits (by omega) hbytes)
      obtain ⟨g1,g2⟩ := grown rows cap rfl rfl (by omega) hr hrok _ rfl
      refine ⟨_,.own w.heap.size (grownCap w (rows.length + new.length) cap e) i.size e (rows ++ new),by rw [show (GC.own b cap i.size e0 rows).val = .slice (some ⟨b,0,none⟩) rows.length cap from rfl,hrun,show ∀ n m,(GC.own n m i.size e (rows ++ new)).val = .slice (some ⟨n,0,none⟩) (rows ++ new).length m from fun _ _ => rfl,List.length_append],by simp [GC.cell,cellRows_eq],g1,⟨g2.os,g2.tape,g2.output,g2.size,fun x hx _ => g2.block x hx⟩,fun x => ?_⟩
      have : blocksRows (rows ++ new) = blocksRows rows ++ blocksRows new := by simp [blocksRows_eq]
      simp only [GC.blocks,this,List.cons_append]
      rw [List.count_cons,List.count_cons,List.count_cons]; omega
end
end Hm
/- Owned values handed over, one by one; append. Conditions: none (plain lemmas). -/
namespace Hm
open Go
def hushG : GT → GT
  | .ali _ none cv => .und cv
  | t => t
def GS.hush (s : GS) : GS := ⟨fun k => hushG (s.γ k),s.β⟩
theorem hushG_tv (t : GT) : (hushG t).tv = t.tv.hush := by
  cases t with
  | ali v q cv => cases q <;> rfl
  | _ => rfl
theorem hushG_val (t : GT) : (hushG t).val = t.val := by
  cases t with
  | ali v q cv => cases q <;> rfl
  | _ => rfl
theorem hushG_blocks (t : GT) : (hushG t).blocks = t.blocks := by
  cases t with
  | ali v q cv => cases q <;> rfl
  | _ => rfl
theorem hushG_place (t : GT) : (hushG t).place? = t.place? := by
  cases t with
  | ali v q cv => cases q <;> rfl
  | _ => rfl
theorem hushG_own (t : GT) : (match hushG t with | .own gs _ => some ((none : Option Nat),gs) | _ => none) = (match t with | .own gs _ => some ((none : Option Nat),gs) | _ => none) := by
  cases t with
  | ali v q cv => cases q <;> rfl
  | _ => rfl
theorem GS.hush_root (s : GS) (q : Root) : s.hush.root q = s.root q := by
  cases q with
  | box k => rfl
  | slot k => exact hushG_own (s.γ k)
theorem GS.hush_loc (s : GS) (p : Place) : s.hush.loc p = s.loc p := by simp only [GS.loc,s.hush_root]
theorem GS.hush_fp (s : GS) (q : Root) : s.hush.fp q = s.fp q := by
  cases q with
  | box k => rfl
  | slot k => exact hushG_blocks (s.γ k)
theorem GS.hush_none (s : GS) (k : Nat) (v : AV) (cv : Value) : s.hush.γ k ≠ .ali v none cv := by
  show hushG (s.γ k) ≠ _
  cases s.γ k with
  | ali v q cv => cases q <;> simp [hushG]
  | _ => simp [hushG]
theorem getE_hushE (env : Nat → TV) (k : Nat) : getE (hushE env) k = (getE env k).hush := rfl
section
variable {P : Program} {N : Nm} {F : Fx} {S : Nat → Prop} {s : GS} {st st' : St} {a : Act} {w w' : World} {dst : Option Nat} {o : Oper} {tv : TV}
theorem Inv.hush (I : Inv N F S s w) : Inv N F S s.hush w where
  slot k := by
    have h := I.slot k
    have h2 : (hushG (s.γ k)).ok N w S s := by
      generalize s.γ k = t at h
      cases t with
      | ali v q cv => cases q with
        | none => trivial
        | some q => exact h
      | _ => exact h
    exact GT.ok_of_loc h2 fun p _ => s.hush_loc p
  box := I.box
  nodup q := by rw [s.hush_fp]; exact I.nodup q
  apart q q' x hx hx' := by rw [s.hush_fp] at hx hx'; exact I.apart q q' x hx hx'
  mine q x hx := by rw [s.hush_fp] at hx; exact I.mine q x hx
  immB := I.immB
  glob := I.glob
  frm := I.frm
  rooted k p hp n hn := I.rooted k p (by rw [← hushG_place]; exact hp) n hn
theorem Rel.hush (R : Rel N F S s st a w) : Rel N F S s.hush st.hush a w :=
  ⟨R.inv.hush,⟨fun k => by show _ = getE (hushE st.env) k; rw [getE_hushE,← R.er.env k]; exact hushG_tv _,R.er.box⟩,fun k => by rw [R.tmp k]; exact (hushG_val _).symm,R.size,R.dfr⟩
theorem Free.hush {l : List Nat} (h : Free F S s l) : Free F S s.hush l := ⟨h.nodup,fun x hx q => by rw [s.hush_fp]; exact h.free x hx q,h.mine⟩
theorem Free.app {l l' : List Nat} (h : Free F S s l) (h' : Free F S s l') (hd : ∀ x ∈ l,x ∉ l') : Free F S s (l ++ l') :=
  ⟨List.nodup_append.2 ⟨h.nodup,h'.nodup,fun x hx y hy e => hd x hx (e ▸ hy)⟩,
    fun x hx => (List.mem_append.1 hx).elim (h.free x) (h'.free x),fun x hx => (List.mem_append.1 hx).elim (h.mine x) (h'.mine x)⟩
theorem Free.le {l l' : List Nat} (h : Free F S s l) (hc : ∀ x,l'.count x ≤ l.count x) : Free F S s l' :=
  ⟨List.nodup_iff_count.2 fun x => Nat.le_trans (hc x) (List.nodup_iff_count.1 h.nodup x),
    fun x hx => h.free x (mem_of_count.2 (Nat.lt_of_lt_of_le (mem_of_count.1 hx) (hc x))),fun x hx => h.mine x (mem_of_count.2 (Nat.lt_of_lt_of_le (mem_of_count.1 hx) (hc x)))⟩
theorem Free.drop (R : Rel N F S s st a w) {n : Nat} {l : List Nat} (h : Free F S s l) {cv : Value} (hf : Free F S (s.put n (.und cv)) (s.γ n).blocks) :
    Free F S (s.put n (.und cv)) (l ++ (s.γ n).blocks) := by
  refine Free.app ⟨h.nodup,fun x hx r hx' => ?_,h.mine⟩ hf fun x hx hx' => h.free x hx (.slot n) hx'
  by_cases e : r = .slot n
  · subst e; rw [s.fp_put] at hx'; simp [GT.blocks] at hx'
  · rw [s.fp_put_ne _ e] at hx'; exact h.free x hx r hx'
theorem Rel.ownF (R : Rel N F S s st a w) {x : Opd} {y : Operand} (h : okE N F.roots x y = true) {cs : List Cell} {g : Bool} (hv : st.opd x = .own cs g) :
    ∃ s' gs,Rel N F S s' (x.eat st) a w ∧ cellRow gs = cs ∧ AllOk N w S gs ∧ (g = false → ∃ c,gs = [c]) ∧ a.eval y = cval g gs ∧ (∀ l,Free F S s l → Free F S s' (l ++ blocksRow gs)) ∧ s'.β = s.β := by
  obtain ⟨h0,hroot⟩ := okE_okO h
  obtain ⟨t,h1,h2,h3,h4⟩ := R.opd h0
  rw [hv] at h1
  obtain ⟨gs,rfl,rfl⟩ := GT.of_own h1
  rcases h4 with ⟨n,rfl,e⟩ | ⟨hn,hb,_⟩
  · obtain ⟨d1,d2⟩ := R.drop (hroot n rfl)
    have hv' : getE st.env n = .own (cellRow gs) g := hv
    have heat : (Opd.t n).eat st = st.put n .und := by simp only [Opd.eat,hv']
    have hfr : ∀ l,Free F S s l → Free F S (s.put n (.und (s.γ n).val)) (l ++ (s.γ n).blocks) := fun l hl => Free.drop R hl d2
    rw [← e] at d1 hfr
    exact ⟨_,gs,by rw [heat]; exact d1,rfl,h3.1,h3.2,h2.symm,hfr,rfl⟩
  · have heat : x.eat st = st := by cases x with
      | t n => exact absurd rfl (hn n)
      | _ => rfl
    have hb' : blocksRow gs = [] := hb
    exact ⟨s,gs,by rw [heat]; exact R,rfl,h3.1,h3.2,h2.symm,fun l hl => by rw [hb',List.append_nil]; exact hl,rfl⟩
theorem Rel.giveF (R : Rel N F S s st a w) {x : Opd} {y : Operand} (h : okE N F.roots x y = true) {cs : List Cell} {g : Bool} (hv : (st.opd x).give = some (cs,g)) :
    ∃ s' gs,Rel N F S s' (x.eat st) a w ∧ cellRow gs = cs ∧ AllOk N w S gs ∧ (g = false → ∃ c,gs = [c]) ∧ a.eval y = cval g gs ∧ (∀ l,Free F S s l → Free F S s' (l ++ blocksRow gs)) ∧
      (a.eval y).cells.toList = gs.map GC.val := by
  cases ho : st.opd x with
  | av v =>
    rw [ho] at hv
    have hne : v ≠ .und := fun e => by subst e; simp [TV.give] at hv
    have hv' : some (cellsOf v,v.isAgg) = some (cs,g) := by
      cases v <;> first | exact absurd rfl hne | exact hv
    simp only [Option.some.injEq,Prod.mk.injEq] at hv'
    obtain ⟨rfl,rfl⟩ := hv'
    obtain ⟨gs,h1,h2,h3,h4,h5,h6⟩ := (R.opd_av (okE_okO h).1 ho).cells hne
    have heat : x.eat st = st := by cases x with
      | t n => have ho' : getE st.env n = .av v := ho
               simp only [Opd.eat,ho']
      | _ => rfl
    exact ⟨s,gs,by rw [heat]; exact R,h1,h2,h6,h4,fun l hl => by rw [h3,List.append_nil]; exact hl,h5.symm⟩
  | own cs' g' =>
    rw [ho] at hv
    simp only [TV.give,Option.some.injEq,Prod.mk.injEq] at hv
    obtain ⟨rfl,rfl⟩ := hv
    obtain ⟨s',gs,h1,h2,h3,h4,h5,h6,_⟩ := R.ownF h ho
    exact ⟨s',gs,h1,h2,h3,h4,h5,h6,by rw [h5]; exact cval_cells h3 h4⟩
  | ali v p => rw [ho] at hv; simp [TV.give] at hv
  | plc p => rw [ho] at hv; simp [TV.give] at hv
  | hd p l => rw [ho] at hv; simp [TV.give] at hv
  | tup l => rw [ho] at hv; simp [TV.give] at hv
  | skp => rw [ho] at hv; simp [TV.give] at hv
  | und => rw [ho] at hv; simp [TV.give] at hv
theorem GS.write_fp {p : Place} {new : List GC} {h : Option (Nat × Nat)} {r : List GC} (hl : s.loc p = some (h,r)) (hfit : p.off + new.length ≤ r.length) (x : Nat) (q : Root) :
    ((s.write p new).fp q).count x + (if q = p.root then (blocksRow ((r.drop p.off).take new.length)).count x else 0) = (s.fp q).count x + (if q = p.root then (blocksRow new).count x else 0) := by
  unfold GS.loc at hl
  cases hr : s.root p.root with
  | none => simp [hr] at hl
  | some z =>
    obtain ⟨ob,gs⟩ := z
    simp only [hr] at hl
    have hc := count_setRowG_eq x p.off new p.path gs _ h r hl hfit
    cases hroot : p.root with
    | box k =>
      rw [hroot] at hr
      simp only [GS.root] at hr
      cases hb : s.β k with
      | none => simp [hb] at hr
      | some y =>
        obtain ⟨b0,e0,gs0⟩ := y
        simp only [hb,Option.some.injEq,Prod.mk.injEq] at hr
        obtain ⟨rfl,rfl⟩ := hr
        rw [GS.write_box hroot hb]
        by_cases hq : q = .box k
        · subst hq
          simp only [GS.fp,upd_same,hb,if_true,List.count_cons]
          omega
        · rw [if_neg hq,if_neg hq]
          cases q with
          | box j => have : j ≠ k := fun e => hq (by rw [e])
                     simp only [GS.fp,upd_ne _ _ this]
          | slot j => simp only [GS.fp,GS.clr,clrG_blocks]
    | slot k =>
      rw [hroot] at hr
      simp only [GS.root] at hr
      cases hγ : s.γ k with
      | own gs0 g =>
        simp only [hγ,Option.some.injEq,Prod.mk.injEq] at hr
        obtain ⟨rfl,rfl⟩ := hr
        rw [GS.write_slot hroot hγ]
        by_cases hq : q = .slot k
        · subst hq
          simp only [GS.fp,upd_same,hγ,if_true,GT.blocks]
          exact hc
        · rw [if_neg hq,if_neg hq]
          cases q with
          | box j => rfl
          | slot j => have : j ≠ k := fun e => hq (by rw [e])
                      simp only [GS.fp,upd_ne _ _ this,GS.clr,clrG_blocks]
      | _ => simp [hγ] at hr
theorem blocks_in_fp {p : Place} {h : Option (Nat × Nat)} {r : List GC} (hl : s.loc p = some (h,r)) {n : Nat} (hn : p.off + n ≤ r.length) (x : Nat) (hx : x ∈ blocksRow ((r.drop p.off).take n)) : x ∈ s.fp p.root := by
  have hlen : (((r.drop p.off).take n).map fun c => GC.dead c.val).length = n := by simp; omega
  have := GS.write_fp (s := s) (new := ((r.drop p.off).take n).map fun c => GC.dead c.val) hl (by rw [hlen]; exact hn) x p.root
  rw [if_pos rfl,if_pos rfl,hlen] at this
  have h0 : (blocksRow (((r.drop p.off).take n).map fun c => GC.dead c.val)).count x = 0 := by
    rw [List.count_eq_zero,blocksRow_eq]
    simp only [List.mem_flatMap,List.mem_map,not_exists,not_and]
    rintro c ⟨d,_,rfl⟩
    simp [GC.blocks]
  rw [mem_of_count] at hx ⊢
  omega
theorem Free.write {p : Place} {new : List GC} {h : Option (Nat × Nat)} {r : List GC} (W : WriteH N F S s w w' p new h r) {l : List Nat} (hf : Free F S s (blocksRow new ++ l))
    (h3 : Free F S (s.write p new) (blocksRow ((r.drop p.off).take new.length))) : Free F S (s.write p new) (l ++ blocksRow ((r.drop p.off).take new.length)) := by
  obtain ⟨n1,n2,n3⟩ := List.nodup_append.1 hf.nodup
  refine Free.app ⟨n2,fun x hx q hx' => ?_,fun x hx => hf.mine x (List.mem_append_right _ hx)⟩ h3 fun x hx hx' => ?_
  · have := GS.write_fp (new := new) W.loc W.fits x q
    have h0 : (s.fp q).count x = 0 := List.count_eq_zero.2 (hf.free x (List.mem_append_right _ hx) q)
    have h1 : (blocksRow new).count x = 0 := List.count_eq_zero.2 fun hxn => n3 x hxn x hx rfl
    rw [mem_of_count] at hx'
    split at this <;> omega
  · exact hf.free x (List.mem_append_right _ hx) p.root (blocks_in_fp W.loc W.fits x hx')
theorem Rel.appd (R : Rel N F S s st a w) (hno : ∀ k v cv,s.γ k ≠ .ali v none cv) {c : GC} (hf : Free F S s c.blocks) (A : Appd w w' c) : Rel N F S s st a w' := by
  have hb : ∀ x,x < w.heap.size → x ∉ c.blocks → w'.heap[x]? = w.heap[x]? := fun x hx hn => A.block x hx fun b cap k e rows hc hxb => hn (by subst hc; subst hxb; simp [GC.blocks])
  have hS : ∀ x,S x → w'.heap[x]? = w.heap[x]? := fun x hx => hb x (R.inv.imm x hx) fun h => (hf.mine x h).1 hx
  have hfp : ∀ r x,x ∈ s.fp r → w'.heap[x]? = w.heap[x]? := fun r x hx => hb x (R.inv.fp_lt r x hx) fun h => hf.free x h r hx
  refine ⟨⟨fun k => ?_,fun k b e gs hk => ?_,R.inv.nodup,R.inv.apart,R.inv.mine,fun x hx => ⟨Nat.lt_of_lt_of_le (R.inv.imm x hx) A.size,(R.inv.immB x hx).2⟩,
    ⟨A.os.trans R.inv.frm.os,A.tape.trans R.inv.frm.tape,A.output.trans R.inv.frm.output,Nat.le_trans R.inv.frm.size A.size,fun b hb' hX => ?_⟩,R.inv.rooted,fun x hx => (R.inv.glob x hx).mono hS fun _ h => h⟩,R.er,R.tmp,R.size,R.dfr⟩
  · exact GT.ok_keep (R.inv.slot k) hS (fun x hx => hfp (.slot k) x hx) (hno k)
  · obtain ⟨h1,h2⟩ := R.inv.box k b e gs hk
    have hin : ∀ x ∈ b :: blocksRow gs,x ∈ s.fp (.box k) := fun x hx => by simp only [GS.fp,hk]; exact hx
    exact ⟨by rw [hfp _ b (hin b (by simp))]; exact h1,AllOk.keep h2 hS fun x hx => hfp _ x (hin x (List.mem_cons_of_mem _ hx))⟩
  · rw [← R.inv.frm.block b hb' hX]
    refine hb b (Nat.lt_of_lt_of_le hb' R.inv.frm.size) fun h => ?_
    rcases (hf.mine b h).2 with h' | h'
    · omega
    · exact hX h'
end
end Hm
/- Append: the operation. Conditions: none (plain lemmas). -/
namespace Hm
open Go
section
variable {P : Program} {N : Nm} {F : Fx} {S : Nat → Prop} {s : GS} {st st' : St} {a : Act} {w w' : World} {dst : Option Nat} {o : Oper} {tv : TV}
structure Src (N : Nm) (w : World) (S : Nat → Prop) (k : Nat) (rows : List (List Cell)) (cv : Value) (new : List (List GC)) : Prop where
  cells : cellRows new = rows
  len : ∀ r ∈ new,r.length = k
  ok : ∀ r ∈ new,AllOk N w S r
  val : ∃ ad cp,cv = .slice ad new.length cp ∧ (new ≠ [] → ∃ ad',ad = some ad' ∧ ∀ (j : Nat) (g : GC),new.flatten[j]? = some g → w.cell? (ad'.add j) = some g.val)
theorem VR.src {k : Nat} {rows : List (List AV)} {cv : Value} (h : VR N w S (.lst k rows) cv) : ∃ new,Src N w S k (rows.map (·.map .av)) cv new ∧ blocksRows new = [] := by
  cases h with
  | lstNil _ ad c hc ha => exact ⟨[],⟨rfl,by simp,by simp,ad,c,rfl,fun h => absurd rfl h⟩,rfl⟩
  | lst _ ad c _ cvf h0 hS hsp hl hc hst hr hcell h1 hv =>
    have hget : ∀ (i : Nat) (r : List GC),(rows.mapIdx fun i r => r.mapIdx fun j x => GC.av x (cvf i j))[i]? = some r → ∃ r0,rows[i]? = some r0 ∧ r = r0.mapIdx fun j x => GC.av x (cvf i j) := by
      intro i r hi
      rw [List.getElem?_mapIdx,Option.map_eq_some_iff] at hi
      obtain ⟨r0,h1,h2⟩ := hi
      exact ⟨r0,h1,h2.symm⟩
    have hlen : ∀ r ∈ (rows.mapIdx fun i r => r.mapIdx fun j x => GC.av x (cvf i j)),r.length = k := fun r hr' => by
      obtain ⟨i,hi⟩ := List.mem_iff_getElem?.1 hr'
      obtain ⟨r0,h1,rfl⟩ := hget i r hi
      simpa using hr i r0 h1
    refine ⟨rows.mapIdx fun i r => r.mapIdx fun j x => GC.av x (cvf i j),⟨?_,hlen,?_,some ad,c,by simp,fun _ => ⟨ad,rfl,?_⟩⟩,?_⟩
    · rw [cellRows_eq]
      apply List.ext_getElem?
      intro i
      rw [List.getElem?_map,List.getElem?_map,List.getElem?_mapIdx,Option.map_map]
      congr 1
      funext r
      simp only [Function.comp]
      rw [cellRow_eq]
      apply List.ext_getElem?
      intro j
      rw [List.getElem?_map,List.getElem?_map,List.getElem?_mapIdx,Option.map_map]
      rfl
    · intro r hr' c hc'
      obtain ⟨i,hi⟩ := List.mem_iff_getElem?.1 hr'
      obtain ⟨r0,h2,rfl⟩ := hget i r hi
      obtain ⟨j,hj⟩ := List.mem_iff_getElem?.1 hc'
      rw [List.getElem?_mapIdx,Option.map_eq_some_iff] at hj
      obtain ⟨x,h3,rfl⟩ := hj
      exact .av x _ (hv i r0 j x h2 h3) (h1 i r0 j x h2 h3)
    · intro j g hj
      obtain ⟨i,r,j',h2,h3,h4,rfl⟩ := flatten_at _ hlen hj
      obtain ⟨r0,h5,rfl⟩ := hget i r h2
      rw [List.getElem?_mapIdx,Option.map_eq_some_iff] at h3
      obtain ⟨x,h6,rfl⟩ := h3
      have had : ad = ⟨ad.block,ad.off,none⟩ := by cases ad; simp at hsp; simp [hsp]
      rw [had,add_addr]
      exact hcell i r0 j' x h5 h6
    · rw [blocksRows_eq,List.flatMap_eq_nil_iff]
      intro r hr'
      obtain ⟨i,hi⟩ := List.mem_iff_getElem?.1 hr'
      obtain ⟨r0,h2,rfl⟩ := hget i r hi
      rw [blocksRow_eq,List.flatMap_eq_nil_iff]
      intro c hc'
      obtain ⟨j,hj⟩ := List.mem_iff_getElem?.1 hc'
      rw [List.getElem?_mapIdx,Option.map_eq_some_iff] at hj
      obtain ⟨x,h3,rfl⟩ := hj
      rfl
theorem VR.srcE {k : Nat} {nn : Bool} {cv : Value} (h : VR N w S (.emp k nn) cv) : Src N w S k [] cv [] := by
  cases h with
  | emp _ ad c hc ha => exact ⟨rfl,by simp,by simp,ad,c,rfl,fun h => absurd rfl h⟩
theorem GC.src {k : Nat} {rows : List (List Cell)} {c : GC} (hc : c.cell = .own k rows) (hok : GC.ok N w S c) : ∃ new,Src N w S k rows c.val new ∧ (∀ x,(blocksRows new).count x ≤ c.blocks.count x) ∧
    (∀ b cap k' e rs,c = .own b cap k' e rs → new = rs) := by
  cases hok with
  | nil st0 =>
    simp only [GC.cell,Cell.own.injEq] at hc
    obtain ⟨rfl,rfl⟩ := hc
    exact ⟨[],⟨rfl,by simp,by simp,none,0,rfl,fun h => absurd rfl h⟩,fun x => by simp [blocksRows],by simp⟩
  | own b cap st0 e rs cur hst hl hcp hr hb hs hcur hok' =>
    simp only [GC.cell,Cell.own.injEq] at hc
    obtain ⟨rfl,rfl⟩ := hc
    have hlen : ∀ r ∈ rs,r.length = st0 := fun r hr' => by
      obtain ⟨i,hi⟩ := List.mem_iff_getElem?.1 hr'
      exact hr i r hi
    refine ⟨rs,⟨rfl,hlen,fun r hr' c hc' => ?_,some ⟨b,0,none⟩,cap,rfl,fun _ => ⟨_,rfl,fun j g hj => ?_⟩⟩,fun x => by simp only [GC.blocks,List.count_cons]; omega,?_⟩
    · obtain ⟨i,hi⟩ := List.mem_iff_getElem?.1 hr'
      obtain ⟨j,hj⟩ := List.mem_iff_getElem?.1 hc'
      exact hok' i r j c hi hj
    · obtain ⟨i,r,j',h1,h2,h3,rfl⟩ := flatten_at rs hlen hj
      rw [add_addr,World.cell?,hb]
      simpa using hcur i r j' g h1 h2
    · intro b' cap' k' e' rs' h
      cases h; rfl
  | av v cv _ _ => simp [GC.cell] at hc
  | dead cv _ => simp [GC.cell] at hc
theorem allAv_mem : ∀ {cs : List Cell} {vs : List AV},allAv cs = some vs → cs = vs.map .av
  | [],vs,h => by simp [allAv] at h; subst h; rfl
  | c :: cs,vs,h => by
    cases c with
    | av v =>
      simp only [allAv] at h
      split at h
      · rename_i vs' hvs
        simp only [Option.some.injEq] at h; subst h
        rw [allAv_mem hvs]; rfl
      · cases h
    | own _ _ => simp [allAv] at h
    | dead => simp [allAv] at h
theorem av_rows {rows : List (List Cell)} {vs : List AV} (h : allAv rows.flatten = some vs) : (sealRows rows).map (·.map .av) = rows := by
  have hmem : ∀ r ∈ rows,∀ c ∈ r,∃ v,c = .av v := fun r hr c hc => by
    have : c ∈ rows.flatten := List.mem_flatten.2 ⟨r,hr,hc⟩
    rw [allAv_mem h,List.mem_map] at this
    obtain ⟨v,_,rfl⟩ := this
    exact ⟨v,rfl⟩
  rw [sealRows_eq,List.map_map]
  conv => rhs; rw [← List.map_id rows]
  refine List.map_congr_left fun r hr => ?_
  simp only [Function.comp,sealRow_eq,List.map_map,id]
  conv => rhs; rw [← List.map_id r]
  refine List.map_congr_left fun c hc => ?_
  obtain ⟨v,rfl⟩ := hmem r hr c hc
  rfl
theorem av_blocks {new : List (List GC)} {vs : List AV} (h : allAv (cellRows new).flatten = some vs) : blocksRows new = [] := by
  rw [blocksRows_eq,List.flatMap_eq_nil_iff]
  intro r hr
  rw [blocksRow_eq,List.flatMap_eq_nil_iff]
  intro c hc
  have : c.cell ∈ (cellRows new).flatten := List.mem_flatten.2 ⟨cellRow r,by rw [cellRows_eq]; exact List.mem_map_of_mem hr,by rw [cellRow_eq]; exact List.mem_map_of_mem hc⟩
  rw [allAv_mem h,List.mem_map] at this
  obtain ⟨v,_,e⟩ := this
  cases c <;> simp [GC.cell] at e <;> rfl
theorem ali_own (R : Rel N F S s st a w) {x : Opd} {y : Operand} (h : okO N x y = true) {k k' : Nat} {vrows : List (List AV)} {p : Place} (hv : st.opd x = .ali (.lst k vrows) (some p)) {rows : List (List Cell)}
    (hc : st.cells p 1 = some [.own k' rows]) : ∃ hh r c,s.loc p = some (hh,r) ∧ p.off + 1 ≤ r.length ∧ (r.drop p.off).take 1 = [c] ∧ c.cell = .own k' rows ∧ GC.ok N w S c ∧ a.eval y = c.val ∧ vrows = sealRows rows ∧ k = k' := by
  obtain ⟨n,cv,rfl,f1,f2⟩ := R.opd_ali h hv
  have hsl := R.inv.slot n
  rw [f1] at hsl
  obtain ⟨hh,r,n',g',l1,l2,l3,l4,l5⟩ := hsl
  have hg : g' = false := by
    cases g' with
    | false => rfl
    | true => simp [mkV] at l4
  subst hg
  have hn := l3 rfl
  subst hn
  obtain ⟨c,hcc⟩ := List.length_eq_one_iff.1 (show ((r.drop p.off).take 1).length = 1 by simp; omega)
  obtain ⟨hh2,r2,m1,m2,m3⟩ := cells_loc R.er hc
  rw [l1] at m1
  simp only [Option.some.injEq,Prod.mk.injEq] at m1
  obtain ⟨rfl,rfl⟩ := m1
  rw [hcc] at m3 l4 l5
  simp only [cellRow,List.cons.injEq,and_true] at m3
  have hok := R.inv.loc_ok l1 c (List.mem_of_mem_drop (List.mem_of_mem_take (show c ∈ (r.drop p.off).take 1 by rw [hcc]; simp)))
  simp only [cellRow,sealRow,mkV,Bool.false_eq_true,if_false,← m3,Cell.shut,AV.lst.injEq] at l4
  exact ⟨hh,r,c,l1,l2,hcc,m3.symm,hok,by rw [f2,l5]; rfl,l4.2,l4.1⟩
theorem append_done (R : Rel N F S s st a w) (hd : ∀ d,dst = some d → d ∉ F.roots) {t u ty e e' : TypeId} {i : TypeInfo} {z : Value} {k : Nat} (ht : P.underlying t = some (.slice e)) (hu : P.underlying u = some (.slice e')) (hi : P.info? e = some i) (hz : i.zero = some z)
    (hk : 0 < k) (hsz : i.size = k) (hzs : z.cells.size = k) (hby : i.bytes ≤ 32768)
    {c : GC} {base : List (List Cell)} (hc : c.cell = .own k base) (hok : GC.ok N w S c) {rows : List (List Cell)} {new : List (List GC)} {xv yv : Value} (hx : xv = c.val) (hy : Src N w S k rows yv new)
    (hlim : base.length + rows.length ≤ limit) (hf : Free F S s (blocksRows new ++ c.blocks)) {run : Result Next} (hrun : run = ((Builtin.append_ #[t,u] ty #[xv,yv]).run P w).andThen fun v w => .ok (.value v) w) :
    OpDone N F S st.hush a dst (.own [.own k (base ++ rows)] false) run := by
  obtain ⟨h1,h2,h3,ad,cp,rfl,h5⟩ := hy
  subst hx
  subst h1
  have hlen : (cellRows new).length = new.length := by simp [cellRows_eq]
  rw [hlen] at hlim
  have hbc : ∀ x,(c.blocks ++ blocksRows new).count x = (blocksRows new ++ c.blocks).count x := fun x => by simp only [List.count_append]; omega
  have hf' : Free F S s (c.blocks ++ blocksRows new) := hf.le fun x => by rw [hbc]; exact Nat.le_refl _
  obtain ⟨w',c',e1,e2,e3,e4,e5⟩ := append_run (P := P) (ty := ty) ht hu hi hz hk hsz hzs hby hc hok (cp := cp) h2 h3 h5 hlim hf'.nodup (fun x hx => (hf'.mine x (List.mem_append_left _ hx)).1) R.inv.imm
  have hlt : ∀ x ∈ c.blocks ++ blocksRows new,x < w.heap.size := fun x hx => by
    rcases List.mem_append.1 hx with h | h
    · exact hok.lt x h
    · rw [blocksRows_eq,List.mem_flatMap] at h
      obtain ⟨r,hr,hx⟩ := h
      exact (h3 r hr).lt x hx
  have hff := Free.fresh R hf' hlt
  have R' := (R.hush.appd s.hush_none (c := c) ⟨hf'.hush.nodup.sublist (List.sublist_append_left _ _),fun x hx q => hf'.hush.free x (List.mem_append_left _ hx) q,fun x hx => hf'.mine x (List.mem_append_left _ hx)⟩ e4)
  refine ⟨c'.val,w',S,s.hush,.own [c'] false,.inl (by rw [hrun,e1]; rfl),fun _ h => h,R',⟨by simp [GT.tv,cellRow,e2],rfl,⟨fun g hg => by rw [List.mem_singleton.1 hg]; exact e3,fun _ => ⟨_,rfl⟩⟩,?_,by simp [GT.place?],R'.unrooted hd (by simp [GT.place?])⟩⟩
  simp only [GT.blocks,blocksRow,List.append_nil]
  exact hff.hush.le e5
theorem okAppend {bytes k : Nat} {x y : Opd} (hok : okOp P N F.roots (.append bytes k x y) o = true) : ∃ x' y' t u e e' i z ty',o.op = .call { callee := .builtin .append,args := #[x',y'],argTypes := #[t,u] } ∧ o.type = ty' ∧
    okE N F.roots x x' = true ∧ okE N F.roots y y' = true ∧ P.underlying t = some (.slice e) ∧ P.underlying u = some (.slice e') ∧ P.info? e = some i ∧ i.zero = some z ∧ 0 < k ∧ i.size = k ∧ z.cells.size = k ∧ i.bytes ≤ 32768 := by
  simp only [okOp] at hok
  split at hok
  · rename_i args argTypes ho
    simp only [Bool.and_eq_true,decide_eq_true_eq] at hok
    obtain ⟨⟨h1,h2⟩,h3⟩ := hok
    split at h3
    · rename_i t u htu
      split at h3
      · rename_i e e' he he'
        simp only [Bool.and_eq_true,decide_eq_true_eq] at h3
        obtain ⟨h3,h4⟩ := h3
        split at h4
        · rename_i i hi
          simp only [Bool.and_eq_true,beq_iff_eq] at h4
          obtain ⟨⟨h4,h5⟩,h6⟩ := h4
          split at h6
          · rename_i z hz
            simp only [beq_iff_eq] at h6
            obtain ⟨x',y',hxy⟩ : ∃ x' y',args.toList = [x',y'] := by
              cases ha : args.toList with
              | nil => rw [ha] at h1; simp [okEs] at h1
              | cons x' l => cases l with
                | nil => rw [ha] at h1; simp [okEs] at h1
                | cons y' l => cases l with
                  | nil => exact ⟨_,_,rfl⟩
                  | cons _ _ => rw [ha] at h1; simp [okEs] at h1
            rw [hxy] at h1
            simp only [okEs,Bool.and_eq_true,and_true] at h1
            have ha : args = #[x',y'] := by rw [← Array.toArray_toList (xs := args),hxy]
            have hb : argTypes = #[t,u] := by rw [← Array.toArray_toList (xs := argTypes),htu]
            subst ha; subst hb
            exact ⟨x',y',t,u,e,e',i,z,_,ho,rfl,h1.1,h1.2,he,he',hi,hz,h3,h4,h6,by omega⟩
          · cases h6
        · cases h4
      · cases h3
    · cases h3
  · cases hok
theorem sim_append {bytes k : Nat} {x y : Opd} (R : Rel N F S s st a w) (hd : ∀ d,dst = some d → d ∉ F.roots) (hok : okOp P N F.roots (.append bytes k x y) o = true)
    (h : stepOp dst (.append bytes k x y) st = some (tv,st')) : OpDone N F S st' a dst tv ((execOp a.eval o).run P w) := by
  obtain ⟨x',y',t,u,e,e',i,z,ty',ho,hty,hx,hy,ht,hu,hi,hz,hk,hsz,hzs,hby⟩ := okAppend hok
  have hrun : (execOp a.eval o).run P w = ((Builtin.append_ #[t,u] o.type #[a.eval x',a.eval y']).run P w).andThen fun v w => .ok (.value v) w := by
    simp only [execOp,ho,resolve,invoke,builtin,Sem.run_bind,Sem.run_pure,Result.andThen_ok,List.map_toArray,List.map_cons,List.map_nil]
  -- the second half
  have fin : ∀ (s1 : GS) (st1 : St) (rows : List (List Cell)) (new : List (List GC)),Rel N F S s1 st1 a w → Src N w S k rows (a.eval y') new → Free F S s1 (blocksRows new) →
      (match st1.opd x with
      | .own [.own k' base] false =>
        if k' = k ∧ base.length + rows.length ≤ limit then some (TV.own [.own k (base ++ rows)] false,(x.eat st1).hush) else none
      | .ali (.lst _ _) (some p) => match st1.cells p 1 with
        | some [.own k' base] =>
          if k' = k ∧ base.length + rows.length ≤ limit then match st1.write p [.dead] with
            | some st2 => some (.own [.own k (base ++ rows)] false,st2.hush)
            | none => none
          else none
        | _ => none
      | _ => none) = some (tv,st') → OpDone N F S st' a dst tv ((execOp a.eval o).run P w) := by
    intro s1 st1 rows new R1 hsrc hfree h
    split at h
    · rename_i k' base hxo
      split at h
      · rename_i hkk
        obtain ⟨rfl,hlim⟩ := hkk
        simp only [Option.some.injEq,Prod.mk.injEq] at h
        obtain ⟨rfl,rfl⟩ := h
        obtain ⟨s2,gs,d1,d2,d3,d4,d5,d6,_⟩ := R1.ownF hx hxo
        obtain ⟨c,rfl⟩ := d4 rfl
        simp only [cellRow,List.cons.injEq,and_true] at d2
        refine append_done d1 hd ht hu hi hz hk hsz hzs hby d2 (d3 c (by simp)) (xv := a.eval x') (by rw [d5]; rfl) hsrc hlim ?_ hrun
        have := d6 _ hfree
        simpa only [blocksRow,List.append_nil] using this
      · cases h
    · rename_i k0 vr p hxo
      split at h
      · rename_i k' base hcl
        split at h
        · rename_i hkk
          obtain ⟨rfl,hlim⟩ := hkk
          split at h
          · rename_i st2 hw
            simp only [Option.some.injEq,Prod.mk.injEq] at h
            obtain ⟨rfl,rfl⟩ := h
            obtain ⟨hh,r,c,l1,l2,l3,l4,l5,l6,_,_⟩ := ali_own R1 (okE_okO hx).1 hxo hcl
            have W := WriteH.dead (F := F) R1.inv l1 l2
            have hw' : st1.write p (cellRow (((r.drop p.off).take 1).map fun c => GC.dead c.val)) = some st2 := by rw [l3]; exact hw
            obtain ⟨d1,d2⟩ := R1.write W hw'
            have hfw := Free.write W (l := blocksRows new) (by rw [l3]; simpa [blocksRow,GC.blocks] using hfree) d2
            rw [l3] at hfw
            simp only [List.map_cons,List.map_nil,List.length_cons,List.length_nil,Nat.zero_add,l3,blocksRow,List.append_nil] at hfw
            rw [l3] at d1
            exact append_done d1 hd ht hu hi hz hk hsz hzs hby l4 l5 l6 hsrc hlim hfw hrun
          · cases h
        · cases h
      · cases h
    · cases h
  simp only [stepOp,appNew] at h
  split at h
  · cases h
  · rename_i rows st1 hnew
    split at hnew
    · rename_i k' vrows hyo
      split at hnew
      · rename_i hkk
        subst hkk
        simp only [Option.some.injEq,Prod.mk.injEq] at hnew
        obtain ⟨rfl,rfl⟩ := hnew
        obtain ⟨new,h1,h2⟩ := VR.src (R.opd_av (okE_okO hy).1 hyo)
        exact fin s st _ new R h1 (by rw [h2]; exact Free.nil) h
      · cases hnew
    · rename_i k' nn hyo
      split at hnew
      · rename_i hkk
        subst hkk
        simp only [Option.some.injEq,Prod.mk.injEq] at hnew
        obtain ⟨rfl,rfl⟩ := hnew
        exact fin s st _ [] R (VR.srcE (R.opd_av (okE_okO hy).1 hyo)) Free.nil h
      · cases hnew
    · rename_i k' rows' hyo
      split at hnew
      · rename_i hkk
        subst hkk
        simp only [Option.some.injEq,Prod.mk.injEq] at hnew
        obtain ⟨rfl,rfl⟩ := hnew
        obtain ⟨s1,gs,d1,d2,d3,d4,d5,d6⟩ := R.own hy hyo
        obtain ⟨c,rfl⟩ := d4 rfl
        simp only [cellRow,List.cons.injEq,and_true] at d2
        obtain ⟨new,h1,h2,_⟩ := GC.src d2 (d3 c (by simp))
        refine fin s1 _ _ new d1 ?_ (d6.le fun x => ?_) h
        · rw [d5]; exact h1
        · simpa [blocksRow] using h2 x
      · cases hnew
    · rename_i k0 vrows p hyo
      split at hnew
      · rename_i k' rs hcl
        split at hnew
        · rename_i hkk
          subst hkk
          split at hnew
          · rename_i vs hvs
            simp only [Option.some.injEq,Prod.mk.injEq] at hnew
            obtain ⟨rfl,rfl⟩ := hnew
            obtain ⟨hh,r,c,l1,l2,l3,l4,l5,l6,l7,_⟩ := ali_own R (okE_okO hy).1 hyo hcl
            obtain ⟨new,h1,h2,_⟩ := GC.src l4 l5
            have hr : vrows.map (·.map Cell.av) = rs := by rw [l7]; exact av_rows hvs
            refine fin s st _ new R ?_ ?_ h
            · rw [hr,l6]; exact h1
            · have : blocksRows new = [] := av_blocks (vs := vs) (by rw [h1.cells]; exact hvs)
              rw [this]; exact Free.nil
          · cases hnew
        · cases hnew
      · cases hnew
    · cases hnew
theorem appR_own {k : Nat} {x y : Opd} (h : appR st k x y = some (tv,st')) : ∃ cs,tv = .own cs false := by
  simp only [appR] at h
  repeat' split at h
  all_goals first
    | cases h; done
    | (simp only [Option.some.injEq,Prod.mk.injEq] at h; exact ⟨_,h.1.symm⟩)
theorem sim_appendR {bytes k : Nat} {x y : Opd} (R : Rel N F S s st a w) (hok : okOp P N F.roots (.appendR bytes k x y) o = true)
    (h : stepOp dst (.appendR bytes k x y) st = some (tv,st')) : OpDone N F S st' a dst tv ((execOp a.eval o).run P w) := by
  simp only [stepOp] at h
  split at h
  · cases h
  · rename_i d
    split at h
    · rename_i v st1 hv
      simp only [Option.some.injEq,Prod.mk.injEq] at h
      obtain ⟨rfl,rfl⟩ := h
      obtain ⟨cs,rfl⟩ := appR_own hv
      obtain ⟨cv,w',S',s',g,h1,h2,R',p⟩ := sim_append (dst := none) (bytes := bytes) R (fun _ e => by cases e) hok (hv : stepOp none (.append bytes k x y) st = _)
      have hok' := p.ok
      obtain ⟨gs,rfl,hgs⟩ := GT.of_own p.tv
      refine ⟨cv,w',S',s'.un (.slot d),.own gs false,h1,h2,R'.un (.slot d),⟨p.tv,p.val,p.ok,p.free.un _,by simp [GT.place?],?_⟩⟩
      intro d' e; cases e
      exact ⟨fun j q _ hq => s'.un_free _ j q hq,by simp [GT.place?]⟩
    · cases h
end
end Hm
/- Variables that nobody writes any more. Conditions: none (plain lemmas). -/
namespace Hm
open Go
theorem getB_filter (k : Nat) (l : Nat → Option (List Cell)) (j : Nat) : getB (upd l k none) j = if j = k then none else getB l j := rfl
section
variable {P : Program} {N : Nm} {F : Fx} {S : Nat → Prop} {s : GS} {st st' : St} {a : Act} {w w' : World} {dst : Option Nat} {o : Oper} {tv : TV}
def GS.unbox (s : GS) (k : Nat) : GS := ⟨(s.un (.box k)).γ,upd s.β k none⟩
theorem GS.unbox_root (s : GS) (k : Nat) {q : Root} (h : q ≠ .box k) : (s.unbox k).root q = s.root q := by
  cases q with
  | box j => have : j ≠ k := fun e => h (by rw [e])
             simp only [GS.root,GS.unbox,upd_ne _ _ this]
  | slot j => exact unG_own (.box k) (s.γ j)
theorem GS.unbox_loc (s : GS) (k : Nat) {p : Place} (h : p.root ≠ .box k) : (s.unbox k).loc p = s.loc p := by simp only [GS.loc,s.unbox_root k h]
theorem GS.unbox_fp (s : GS) (k : Nat) {q : Root} (h : q ≠ .box k) : (s.unbox k).fp q = s.fp q := by
  cases q with
  | box j => have : j ≠ k := fun e => h (by rw [e])
             simp only [GS.fp,GS.unbox,upd_ne _ _ this]
  | slot j => exact unG_blocks (.box k) (s.γ j)
theorem GS.unbox_fp_same (s : GS) (k : Nat) : (s.unbox k).fp (.box k) = [] := by simp [GS.fp,GS.unbox]
theorem GT.ok_mono {t : GT} {S' : Nat → Prop} (h : t.ok N w S s) (hS : ∀ x,S x → S' x) : t.ok N w S' s := by
  cases t with
  | av v cv => exact VR.mono (fun _ _ => rfl) hS h
  | own gs g => exact ⟨fun c hc => (h.1 c hc).mono (fun _ _ => rfl) hS fun _ _ => rfl,h.2⟩
  | ali v p cv => cases p with
    | none => exact h
    | some p => exact h
  | plc p ad => exact h
  | hd p l ad => exact h
  | tup l vs => exact ⟨h.1,fun i gs g hi => ⟨(h.2 i gs g hi).1,fun c hc => ((h.2 i gs g hi).2.1 c hc).mono (fun _ _ => rfl) hS fun _ _ => rfl,(h.2 i gs g hi).2.2⟩⟩
  | skp => trivial
  | und cv => trivial
theorem Rel.freezeL (R : Rel N F S s st a w) {l : List Nat} (hf : Free F S s l) (hlt : ∀ x ∈ l,x < w.heap.size) : Rel N F (fun x => S x ∨ x ∈ l) s st a w := by
  refine ⟨⟨fun k => GT.ok_mono (R.inv.slot k) fun _ => .inl,fun k b e gs hb => ?_,R.inv.nodup,R.inv.apart,fun r x hx => ⟨fun h => ?_,(R.inv.mine r x hx).2⟩,fun x hx => ?_,R.inv.frm,R.inv.rooted,fun x hx => (R.inv.glob x hx).mono (fun _ _ => rfl) fun _ => .inl⟩,R.er,R.tmp,R.size,R.dfr⟩
  · obtain ⟨h1,h2⟩ := R.inv.box k b e gs hb
    exact ⟨h1,fun c hc => (h2 c hc).mono (fun _ _ => rfl) (fun _ => .inl) fun _ _ => rfl⟩
  · rcases h with h | h
    · exact (R.inv.mine r x hx).1 h
    · exact hf.free x h r hx
  · rcases hx with h | h
    · exact R.inv.immB x h
    · exact ⟨hlt x h,.inr (hf.mine x h).2⟩
theorem Rel.unbox (R : Rel N F S s st a w) {k b : Nat} {e : TypeId} {gs : List GC} (hb : s.β k = some (b,e,gs)) :
    Rel N F S (s.unbox k) ⟨unE (.box k) st.env,upd st.boxes k none⟩ a w ∧ Free F S (s.unbox k) (b :: blocksRow gs) := by
  have R1 := R.un (.box k)
  have hfp : s.fp (.box k) = b :: blocksRow gs := by simp only [GS.fp,hb]
  refine ⟨⟨⟨fun j => ?_,fun j b' e' gs' hb' => ?_,fun q => ?_,fun q q' x hx hx' => ?_,fun q x hx => ?_,R.inv.immB,R.inv.frm,R1.inv.rooted,R.inv.glob⟩,⟨R1.er.env,fun j => ?_⟩,R1.tmp,R1.size,R1.dfr⟩,?_⟩
  · refine GT.ok_of_loc (R1.inv.slot j) fun p hp => ?_
    rw [s.un_loc,s.unbox_loc k (s.un_free (.box k) j p hp)]
  · by_cases h : j = k
    · subst h; simp [GS.unbox] at hb'
    · simp only [GS.unbox,upd_ne _ _ h] at hb'
      exact R.inv.box j b' e' gs' hb'
  · by_cases h : q = .box k
    · subst h; rw [s.unbox_fp_same]; exact List.nodup_nil
    · rw [s.unbox_fp k h]; exact R.inv.nodup q
  · by_cases h : q = .box k
    · subst h; rw [s.unbox_fp_same] at hx; cases hx
    · by_cases h' : q' = .box k
      · subst h'; rw [s.unbox_fp_same] at hx'; cases hx'
      · rw [s.unbox_fp k h] at hx; rw [s.unbox_fp k h'] at hx'; exact R.inv.apart q q' x hx hx'
  · by_cases h : q = .box k
    · subst h; rw [s.unbox_fp_same] at hx; cases hx
    · rw [s.unbox_fp k h] at hx; exact R.inv.mine q x hx
  · show _ = getB (upd st.boxes k none) j
    rw [getB_filter,← R.er.box j]
    by_cases h : j = k
    · subst h; simp [GS.unbox]
    · simp only [GS.unbox,upd_ne _ _ h,if_neg h]
  · refine ⟨by rw [← hfp]; exact R.inv.nodup _,fun x hx q hx' => ?_,fun x hx => R.inv.mine (.box k) x (by rw [hfp]; exact hx)⟩
    by_cases h : q = .box k
    · subst h; rw [s.unbox_fp_same] at hx'; cases hx'
    · rw [s.unbox_fp k h] at hx'
      exact h (R.inv.apart q (.box k) x hx' (by rw [hfp]; exact hx))
theorem Rel.freeze (R : Rel N F S s st a w) {n k : Nat} {cs : List Cell} (hn : n ∉ F.roots) (hx : getE st.env n = .plc ⟨.box k,[],0⟩) (hb : getB st.boxes k = some cs) :
    ∃ S' s',(∀ x,S x → S' x) ∧ Rel N F S' s' (st.freeze n k cs) a w ∧ VR N w S' (.vptr (sealRow cs)) (a.eval (.tmp n)) := by
  have he := R.er.box k
  rw [hb] at he
  cases hβ : s.β k with
  | none => simp [hβ] at he
  | some y =>
    obtain ⟨b,e,gs⟩ := y
    simp only [hβ,Option.some.injEq] at he
    subst he
    have hγ : (s.γ n).tv = .plc ⟨.box k,[],0⟩ := by rw [R.er.env n,hx]
    obtain ⟨ad,hγ⟩ := GT.of_plc hγ
    have hok := R.inv.slot n
    rw [hγ] at hok
    obtain ⟨b',base,r,l1,l2,l3⟩ := hok
    simp only [GS.loc,GS.root,hβ,locRow,Option.map_some,Option.some.injEq,Prod.mk.injEq] at l1
    obtain ⟨⟨rfl,rfl⟩,rfl⟩ := l1
    obtain ⟨h1,h2⟩ := R.inv.box k b e gs hβ
    obtain ⟨R1,f1⟩ := R.unbox hβ
    have hlt : ∀ x ∈ b :: blocksRow gs,x < w.heap.size := fun x hx => R.inv.fp_lt (.box k) x (by simp only [GS.fp,hβ]; exact hx)
    have R2 := R1.freezeL f1 hlt
    have hv : VR N w (fun x => S x ∨ x ∈ b :: blocksRow gs) (.vptr (sealRow (cellRow gs))) (.pointer (some ⟨b,0,none⟩)) := by
      have key : ∀ (j : Nat) (x : AV),(sealRow (cellRow gs))[j]? = some x → ∃ c,gs[j]? = some c ∧ x = c.cell.shut := fun j x hj => by
        rw [sealRow_eq,cellRow_eq,List.map_map,List.getElem?_map,Option.map_eq_some_iff] at hj
        obtain ⟨c,hc,rfl⟩ := hj
        exact ⟨c,hc,rfl⟩
      refine .vptr _ _ (fun j => (gs[j]?.getD default).val) (fun _ => .inr (by simp)) rfl (fun j x hj => ?_) (fun j x hj => ?_) fun j x hj => ?_
      · obtain ⟨c,hc,rfl⟩ := key j x hj
        simp [World.cell?,h1,hc]
      · obtain ⟨c,hc,rfl⟩ := key j x hj
        simp only [hc,Option.getD_some]
        exact (h2 c (List.mem_of_getElem? hc)).one
      · obtain ⟨c,hc,rfl⟩ := key j x hj
        simp only [hc,Option.getD_some]
        exact (h2 c (List.mem_of_getElem? hc)).view (fun _ => .inl) fun x hx => .inr (List.mem_cons_of_mem _ (mem_blocksRow hc hx))
    have hval : a.eval (.tmp n) = .pointer (some ⟨b,0,none⟩) := by
      simp only [Act.eval,R.tmp n,hγ,GT.val,l3]
    have hval2 : ((s.unbox k).γ n).val = .pointer (some ⟨b,0,none⟩) := by rw [← R1.tmp n]; exact hval
    refine ⟨_,(s.unbox k).put n (.av (.vptr (sealRow (cellRow gs))) (.pointer (some ⟨b,0,none⟩))),fun _ => .inl,⟨R2.inv.put_plain hv rfl (by simp [GT.place?]) hn,⟨fun j => ?_,R2.er.box⟩,fun j => ?_,R2.size,R2.dfr⟩,by rw [hval]; exact hv⟩
    · show _ = getE (upd (unE (.box k) st.env) n (.av (.vptr (sealRow (cellRow gs))))) j
      rw [getE_upd]
      by_cases h : j = n
      · subst h; rw [GS.put_γ,if_pos rfl]; rfl
      · rw [GS.put_γ_ne _ _ h,if_neg fun e => h e.symm]; exact R1.er.env j
    · by_cases h : j = n
      · subst h; rw [GS.put_γ]; exact hval
      · rw [GS.put_γ_ne _ _ h]; exact R1.tmp j
theorem sim_asgs {x : Opd} (R : Rel N F S s st a w) (hd : ∀ d,dst = some d → d ∉ F.roots) (hok : okOp P N F.roots (.asgs x) o = true)
    (h : stepOp dst (.asgs x) st = some (tv,st')) : PureDone P N F S st' a w dst tv (execOp a.eval o) := by
  simp only [okOp] at hok
  split at hok
  · rename_i y ho
    have hrun : ∀ w',(execOp a.eval o).run P w' = .ok (.value (a.eval y)) w' := fun w' => by simp only [execOp,ho]; rfl
    obtain ⟨h0,hroot⟩ := okE_okO hok
    simp only [stepOp] at h
    cases hx : st.opd x with
    | av v =>
      simp only [hx,Option.some.injEq,Prod.mk.injEq] at h
      obtain ⟨rfl,rfl⟩ := h
      exact R.done_av hd hrun (R.opd_av h0 hx)
    | own cs g =>
      simp only [hx,Option.some.injEq,Prod.mk.injEq] at h
      obtain ⟨rfl,rfl⟩ := h
      obtain ⟨s',gs,d1,rfl,d3,d4,d5,d6⟩ := R.own hok hx
      have hv : VR N w (fun x => S x ∨ x ∈ blocksRow gs) (mkV g (sealRow (cellRow gs))) (a.eval y) := by
        rw [d5]; exact view_cval d3 d4 (fun _ h => .inl h) fun _ h => .inr h
      have hlt : ∀ b ∈ blocksRow gs,b < w.heap.size := fun b hb => d3.lt b hb
      have R' := d1.freezeL d6 hlt
      exact ⟨_,_,s',.av (mkV g (sealRow (cellRow gs))) (a.eval y),hrun,fun _ h => .inl h,R',⟨rfl,rfl,hv,Free.nil,by simp [GT.place?],R'.unrooted hd (by simp [GT.place?])⟩⟩
    | _ => simp [hx] at h
  · cases hok
theorem sim_mki' {t : Nat} {x : Opd} (R : Rel N F S s st a w) (hd : ∀ d,dst = some d → d ∉ F.roots) (hok : okOp P N F.roots (.mki t x) o = true)
    (h : stepOp dst (.mki t x) st = some (tv,st')) : PureDone P N F S st' a w dst tv (execOp a.eval o) := by
  simp only [stepOp] at h
  split at h
  · rename_i v hv
    simp only [Option.some.injEq,Prod.mk.injEq] at h
    obtain ⟨rfl,rfl⟩ := h
    exact sim_mki R hd hok hv
  · rename_i k hp
    split at h
    · rename_i n cs hb
      simp only [Option.some.injEq,Prod.mk.injEq] at h
      obtain ⟨rfl,rfl⟩ := h
      simp only [okOp] at hok
      split at hok
      · rename_i u y ho
        simp only [Bool.and_eq_true,beq_iff_eq] at hok
        obtain ⟨⟨rfl,hu⟩,hy⟩ := hok
        obtain ⟨h0,hroot⟩ := okE_okO hy
        obtain ⟨S',s',e1,e2,e3⟩ := R.freeze (hroot n rfl) hp hb
        have hye : y = .tmp n := by
          unfold okO at h0
          split at h0 <;> simp_all
        subst hye
        refine ⟨_,S',s',.av (.iface t (.vptr (sealRow cs))) (.iface (N.t t) (a.eval (.tmp n))),fun w' => ?_,e1,e2,⟨rfl,rfl,.iface t _ _ e3,by simpa [GT.blocks] using Free.nil,by simp [GT.place?],e2.unrooted hd (by simp [GT.place?])⟩⟩
        simp only [execOp,ho]
        cases hu' : P.underlying (N.t t) with
        | none => simp [hu'] at hu
        | some d => cases d <;> simp [hu'] at hu <;> simp [Instr.makeInterface,run_underlying hu',GT.val]
      · cases hok
    · cases h
  · cases h
theorem avs_ok (R : Rel N F S s st a w) {xs : List Opd} {ys : List Operand} {vs : List AV} (h : okOs N xs ys = true) (hv : avs st xs = some vs) :
    vs.length = ys.length ∧ ∀ (j : Nat) (v : AV) (y : Operand),vs[j]? = some v → ys[j]? = some y → VR N w S v (a.eval y) := rds_ok R h hv
theorem caps_ok : ∀ {xs : List Opd} {ys : List Operand} {S : Nat → Prop} {s : GS} {st st' : St} {vs : List AV},Rel N F S s st a w → okEs N F.roots xs ys = true → caps st xs = some (vs,st') →
    ∃ S' s',(∀ x,S x → S' x) ∧ Rel N F S' s' st' a w ∧ vs.length = ys.length ∧ ∀ (j : Nat) (v : AV) (y : Operand),vs[j]? = some v → ys[j]? = some y → VR N w S' v (a.eval y)
  | [],[],S,s,st,st',vs,R,_,h => by
    simp only [caps,Option.some.injEq,Prod.mk.injEq] at h
    obtain ⟨rfl,rfl⟩ := h
    exact ⟨S,s,fun _ h => h,R,rfl,by simp⟩
  | [],_ :: _,_,_,_,_,_,_,h,_ => by simp [okEs] at h
  | _ :: _,[],_,_,_,_,_,_,h,_ => by simp [okEs] at h
  | x :: xs,y :: ys,S,s,st,st',vs,R,hok,h => by
    simp only [okEs,Bool.and_eq_true] at hok
    simp only [caps] at h
    split at h
    · rename_i v hv
      split at h
      · rename_i vs' st1 hc
        simp only [Option.some.injEq,Prod.mk.injEq] at h
        obtain ⟨rfl,rfl⟩ := h
        have e1 := R.opd_av (okE_okO hok.1).1 hv
        obtain ⟨S',s',h1,h2,h3,h4⟩ := caps_ok R hok.2 hc
        refine ⟨S',s',h1,h2,by simp [h3],fun j v' y' hj hy => ?_⟩
        cases j with
        | zero => simp at hj hy; subst hj; subst hy; exact e1.mono (fun _ _ => rfl) h1
        | succ j => exact h4 j v' y' (by simpa using hj) (by simpa using hy)
      · cases h
    · rename_i k hp
      split at h
      · rename_i n cs hb
        split at h
        · rename_i vs' st1 hc
          simp only [Option.some.injEq,Prod.mk.injEq] at h
          obtain ⟨rfl,rfl⟩ := h
          obtain ⟨h0,hroot⟩ := okE_okO hok.1
          obtain ⟨S1,s1,e1,e2,e3⟩ := R.freeze (hroot n rfl) hp hb
          have hye : y = .tmp n := by
            unfold okO at h0
            split at h0 <;> simp_all
          subst hye
          obtain ⟨S',s',h1,h2,h3,h4⟩ := caps_ok e2 hok.2 hc
          refine ⟨S',s',fun x hx => h1 x (e1 x hx),h2,by simp [h3],fun j v' y' hj hy => ?_⟩
          cases j with
          | zero => simp at hj hy; subst hj; subst hy; exact e3.mono (fun _ _ => rfl) h1
          | succ j => exact h4 j v' y' (by simpa using hj) (by simpa using hy)
        · cases h
      · cases h
    · cases h
theorem sim_mkf {f : Nat} {first cs : List Opd} (R : Rel N F S s st a w) (hd : ∀ d,dst = some d → d ∉ F.roots) (hok : okOp P N F.roots (.mkf f first cs) o = true)
    (h : stepOp dst (.mkf f first cs) st = some (tv,st')) : PureDone P N F S st' a w dst tv (execOp a.eval o) := by
  simp only [okOp] at hok
  split at hok
  · rename_i g fs vs ho
    simp only [Bool.and_eq_true,beq_iff_eq] at hok
    obtain ⟨⟨rfl,h1⟩,h2⟩ := hok
    simp only [stepOp] at h
    split at h
    · rename_i us hus
      split at h
      · rename_i ks st1 hks
        simp only [Option.some.injEq,Prod.mk.injEq] at h
        obtain ⟨rfl,rfl⟩ := h
        obtain ⟨a1,a2⟩ := avs_ok R h1 hus
        obtain ⟨S',s',b1,b2,b3,b4⟩ := caps_ok R h2 hks
        refine ⟨_,S',s',.av (.clo f us ks) (.func (.func (N.f f)) (fs.map a.eval) (vs.map a.eval)),fun w' => ?_,b1,b2,⟨rfl,rfl,?_,by simpa [GT.blocks] using Free.nil,by simp [GT.place?],b2.unrooted hd (by simp [GT.place?])⟩⟩
        · simp only [execOp,ho,Instr.makeFunc]; rfl
        · refine .clo f us ks _ _ (by simpa using a1) (by simpa using b3) (fun j x v hx hv => ?_) fun j x v hx hv => ?_
          · simp only [Array.getElem?_map,Option.map_eq_some_iff] at hv
            obtain ⟨y,hy,rfl⟩ := hv
            exact (a2 j x y hx (by simpa using hy)).mono (fun _ _ => rfl) b1
          · simp only [Array.getElem?_map,Option.map_eq_some_iff] at hv
            obtain ⟨y,hy,rfl⟩ := hv
            exact b4 j x y hx (by simpa using hy)
      · cases h
    · cases h
  · cases hok
end
end Hm
/- Structs and slices, built. Conditions: none (plain lemmas). -/
namespace Hm
open Go
theorem fold_set (off : Nat) : ∀ (vs : List Value) (k0 : Nat) (cs : Array Value),((vs.zipIdx k0).foldl (fun cs (x : Value × Nat) => cs.setIfInBounds (off + x.2) x.1) cs).size = cs.size ∧
    ∀ i,((vs.zipIdx k0).foldl (fun cs (x : Value × Nat) => cs.setIfInBounds (off + x.2) x.1) cs)[i]? = if off + k0 ≤ i ∧ i < off + k0 + vs.length ∧ i < cs.size then vs[i - (off + k0)]? else cs[i]?
  | [],k0,cs => ⟨rfl,fun i => by
      have : ¬ (off + k0 ≤ i ∧ i < off + k0 + ([] : List Value).length ∧ i < cs.size) := by simp; omega
      rw [if_neg this]; rfl⟩
  | v :: vs,k0,cs => by
    simp only [List.zipIdx_cons,List.foldl_cons]
    obtain ⟨h1,h2⟩ := fold_set off vs (k0 + 1) (cs.setIfInBounds (off + k0) v)
    refine ⟨by rw [h1]; simp,fun i => ?_⟩
    rw [h2,Array.size_setIfInBounds,Array.getElem?_setIfInBounds]
    by_cases c1 : i < cs.size
    · by_cases c2 : off + k0 = i
      · subst c2
        rw [if_neg (by omega),if_pos rfl,if_pos c1,if_pos ⟨Nat.le_refl _,by simp,c1⟩]
        simp
      · by_cases c3 : off + (k0 + 1) ≤ i ∧ i < off + (k0 + 1) + vs.length ∧ i < cs.size
        · rw [if_pos c3,if_pos ⟨by omega,by simp; omega,c1⟩]
          rw [show i - (off + k0) = (i - (off + (k0 + 1))) + 1 by omega,List.getElem?_cons_succ]
        · rw [if_neg c3,if_neg c2,if_neg]
          simp only [List.length_cons]
          omega
    · have hR : ¬(off + k0 ≤ i ∧ i < off + k0 + (v :: vs).length ∧ i < cs.size) := by omega
      rw [if_neg (by omega),if_neg hR]
      split
      · rename_i c2; subst c2; rw [if_neg c1,Array.getElem?_eq_none (by omega)]
      · rfl
theorem fold_cells {v : Value} {gs zs : List GC} {off : Nat} (hv : v.cells.toList = gs.map GC.val) (hl : off + gs.length ≤ zs.length) :
    v.cells.zipIdx.foldl (fun cs (c,j) => cs.setIfInBounds (off + j) c) (zs.map GC.val).toArray = ((zs.take off ++ gs ++ zs.drop (off + gs.length)).map GC.val).toArray := by
  rw [← Array.foldl_toList,Array.toList_zipIdx,hv]
  obtain ⟨h1,h2⟩ := fold_set off (gs.map GC.val) 0 (zs.map GC.val).toArray
  apply Array.ext_getElem?
  intro i
  refine (h2 i).trans ?_
  simp only [Nat.add_zero,List.length_map,List.size_toArray,List.getElem?_toArray,List.getElem?_map]
  rw [splice_get off gs zs hl]
  by_cases c1 : i < off
  · rw [if_neg (by omega),if_pos c1]
  · rw [if_neg c1]
    by_cases c2 : i < off + gs.length
    · rw [if_pos ⟨by omega,c2,by omega⟩,if_pos c2]
    · rw [if_neg (by omega),if_neg c2]
section
variable {P : Program} {N : Nm} {F : Fx} {S : Nat → Prop} {s : GS} {st st' : St} {a : Act} {w w' : World} {dst : Option Nat} {o : Oper} {tv : TV}
def Parts (a : Act) (place : Nat → Option (Nat × Nat)) : List (Nat × List GC) → List (Nat × Operand) → Prop
  | [],[] => True
  | (o,gs) :: r,(i,y) :: q => place i = some (o,gs.length) ∧ (a.eval y).cells.toList = gs.map GC.val ∧ Parts a place r q
  | _,_ => False
theorem gives_ok {place : Nat → Option (Nat × Nat)} : ∀ {parts : List (Nat × Nat × Opd)} {ys : List (Nat × Operand)} {s : GS} {st st' : St} {l : List (Nat × List Cell)},Rel N F S s st a w →
    okParts N F.roots place parts ys = true → gives st parts = some (l,st') →
    ∃ s' L,Rel N F S s' st' a w ∧ l = L.map (fun p => (p.1,cellRow p.2)) ∧ (∀ p ∈ L,AllOk N w S p.2) ∧ (∀ l0,Free F S s l0 → Free F S s' (l0 ++ L.flatMap fun p => blocksRow p.2)) ∧ Parts a place L ys
  | [],[],s,st,st',l,R,_,h => by
    simp only [gives,Option.some.injEq,Prod.mk.injEq] at h
    obtain ⟨rfl,rfl⟩ := h
    exact ⟨s,[],R,rfl,by simp,fun l0 h => by simpa using h,trivial⟩
  | [],_ :: _,_,_,_,_,_,h,_ => by simp [okParts] at h
  | _ :: _,[],_,_,_,_,_,h,_ => by simp [okParts] at h
  | (o,n,x) :: parts,(i,y) :: ys,s,st,st',l,R,hok,h => by
    simp only [okParts,Bool.and_eq_true] at hok
    obtain ⟨⟨h1,h2⟩,h3⟩ := hok
    simp only [gives] at h
    split at h
    · rename_i cs g hg
      split at h
      · rename_i hl
        split at h
        · rename_i l1 st1 hgs
          simp only [Option.some.injEq,Prod.mk.injEq] at h
          obtain ⟨rfl,rfl⟩ := h
          obtain ⟨s1,gs,d1,rfl,d3,d4,d5,d6,d7⟩ := R.giveF h2 hg
          obtain ⟨s',L,e1,rfl,e3,e4,e5⟩ := gives_ok d1 h3 hgs
          rw [cellRow_length] at hl
          refine ⟨s',(o,gs) :: L,e1,rfl,fun p hp => ?_,fun l0 hl0 => ?_,?_,d7,e5⟩
          · rcases List.mem_cons.1 hp with rfl | hp
            · exact d3
            · exact e3 p hp
          · have := e4 _ (d6 _ hl0)
            simpa only [List.flatMap_cons,List.append_assoc] using this
          · split at h1
            · rename_i o' n' hpl
              simp only [Bool.and_eq_true,beq_iff_eq] at h1
              rw [hpl,h1.1,h1.2,hl]
            · cases h1
        · cases h
      · cases h
    · cases h
theorem fill_ok {place : Nat → Option (Nat × Nat)} : ∀ {L : List (Nat × List GC)} {ys : List (Nat × Operand)} {zs : List GC} {cs : List Cell},Parts a place L ys → fillC (cellRow zs) (L.map fun p => (p.1,cellRow p.2)) = some cs →
    ∃ zs',cs = cellRow zs' ∧ Instr.fill place (zs.map GC.val).toArray (ys.map fun p => (p.1,a.eval p.2)) = some (zs'.map GC.val).toArray ∧ zs'.length = zs.length ∧ (∀ c ∈ zs',c ∈ zs ∨ ∃ p ∈ L,c ∈ p.2) ∧
      ∀ x,(blocksRow zs').count x ≤ (blocksRow zs).count x + (L.flatMap fun p => blocksRow p.2).count x
  | [],[],zs,cs,_,h => by
    simp only [List.map_nil,fillC,Option.some.injEq] at h
    exact ⟨zs,h.symm,rfl,rfl,fun c hc => .inl hc,fun x => by simp⟩
  | [],_ :: _,_,_,h,_ => h.elim
  | _ :: _,[],_,_,h,_ => by simp [Parts] at h
  | (o,gs) :: L,(i,y) :: ys,zs,cs,hp,h => by
    simp only [Parts] at hp
    obtain ⟨h1,h2,h3⟩ := hp
    simp only [List.map_cons,fillC] at h
    split at h
    · rename_i cs1 hsp
      unfold splice at hsp
      split at hsp
      · rename_i hl
        simp only [Option.some.injEq] at hsp
        simp only [cellRow_length] at hl hsp
        have e1 : cs1 = cellRow (zs.take o ++ gs ++ zs.drop (o + gs.length)) := by
          rw [← hsp,cellRow_append,cellRow_append,cellRow_take,cellRow_drop]
        subst e1
        obtain ⟨zs',f1,f2,f3,f4,f5⟩ := fill_ok h3 h
        have hsz : (a.eval y).cells.size = gs.length := by rw [← Array.length_toList,h2,List.length_map]
        refine ⟨zs',f1,?_,by rw [f3]; simp; omega,fun c hc => ?_,fun x => ?_⟩
        · simp only [List.map_cons,Instr.fill,h1]
          rw [if_neg (by simp [hsz]; omega),fold_cells h2 hl]
          exact f2
        · rcases f4 c hc with h | ⟨p,hp,h⟩
          · simp only [List.mem_append] at h
            rcases h with (h | h) | h
            · exact .inl (List.mem_of_mem_take h)
            · exact .inr ⟨(o,gs),by simp,h⟩
            · exact .inl (List.mem_of_mem_drop h)
          · exact .inr ⟨p,List.mem_cons_of_mem _ hp,h⟩
        · have := f5 x
          have := count_splice_eq x o gs zs hl
          simp only [List.flatMap_cons,List.count_append]
          omega
      · cases hsp
    · cases h
theorem ofCells_pure (R : Rel N F S s st a w) (hd : ∀ d,dst = some d → d ∉ F.roots) {gs : List GC} {g : Bool} (hok : AllOk N w S gs) (hg : g = false → ∃ c,gs = [c]) (hf : Free F S s (blocksRow gs)) {m : Sem Next}
    (hrun : ∀ w',m.run P w' = .ok (.value (cval g gs)) w') : PureDone P N F S st a w dst (TV.ofCells g (cellRow gs)) m := by
  unfold TV.ofCells
  split
  · rename_i vs hvs
    exact R.done_av hd hrun (cval_av hvs hok hg)
  · exact ⟨_,S,s,.own gs g,hrun,fun _ h => h,R,⟨rfl,rfl,⟨hok,hg⟩,hf,by simp [GT.place?],R.unrooted hd (by simp [GT.place?])⟩⟩
theorem mapM_run {fields : List Field} (h : ∀ f ∈ fields,(tySize P f.type).isSome = true) (w : World) :
    ∃ l,(fields.mapM fun f => do pure (f.offset,← Go.sizeOf f.type) : Sem _).run P w = .ok l w ∧ ∀ i : Nat,l[i]? = match fields[i]? with | some f => (match tySize P f.type with | some n => some (f.offset,n) | none => none) | none => none := by
  induction fields with
  | nil => exact ⟨[],rfl,by simp⟩
  | cons f fs ih =>
    obtain ⟨l,h1,h2⟩ := ih fun f hf => h f (List.mem_cons_of_mem _ hf)
    obtain ⟨n,hn⟩ := Option.isSome_iff_exists.1 (h f (by simp))
    refine ⟨(f.offset,n) :: l,?_,fun i => ?_⟩
    · rw [List.mapM_cons]
      simp only [Sem.run_bind,run_sizeOf hn,Result.andThen_ok,Sem.run_pure,h1]
    · cases i with
      | zero => simp [hn]
      | succ i => simpa using h2 i
theorem sim_build {zero : List Cell} {parts : List (Nat × Nat × Opd)} (R : Rel N F S s st a w) (hd : ∀ d,dst = some d → d ∉ F.roots) (hok : okOp P N F.roots (.build zero parts) o = true)
    (h : stepOp dst (.build zero parts) st = some (tv,st')) : PureDone P N F S st' a w dst tv (execOp a.eval o) := by
  simp only [okOp] at hok
  split at hok
  · rename_i t ps ho
    simp only [Bool.and_eq_true] at hok
    obtain ⟨hz,hok⟩ := hok
    obtain ⟨i,v,hi,hzv,hs,hc⟩ := okZero_spec hz
    obtain ⟨zs,rfl,z2,z3,z4⟩ := okCells_GC (N := N) (w := w) (S := S) hc
    have hzc : v.cells = (zs.map GC.val).toArray := by rw [z2]
    simp only [stepOp] at h
    split at h
    · rename_i l st1 hg
      split at h
      · rename_i cs hf
        simp only [Option.some.injEq,Prod.mk.injEq] at h
        obtain ⟨rfl,rfl⟩ := h
        have fin : ∀ place,okParts N F.roots place parts ps.toList = true →
            (∀ cells,Instr.fill place v.cells (ps.toList.map fun p => (p.1,a.eval p.2)) = some cells → ∀ w',(Instr.build t (ps.map fun (i,x) => (i,a.eval x))).run P w' = .ok (.agg cells) w') →
            PureDone P N F S st1 a w dst (TV.ofCells true cs) (execOp a.eval o) := by
          intro place hp hrun
          obtain ⟨s',L,e1,rfl,e3,e4,e5⟩ := gives_ok R hp hg
          obtain ⟨zs',f1,f2,f3,f4,f5⟩ := fill_ok (zs := zs) e5 hf
          subst f1
          refine ofCells_pure e1 hd (fun c hc => ?_) (by simp) ?_ ?_
          · rcases f4 c hc with h | ⟨p,hp,h⟩
            · exact z3 c h
            · exact e3 p hp c h
          · refine (e4 [] Free.nil).le fun x => ?_
            have := f5 x
            simp only [z4,List.count_nil,Nat.zero_add,List.nil_append] at this ⊢
            exact this
          · intro w'
            simp only [execOp,ho]
            rw [Sem.run_bind,hrun _ (by rw [hzc]; exact f2)]; rfl
        split at hok
        · rename_i fields hu
          simp only [Bool.and_eq_true,List.all_eq_true] at hok
          obtain ⟨hp,hall⟩ := hok
          refine fin _ hp fun cells hcells w' => ?_
          obtain ⟨pl,m1,m2⟩ := mapM_run (P := P) hall w'
          have m1' : (fields.mapM fun f => do pure (f.offset,← Go.sizeOf f.type) : Sem _).run P w' = .ok pl.toArray w' := by
            rw [Array.mapM_eq_mapM_toList,← bind_pure_comp,Sem.run_bind,m1]; rfl
          have hpl : (fun (i : Nat) => pl.toArray[i]?) = fun (i : Nat) => match fields[i]? with | some f => (match tySize P f.type with | some n => some (f.offset,n) | none => none) | none => none := by
            funext i; rw [List.getElem?_toArray,m2 i]; simp
          have key : Instr.fill (fun (i : Nat) => pl.toArray[i]?) v.cells (ps.toList.map fun p => (p.1,a.eval p.2)) = some cells := by rw [hpl]; exact hcells
          simp only [Instr.build]
          rw [Sem.run_bind,run_zero hi hzv,Result.andThen_ok,Sem.run_bind,run_underlying hu,Result.andThen_ok]
          simp only [Sem.run_bind,m1',Result.andThen_ok,Array.toList_map,key]
          rfl
        · rename_i m e hu
          split at hok
          · rename_i k hk
            refine fin _ hok fun cells hcells w' => ?_
            simp only [Instr.build]
            rw [Sem.run_bind,run_zero hi hzv,Result.andThen_ok,Sem.run_bind,run_underlying hu,Result.andThen_ok]
            simp only [Sem.run_bind,run_sizeOf hk,Result.andThen_ok,Array.toList_map,hcells]
            rfl
          · cases hok
        · cases hok
      · cases h
    · cases h
  · cases hok
theorem PureDone.shutR {m : Sem Next} (h : PureDone P N F S st' a w dst tv m) (hd : ∀ d,dst = some d → d ∉ F.roots) : PureDone P N F S st' a w dst tv.shut m := by
  obtain ⟨cv,S',s',g,h1,h2,R,p⟩ := h
  have htv := p.tv
  cases g with
  | own gs b =>
    simp only [GT.tv] at htv
    subst htv
    obtain ⟨k1,k2⟩ := p.ok
    have hv : VR N w (fun x => S' x ∨ x ∈ blocksRow gs) (mkV b (sealRow (cellRow gs))) cv := by
      have := view_cval (N := N) (w := w) (S' := fun x => S' x ∨ x ∈ blocksRow gs) k1 k2 (fun _ h => .inl h) fun _ h => .inr h
      rw [← p.val]; exact this
    have R' := R.freezeL p.free fun x hx => k1.lt x hx
    exact ⟨cv,_,s',.av (mkV b (sealRow (cellRow gs))) cv,h1,fun x hx => .inl (h2 x hx),R',⟨rfl,rfl,hv,Free.nil,by simp [GT.place?],R'.unrooted hd (by simp [GT.place?])⟩⟩
  | _ => exact ⟨cv,S',s',_,h1,h2,R,⟨by rw [← htv]; rfl,p.val,p.ok,p.free,p.rooted,p.dst⟩⟩
theorem sim_buildZ {zero : List Cell} {parts : List (Nat × Nat × Opd)} (R : Rel N F S s st a w) (hd : ∀ d,dst = some d → d ∉ F.roots) (hok : okOp P N F.roots (.buildZ zero parts) o = true)
    (h : stepOp dst (.buildZ zero parts) st = some (tv,st')) : PureDone P N F S st' a w dst tv (execOp a.eval o) := by
  simp only [stepOp] at h
  split at h
  · rename_i l st1 hg
    split at h
    · rename_i cs hf
      simp only [Option.some.injEq,Prod.mk.injEq] at h
      obtain ⟨rfl,rfl⟩ := h
      exact (sim_build (zero := zero) (parts := parts) R hd (by simpa only [okOp] using hok) (by simp only [stepOp,hg,hf])).shutR hd
    · cases h
  · cases h
end
end Hm
/- Slices, built and made. Conditions: none (plain lemmas). -/
namespace Hm
open Go
def repG (zs : List GC) : Nat → List GC
  | 0 => []
  | n + 1 => zs ++ repG zs n
theorem repG_cells (zs : List GC) : ∀ n,cellRow (repG zs n) = repC (cellRow zs) n
  | 0 => rfl
  | n + 1 => by simp only [repG,repC,cellRow_append,repG_cells zs n]
theorem repG_mem (zs : List GC) : ∀ n,∀ c ∈ repG zs n,c ∈ zs
  | 0,c,h => by simp [repG] at h
  | n + 1,c,h => by
    simp only [repG,List.mem_append] at h
    rcases h with h | h
    · exact h
    · exact repG_mem zs n c h
theorem repG_length (zs : List GC) : ∀ n,(repG zs n).length = n * zs.length
  | 0 => by simp [repG]
  | n + 1 => by simp only [repG,List.length_append,repG_length zs n,Nat.add_mul]; omega
theorem repG_get (zs : List GC) : ∀ n j,j < n * zs.length → (repG zs n)[j]? = zs[j % zs.length]?
  | 0,j,h => by simp at h
  | n + 1,j,h => by
    simp only [repG]
    by_cases hj : j < zs.length
    · rw [List.getElem?_append_left hj,Nat.mod_eq_of_lt hj]
    · have h0 : 0 < zs.length := by
        rcases Nat.eq_zero_or_pos zs.length with e | e
        · rw [e] at h; simp at h
        · exact e
      rw [List.getElem?_append_right (by omega),repG_get zs n (j - zs.length) (by rw [Nat.add_mul] at h; omega)]
      congr 1
      conv => rhs; rw [show j = (j - zs.length) + zs.length by omega,Nat.add_mod_right]
theorem blocksRow_rep {zs : List GC} (h : blocksRow zs = []) : ∀ n,blocksRow (repG zs n) = []
  | 0 => rfl
  | n + 1 => by simp only [repG,blocksRow_append,h,blocksRow_rep h n,List.append_nil]
theorem zero_cells {zs : List GC} {z : Array Value} (hz : z = (zs.map GC.val).toArray) (n : Nat) : (Array.range (n * zs.length)).map (z[· % z.size]!) = ((repG zs n).map GC.val).toArray := by
  subst hz
  apply Array.ext_getElem?
  intro j
  simp only [Array.getElem?_map,List.getElem?_toArray,List.getElem?_map,List.size_toArray,List.length_map]
  by_cases hj : j < n * zs.length
  · have h0 : 0 < zs.length := by
      rcases Nat.eq_zero_or_pos zs.length with e | e
      · rw [e] at hj; simp at hj
      · exact e
    have hm := Nat.mod_lt j h0
    rw [Array.getElem?_range,if_pos hj,repG_get zs n j hj,List.getElem?_eq_getElem hm]
    simp [hm]
  · rw [Array.getElem?_range,if_neg hj,List.getElem?_eq_none (by rw [repG_length]; omega)]
    rfl
def chopG (k : Nat) : Nat → List GC → List (List GC)
  | 0,_ => []
  | n + 1,cs => cs.take k :: chopG k n (cs.drop k)
theorem chopG_cells (k : Nat) : ∀ n cs,cellRows (chopG k n cs) = chop k n (cellRow cs)
  | 0,_ => rfl
  | n + 1,cs => by simp only [chopG,chop,cellRows,cellRow_take,chopG_cells k n,cellRow_drop]
theorem chopG_length (k : Nat) : ∀ n cs,(chopG k n cs).length = n
  | 0,_ => rfl
  | n + 1,cs => by simp [chopG,chopG_length k n]
theorem chopG_get (k : Nat) : ∀ (n : Nat) (cs : List GC) (i : Nat) (r : List GC),(chopG k n cs)[i]? = some r → r = (cs.drop (i * k)).take k
  | 0,_,i,r,h => by simp [chopG] at h
  | n + 1,cs,i,r,h => by
    cases i with
    | zero => simp [chopG] at h; simp [h]
    | succ i =>
      have := chopG_get k n (cs.drop k) i r (by simpa [chopG] using h)
      rw [this,List.drop_drop,Nat.add_mul,Nat.one_mul,Nat.add_comm]
theorem chopG_blocks (k : Nat) (x : Nat) : ∀ n cs,(blocksRows (chopG k n cs)).count x ≤ (blocksRow cs).count x
  | 0,cs => by simp [chopG,blocksRows]
  | n + 1,cs => by
    simp only [chopG,blocksRows,List.count_append]
    have := chopG_blocks k x n (cs.drop k)
    have h : (blocksRow cs).count x = (blocksRow (cs.take k)).count x + (blocksRow (cs.drop k)).count x := by
      rw [← List.count_append,← blocksRow_append,List.take_append_drop]
    omega
section
variable {P : Program} {N : Nm} {F : Fx} {S : Nat → Prop} {s : GS} {st st' : St} {a : Act} {w w' : World} {dst : Option Nat} {o : Oper} {tv : TV}
theorem newSlice_done (R : Rel N F S s st a w) (hd : ∀ d,dst = some d → d ∉ F.roots) {cs : List GC} {rows : List (List GC)} {k cap : Nat} {e : TypeId} (hk : 0 < k) (hok : AllOk N w S cs) (hf : Free F S s (blocksRow cs)) (hl : cs.length = cap * k)
    (hcap : cap ≤ maxLen) (hrl : rows.length ≤ cap) (hlen : ∀ (i : Nat) (r : List GC),rows[i]? = some r → r.length = k) (hget : ∀ (i : Nat) (r : List GC) (j : Nat) (c : GC),rows[i]? = some r → r[j]? = some c → cs[i * k + j]? = some c)
    (hb : ∀ x,(blocksRows rows).count x ≤ (blocksRow cs).count x) {run : Result Next} (hrun : run = .ok (.value (.slice (some ⟨w.heap.size,0,none⟩) rows.length cap)) (w.alloc (.cells (cs.map GC.val).toArray e))) :
    OpDone N F S st a dst (.own [.own k (cellRows rows)] false) run := by
  have g := Grew.alloc w (.cells (cs.map GC.val).toArray e)
  have R' := R.grew g
  have hff := Free.fresh R hf hok.lt
  have hok' := hok.grew R.inv.imm g
  refine ⟨_,_,S,s,.own [.own w.heap.size cap k e rows] false,.inl hrun,fun _ h => h,R',⟨by simp [GT.tv,cellRow,GC.cell],rfl,⟨fun c hc => ?_,fun _ => ⟨_,rfl⟩⟩,?_,by simp [GT.place?],R'.unrooted hd (by simp [GT.place?])⟩⟩
  · rw [List.mem_singleton.1 hc]
    refine .own _ _ _ _ _ _ hk hrl hcap hlen (heap_alloc_new w _) (by simp [hl]) (fun i r j c hi hj => ?_) fun i r j c hi hj => ?_
    · simp [hget i r j c hi hj]
    · exact hok' c (List.mem_of_getElem? (hget i r j c hi hj))
  · simp only [GT.blocks,blocksRow,GC.blocks,List.append_nil]
    refine hff.le fun x => ?_
    rw [List.count_cons,List.count_cons]
    have := hb x
    omega
theorem sim_buildS {n k : Nat} {zero : List Cell} {parts : List (Nat × Nat × Opd)} (R : Rel N F S s st a w) (hd : ∀ d,dst = some d → d ∉ F.roots) (hok : okOp P N F.roots (.buildS n k zero parts) o = true)
    (h : stepOp dst (.buildS n k zero parts) st = some (tv,st')) : OpDone N F S st' a dst tv ((execOp a.eval o).run P w) := by
  simp only [okOp] at hok
  split at hok
  · rename_i t len ps ho
    simp only [Bool.and_eq_true,beq_iff_eq,decide_eq_true_eq] at hok
    obtain ⟨⟨rfl,hlim⟩,hok⟩ := hok
    split at hok
    · rename_i e hu
      simp only [Bool.and_eq_true,beq_iff_eq,decide_eq_true_eq] at hok
      obtain ⟨⟨⟨hz,hk⟩,hk0⟩,hp⟩ := hok
      obtain ⟨i,v,hi,hzv,hs,hc⟩ := okZero_spec hz
      obtain ⟨zs,rfl,z2,z3,z4⟩ := okCells_GC (N := N) (w := w) (S := S) hc
      have hzc : v.cells = (zs.map GC.val).toArray := by rw [z2]
      have hzk : zs.length = k := by
        rw [cellRow_length] at hs
        obtain ⟨i',hi',hk'⟩ := tySize_info hk
        rw [hi] at hi'; cases hi'
        omega
      simp only [stepOp] at h
      split at h
      · rename_i l st1 hg
        split at h
        · rename_i cs hf
          simp only [Option.some.injEq,Prod.mk.injEq] at h
          obtain ⟨rfl,rfl⟩ := h
          obtain ⟨s',L,e1,rfl,e3,e4,e5⟩ := gives_ok R hp hg
          rw [← repG_cells] at hf
          obtain ⟨zs',f1,f2,f3,f4,f5⟩ := fill_ok (zs := repG zs n) e5 hf
          subst f1
          rw [repG_length,hzk] at f3
          have hfree : Free F S s' (blocksRow zs') := (e4 [] Free.nil).le fun x => by
            have := f5 x
            simp only [blocksRow_rep z4,List.count_nil,Nat.zero_add,List.nil_append] at this ⊢
            exact this
          have hallok : AllOk N w S zs' := fun c hc => by
            rcases f4 c hc with h | ⟨p,hp,h⟩
            · exact z3 c (repG_mem zs n c h)
            · exact e3 p hp c h
          have hfirst : ∀ (i : Nat) (r : List GC),(chopG k n zs')[i]? = some r → i < n ∧ r = (zs'.drop (i * k)).take k := fun i r hi =>
            ⟨by have := (List.getElem?_eq_some_iff.1 hi).1; rwa [chopG_length] at this,chopG_get k n zs' i r hi⟩
          rw [← chopG_cells]
          refine newSlice_done e1 hd (cap := n) (e := e) hk0 hallok hfree f3 ?_ (by rw [chopG_length]; exact Nat.le_refl _) (fun i r hi => ?_) (fun i r j c hi hj => ?_) (fun x => chopG_blocks k x n zs') ?_
          · have : n * 1 ≤ n * k := Nat.mul_le_mul_left _ hk0
            simp only [maxLen]; omega
          · obtain ⟨h1,h2⟩ := hfirst i r hi
            have : (i + 1) * k ≤ n * k := Nat.mul_le_mul_right _ h1
            rw [Nat.add_mul] at this
            rw [h2]; simp; omega
          · obtain ⟨h1,h2⟩ := hfirst i r hi
            rw [h2,List.getElem?_take] at hj
            split at hj
            · rw [List.getElem?_drop] at hj; exact hj
            · cases hj
          · rw [chopG_length]
            simp only [execOp,ho,Instr.buildSlice]
            rw [Sem.run_bind,Sem.run_bind,run_underlying hu,Result.andThen_ok]
            simp only [Sem.run_bind,run_sizeOf hk,Result.andThen_ok]
            have hn24 : ¬ (n * k > 2 ^ 24) := by omega
            rw [if_neg hn24]
            by_cases h0 : n * k = 0
            · have hz0 : repG zs n = [] := List.eq_nil_of_length_eq_zero (by rw [repG_length,hzk]; exact h0)
              have hcells : (Array.range (n * k)).map ((#[] : Array Value)[· % (#[] : Array Value).size]!) = ((repG zs n).map GC.val).toArray := by
                rw [hz0,h0]; simp [Array.range_zero']
              simp only [if_pos h0,Sem.run_bind,Sem.run_pure,Result.andThen_ok,hcells,Array.toList_map,f2]
              rfl
            · have hcells : (Array.range (n * k)).map (v.cells[· % v.cells.size]!) = ((repG zs n).map GC.val).toArray := by
                rw [← hzk]; exact zero_cells hzc n
              simp only [if_neg h0,Sem.run_bind,run_zero hi hzv,Sem.run_pure,Result.andThen_ok,hcells,Array.toList_map,f2]
              rfl
        · cases h
      · cases h
    · cases hok
  · cases hok
def repRG (zs : List GC) : Nat → List (List GC)
  | 0 => []
  | n + 1 => zs :: repRG zs n
theorem repRG_cells (zs : List GC) : ∀ n,cellRows (repRG zs n) = repR (cellRow zs) n
  | 0 => rfl
  | n + 1 => by simp only [repRG,repR,cellRows,repRG_cells zs n]
theorem repRG_length (zs : List GC) : ∀ n,(repRG zs n).length = n
  | 0 => rfl
  | n + 1 => by simp [repRG,repRG_length zs n]
theorem repRG_mem (zs : List GC) : ∀ n,∀ r ∈ repRG zs n,r = zs
  | 0,r,h => by simp [repRG] at h
  | n + 1,r,h => by
    simp only [repRG,List.mem_cons] at h
    rcases h with h | h
    · exact h
    · exact repRG_mem zs n r h
theorem sim_mks {zero : List Cell} {lo co : Opd} (R : Rel N F S s st a w) (hd : ∀ d,dst = some d → d ∉ F.roots) (hok : okOp P N F.roots (.mks zero lo co) o = true)
    (h : stepOp dst (.mks zero lo co) st = some (tv,st')) : OpDone N F S st' a dst tv ((execOp a.eval o).run P w) := by
  simp only [okOp] at hok
  split at hok
  · rename_i t y z ho
    simp only [Bool.and_eq_true] at hok
    obtain ⟨⟨hy,hzz⟩,hok⟩ := hok
    split at hok
    · rename_i e hu
      simp only [Bool.and_eq_true,decide_eq_true_eq] at hok
      obtain ⟨⟨hz,hk0⟩,hby⟩ := hok
      obtain ⟨i,v,hi,hzv,hs,hc⟩ := okZero_spec hz
      obtain ⟨zs,rfl,z2,z3,z4⟩ := okCells_GC (N := N) (w := w) (S := S) hc
      have hzc : v.cells = (zs.map GC.val).toArray := by rw [z2]
      rw [cellRow_length] at hs hk0
      simp only [hi,decide_eq_true_eq] at hby
      simp only [stepOp] at h
      split at h
      · rename_i k1 n k2 m hn hm
        split at h
        · rename_i hle
          obtain ⟨h0n,hnm,hml⟩ := hle
          simp only [Option.some.injEq,Prod.mk.injEq] at h
          obtain ⟨rfl,rfl⟩ := h
          have e1 : a.eval y = .int k1 n := by
            have := R.opd_av hy hn
            generalize a.eval y = cy at this
            cases this; rfl
          have e2 : a.eval z = .int k2 m := by
            have := R.opd_av hzz hm
            generalize a.eval z = cy at this
            cases this; rfl
          have hlim : m ≤ 4294967296 := by simpa [limit] using hml
          rw [← repRG_cells,cellRow_length]
          have hlt : m.toNat * i.bytes ≤ 4294967296 * 32768 := Nat.mul_le_mul (by omega) hby
          have hz0 : ∀ n,blocksRows (repRG zs n) = [] := fun n => by
            rw [blocksRows_eq,List.flatMap_eq_nil_iff]
            intro r hr
            rw [repRG_mem zs n r hr,z4]
          refine newSlice_done R hd (cs := repG zs m.toNat) (cap := m.toNat) (e := e) hk0 (fun c hc => z3 c (repG_mem zs _ c hc)) (by rw [blocksRow_rep z4]; exact Free.nil) (repG_length zs _) ?_ ?_ (fun i r hi => ?_) (fun i r j c hi hj => ?_) (fun x => by rw [hz0]; simp) ?_
          · simp only [maxLen]; omega
          · rw [repRG_length]; omega
          · rw [repRG_mem zs _ r (List.mem_of_getElem? hi)]
          · have hr := repRG_mem zs _ r (List.mem_of_getElem? hi)
            have hin := (List.getElem?_eq_some_iff.1 hi).1
            rw [repRG_length] at hin
            subst hr
            have hj' := (List.getElem?_eq_some_iff.1 hj).1
            have : (i + 1) * r.length ≤ m.toNat * r.length := Nat.mul_le_mul_right _ (by omega)
            rw [Nat.add_mul] at this
            rw [repG_get r _ _ (by omega),Nat.add_comm,Nat.add_mul_mod_self_right,Nat.mod_eq_of_lt hj']
            exact hj
          · rw [repRG_length]
            have hbb : (i.bytes : Int) * m ≤ 281474976710656 := by
              have : ((m.toNat * i.bytes : Nat) : Int) ≤ 140737488355328 := by omega
              rw [Int.natCast_mul,Int.mul_comm,Int.toNat_of_nonneg (by omega)] at this
              omega
            have hr := run_make (P := P) w t e i v hu hi hzv k1 k2 n m h0n hnm hbb (by omega)
            simp only [execOp,ho,e1,e2]
            rw [Sem.run_bind,hr]
            have : madeCells v.cells (m.toNat * i.size) = ((repG zs m.toNat).map GC.val).toArray := by
              rw [hs]; exact zero_cells hzc m.toNat
            rw [this]; rfl
        · cases h
      · cases h
    · cases hok
  · cases hok
end
end Hm
/- Arguments. Conditions: none (plain lemmas). -/
namespace Hm
open Go
inductive ArgOk (N : Nm) (w : World) (S : Nat → Prop) : Arg → Value → List Nat → Prop
  | val (v : AV) (cv : Value) (h : VR N w S v cv) : ArgOk N w S (.val v) cv []
  | mv (gs : List GC) (g : Bool) (hok : AllOk N w S gs) (hg : g = false → ∃ c,gs = [c]) : ArgOk N w S (.mv (cellRow gs) g) (cval g gs) (blocksRow gs)
  | io (gs : List GC) (b : Nat) (e : TypeId) (hb : w.heap[b]? = some (.cells (gs.map GC.val).toArray e (0,0))) (hok : AllOk N w S gs) :
      ArgOk N w S (.io (cellRow gs)) (.pointer (some ⟨b,0,none⟩)) (b :: blocksRow gs)
inductive ArgsOk (N : Nm) (w : World) (S : Nat → Prop) : List Arg → List Value → List Nat → Prop
  | nil : ArgsOk N w S [] [] []
  | cons {x : Arg} {v : Value} {l : List Nat} {xs : List Arg} {vs : List Value} {ls : List Nat} : ArgOk N w S x v l → ArgsOk N w S xs vs ls → ArgsOk N w S (x :: xs) (v :: vs) (l ++ ls)
section
variable {P : Program} {N : Nm} {F : Fx} {S : Nat → Prop} {s : GS} {st st' : St} {a : Act} {w w' : World} {dst : Option Nat} {o : Oper} {tv : TV}
theorem AllOk.mono {S' : Nat → Prop} {gs : List GC} (h : AllOk N w S gs) (hS : ∀ x,S x → S' x) : AllOk N w S' gs := fun c hc => (h c hc).mono (fun _ _ => rfl) hS fun _ _ => rfl
theorem ArgOk.mono {S' : Nat → Prop} {x : Arg} {v : Value} {l : List Nat} (h : ArgOk N w S x v l) (hS : ∀ x,S x → S' x) : ArgOk N w S' x v l := by
  cases h with
  | val v cv h => exact .val v _ (h.mono (fun _ _ => rfl) hS)
  | mv gs g hok hg => exact .mv gs g (hok.mono hS) hg
  | io gs b e hb hok => exact .io gs b e hb (hok.mono hS)
theorem ArgsOk.mono {S' : Nat → Prop} {xs : List Arg} {vs : List Value} {l : List Nat} (h : ArgsOk N w S xs vs l) (hS : ∀ x,S x → S' x) : ArgsOk N w S' xs vs l := by
  induction h with
  | nil => exact .nil
  | cons h1 _ ih => exact .cons (h1.mono hS) ih
theorem VR.lt {v : AV} {cv : Value} {S' : Nat → Prop} (h : VR N w S' v cv) : VR N w (fun x => x < w.heap.size) v cv := by
  have lt : ∀ {ad : Addr} {u : Value},w.cell? ad = some u → ad.block < w.heap.size := fun h => World.block_lt_of_cell? w _ h
  induction h with
  | int k n => exact .int k n
  | bool b => exact .bool b
  | str b => exact .str b
  | lstNil st a c hc ha => exact .lstNil st a c hc ha
  | lst rows a c st cv h0 hb hsp hl hc hst hr hcell h1 _ ih =>
    refine .lst rows a c st cv h0 ?_ hsp hl hc hst hr hcell h1 ih
    obtain ⟨r,rs,e⟩ : ∃ r rs,rows = r :: rs := by cases rows with
      | nil => exact absurd rfl h0
      | cons r rs => exact ⟨r,rs,rfl⟩
    have hr0 := hr 0 r (by rw [e]; rfl)
    have := hcell 0 r 0 (r[0]'(by omega)) (by rw [e]; rfl) (List.getElem?_eq_getElem (by omega))
    exact lt (ad := ⟨a.block,_,none⟩) this
  | agg cs vs hl h1 _ ih => exact .agg cs vs hl h1 ih
  | vptr cs a cv hb hsp hcell h1 _ ih =>
    refine .vptr cs a cv (fun hne => ?_) hsp hcell h1 ih
    obtain ⟨x,xs,e⟩ : ∃ x xs,cs = x :: xs := by cases cs with
      | nil => exact absurd rfl hne
      | cons x xs => exact ⟨x,xs,rfl⟩
    exact lt (ad := ⟨a.block,_,none⟩) (hcell 0 x (by rw [e]; rfl))
  | nilp => exact .nilp
  | clo f first caps fs cs hf hc _ _ ih1 ih2 => exact .clo f first caps fs cs hf hc ih1 ih2
  | nilf => exact .nilf
  | iface t v cv _ ih => exact .iface t v cv ih
  | nili => exact .nili
  | emp st a c hc ha => exact .emp st a c hc ha
  | tag n cv h h1 h2 => exact .tag n cv h h1 h2
  | tab n b ty fr hb hc => exact .tab n b ty fr (Array.getElem?_eq_some_iff.1 hc).1 hc
  | und v => exact .und v
theorem ali_cells (R : Rel N F S s st a w) {x : Opd} {y : Operand} (h : okO N x y = true) {v : AV} {p : Place} (hv : st.opd x = .ali v (some p)) {cs : List Cell} (hc : st.cells p (cellsOf v).length = some cs) :
    ∃ hh r,s.loc p = some (hh,r) ∧ p.off + (cellsOf v).length ≤ r.length ∧ cellRow ((r.drop p.off).take (cellsOf v).length) = cs ∧ a.eval y = cval v.isAgg ((r.drop p.off).take (cellsOf v).length) ∧
      (v.isAgg = false → ∃ c,(r.drop p.off).take (cellsOf v).length = [c]) := by
  obtain ⟨n,cv,rfl,f1,f2⟩ := R.opd_ali h hv
  have hsl := R.inv.slot n
  rw [f1] at hsl
  obtain ⟨hh,r,n',g',l1,l2,l3,l4,l5⟩ := hsl
  obtain ⟨hh2,r2,m1,m2,m3⟩ := cells_loc R.er hc
  rw [l1] at m1
  simp only [Option.some.injEq,Prod.mk.injEq] at m1
  obtain ⟨rfl,rfl⟩ := m1
  have hlen : ((r.drop p.off).take n').length = n' := by simp; omega
  have key : (cellsOf v).length = n' ∧ v.isAgg = g' := by
    cases g' with
    | true =>
      rw [l4]
      refine ⟨?_,rfl⟩
      simp [mkV,cellsOf,sealRow_eq,cellRow_eq]; omega
    | false =>
      have hn := l3 rfl
      subst hn
      obtain ⟨c,hcc⟩ := List.length_eq_one_iff.1 hlen
      rw [hcc] at l4
      simp only [cellRow,sealRow,mkV,Bool.false_eq_true,if_false] at l4
      have hok := R.inv.loc_ok l1 c (List.mem_of_mem_drop (List.mem_of_mem_take (show c ∈ (r.drop p.off).take 1 by rw [hcc]; simp)))
      have hna : v.isAgg = false := by
        rw [l4]
        cases hok with
        | av u cu hu h1 =>
          simp only [GC.cell,Cell.shut]
          cases hu <;> first | rfl | (simp [Value.oneCell'] at h1)
        | nil => rfl
        | own => rfl
        | dead => rfl
      refine ⟨?_,hna⟩
      cases v <;> first | rfl | (simp [AV.isAgg] at hna)
  obtain ⟨k1,k2⟩ := key
  rw [k1,k2]
  rw [k1] at m3
  refine ⟨hh,r,l1,l2,m3.symm,by rw [f2,l5],fun hg => ?_⟩
  have := l3 hg
  subst this
  exact List.length_eq_one_iff.1 hlen
inductive IoOk (s : GS) : List Arg → List Value → List Nat → List Nat → Prop
  | nil : IoOk s [] [] [] []
  | io {k b : Nat} {e : TypeId} {gs : List GC} {cs : List Cell} {xs : List Arg} {vs : List Value} {ks bs : List Nat} (hβ : s.β k = some (b,e,gs)) (hd : ∀ c ∈ gs,∃ v,c = .dead v) (hl : gs.length = cs.length)
      (h : IoOk s xs vs ks bs) : IoOk s (.io cs :: xs) (.pointer (some ⟨b,0,none⟩) :: vs) (k :: ks) (b :: bs)
  | val {v : AV} {cv : Value} {xs : List Arg} {vs : List Value} {ks bs : List Nat} (h : IoOk s xs vs ks bs) : IoOk s (.val v :: xs) (cv :: vs) ks bs
  | mv {cs : List Cell} {g : Bool} {cv : Value} {xs : List Arg} {vs : List Value} {ks bs : List Nat} (h : IoOk s xs vs ks bs) : IoOk s (.mv cs g :: xs) (cv :: vs) ks bs
theorem IoOk.len {s : GS} {xs : List Arg} {vs : List Value} {ks bs : List Nat} (h : IoOk s xs vs ks bs) : ks.length = bs.length := by
  induction h with
  | nil => rfl
  | io _ _ _ _ ih => simp [ih]
  | val _ ih => exact ih
  | mv _ ih => exact ih
def SA (S : Nat → Prop) (t : Bool) (w : World) : Nat → Prop := fun x => S x ∨ (t = true ∧ x < w.heap.size)
theorem SA.false (S : Nat → Prop) (w : World) : SA S false w = S := by funext x; simp [SA]
theorem write_dead_β {p : Place} {new : List GC} {h : Option (Nat × Nat)} {r : List GC} (hl : s.loc p = some (h,r)) (hf : p.off + new.length ≤ r.length) (hnew : ∀ c ∈ new,∃ v,c = .dead v) :
    ∀ k b e gs,s.β k = some (b,e,gs) → ∃ gs',(s.write p new).β k = some (b,e,gs') ∧ gs'.length = gs.length ∧ ((∀ c ∈ gs,∃ v,c = .dead v) → ∀ c ∈ gs',∃ v,c = .dead v) := by
  intro k b e gs hk
  unfold GS.write
  cases hroot : p.root with
  | slot n =>
    simp only []
    cases s.γ n <;> exact ⟨gs,hk,rfl,fun h => h⟩
  | box n =>
    simp only []
    by_cases hnk : n = k
    · subst hnk
      simp only [hk,upd_same]
      unfold GS.loc at hl
      rw [hroot] at hl
      simp only [GS.root,hk] at hl
      refine ⟨_,rfl,setRowG_length p.off new p.path gs ?_,fun hd c hc => ?_⟩
      · intro h' r' e'
        cases hp : p.path with
        | nil =>
          rw [hp] at e' hl
          simp only [locRow,Option.some.injEq,Prod.mk.injEq] at e' hl
          rw [← e',hl.2]; exact hf
        | cons q ps =>
          obtain ⟨o,i⟩ := q
          rw [hp] at e' hl
          have e2 : locRow (Option.map (fun b => (b,0)) (some b)) gs ((o,i) :: ps) = some r' := e'
          rw [hl] at e2
          cases e2
          exact hf
      · cases hp : p.path with
        | nil =>
          rw [hp] at hc hl
          simp only [setRowG,List.mem_append] at hc
          rcases hc with (hc | hc) | hc
          · exact hd c (List.mem_of_mem_take hc)
          · exact hnew c hc
          · exact hd c (List.mem_of_mem_drop hc)
        | cons q ps =>
          obtain ⟨o,i⟩ := q
          rw [hp] at hl
          simp only [locRow] at hl
          cases hg : gs[o]? with
          | none => simp [hg] at hl
          | some c' =>
            obtain ⟨v,rfl⟩ := hd c' (List.mem_of_getElem? hg)
            simp [hg] at hl
    · cases hb : s.β n with
      | none => exact ⟨gs,hk,rfl,fun h => h⟩
      | some y =>
        obtain ⟨b',e',gs'⟩ := y
        exact ⟨gs,by simp only [upd_ne _ _ (fun e => hnk e.symm)]; exact hk,rfl,fun h => h⟩
theorem args_ok : ∀ {xs : List Opd} {ys : List Operand} {ms : List PMode} {S : Nat → Prop} {s : GS} {st st' : St} {l : List Arg} {t : Bool} {ks : List Nat},Rel N F S s st a w → okEs N F.roots xs ys = true → args st ms xs = some (l,t,ks,st') →
    ∃ S' s' lx lb bs,(∀ x,S x → S' x) ∧ Rel N F S' s' st' a w ∧ ArgsOk N w (SA S' t w) l (ys.map a.eval) lx ∧ (∀ x,lx.count x = lb.count x + bs.count x) ∧ (∀ l0,Free F S s l0 → Free F S' s' (l0 ++ lb)) ∧ IoOk s' l (ys.map a.eval) ks bs ∧
      (∀ k b e gs,s.β k = some (b,e,gs) → ∃ gs',s'.β k = some (b,e,gs') ∧ gs'.length = gs.length ∧ ((∀ c ∈ gs,∃ v,c = .dead v) → ∀ c ∈ gs',∃ v,c = .dead v))
  | [],[],ms,S,s,st,st',l,t,ks,R,_,h => by
    simp only [args,Option.some.injEq,Prod.mk.injEq] at h
    obtain ⟨rfl,rfl,rfl,rfl⟩ := h
    exact ⟨S,s,[],[],[],fun _ h => h,R,.nil,fun x => rfl,fun l0 h => by simpa using h,IoOk.nil,fun k b e gs hk => ⟨gs,hk,rfl,fun h => h⟩⟩
  | [],_ :: _,_,_,_,_,_,_,_,_,_,h,_ => by simp [okEs] at h
  | _ :: _,[],_,_,_,_,_,_,_,_,_,h,_ => by simp [okEs] at h
  | x :: xs,y :: ys,[],S,s,st,st',l,t,ks,R,hok,h => by simp [args] at h
  | x :: xs,y :: ys,m :: ms,S,s,st,st',l,t,ks,R,hok,h => by
    simp only [okEs,Bool.and_eq_true] at hok
    obtain ⟨hx,hxs⟩ := hok
    have h0 := (okE_okO hx).1
    simp only [args] at h
    split at h
    · rename_i v hv
      split at h
      · rename_i l1 t1 ks1 st1 ha
        simp only [Option.some.injEq,Prod.mk.injEq] at h
        obtain ⟨rfl,rfl,rfl,rfl⟩ := h
        obtain ⟨S',s',lx,lb,bs,a1,a2,a3,a4,a5,a6,a7⟩ := args_ok R hxs ha
        exact ⟨S',s',[] ++ lx,lb,bs,a1,a2,.cons (.val v _ ((R.opd_av h0 hv).mono (fun _ _ => rfl) fun x hx => .inl (a1 x hx))) a3,a4,a5,.val a6,a7⟩
      · cases h
    · rename_i cs g hv
      split at h
      · rename_i l1 t1 ks1 st1 ha
        simp only [Option.some.injEq,Prod.mk.injEq] at h
        obtain ⟨rfl,rfl,rfl,rfl⟩ := h
        obtain ⟨s1,gs,d1,d2,d3,d4,d5,d6,d7⟩ := R.ownF hx hv
        subst d2
        have hfr := d6 [] Free.nil
        simp only [List.nil_append] at hfr
        have R1 := d1.freezeL hfr d3.lt
        obtain ⟨S',s',lx,lb,bs,a1,a2,a3,a4,a5,a6,a7⟩ := args_ok R1 hxs ha
        refine ⟨S',s',[] ++ lx,lb,bs,fun x hx => a1 x (.inl hx),a2,.cons (.val _ _ ?_) a3,a4,fun l0 hl0 => a5 l0 ?_,.val a6,fun k b e gs hk => a7 k b e gs (by rw [d7]; exact hk)⟩
        · rw [d5]
          exact view_cval d3 d4 (fun x hx => .inl (a1 x (.inl hx))) fun x hx => .inl (a1 x (.inr hx))
        · have hh := d6 l0 hl0
          obtain ⟨n1,n2,n3⟩ := List.nodup_append.1 hh.nodup
          refine ⟨n1,fun x hx => hh.free x (List.mem_append_left _ hx),fun x hx => ⟨fun hS => ?_,(hh.mine x (List.mem_append_left _ hx)).2⟩⟩
          rcases hS with hS | hS
          · exact (hh.mine x (List.mem_append_left _ hx)).1 hS
          · exact n3 x hx x hS rfl
      · cases h
    · rename_i v p hv
      split at h
      · rename_i l1 t1 ks1 st1 ha
        simp only [Option.some.injEq,Prod.mk.injEq] at h
        obtain ⟨rfl,rfl,rfl,rfl⟩ := h
        obtain ⟨S',s',lx,lb,bs,a1,a2,a3,a4,a5,a6,a7⟩ := args_ok R hxs ha
        refine ⟨S',s',[] ++ lx,lb,bs,a1,a2,.cons (.val v _ ?_) (a3.mono fun x hx => hx.imp id fun h => ⟨rfl,h.2⟩),a4,a5,.val a6,a7⟩
        exact (R.opd_rd h0 (by rw [hv]; rfl)).lt.mono (fun _ _ => rfl) fun x hx => .inr ⟨rfl,hx⟩
      · cases h
    · rename_i cs g hv
      split at h
      · rename_i l1 t1 ks1 st1 ha
        simp only [Option.some.injEq,Prod.mk.injEq] at h
        obtain ⟨rfl,rfl,rfl,rfl⟩ := h
        obtain ⟨s1,gs,d1,d2,d3,d4,d5,d6,d7⟩ := R.ownF hx hv
        subst d2
        obtain ⟨S',s',lx,lb,bs,a1,a2,a3,a4,a5,a6,a7⟩ := args_ok d1 hxs ha
        refine ⟨S',s',blocksRow gs ++ lx,blocksRow gs ++ lb,bs,a1,a2,.cons ?_ a3,fun x => ?_,fun l0 hl0 => ?_,.mv a6,fun k b e gs hk => a7 k b e gs (by rw [d7]; exact hk)⟩
        · rw [d5]; exact .mv gs g (d3.mono fun x hx => .inl (a1 x hx)) d4
        · have := a4 x; simp only [List.count_append]; omega
        · have := a5 _ (d6 l0 hl0); simpa only [List.append_assoc] using this
      · cases h
    · cases h
    · rename_i v hne hv
      split at h
      · rename_i l1 t1 ks1 st1 ha
        simp only [Option.some.injEq,Prod.mk.injEq] at h
        obtain ⟨rfl,rfl,rfl,rfl⟩ := h
        obtain ⟨gs,e1,e2,e3,e4,e5,e6⟩ := (R.opd_av h0 hv).cells hne
        obtain ⟨S',s',lx,lb,bs,a1,a2,a3,a4,a5,a6,a7⟩ := args_ok R hxs ha
        refine ⟨S',s',blocksRow gs ++ lx,lb,bs,a1,a2,.cons ?_ a3,fun x => ?_,a5,.mv a6,a7⟩
        · rw [e4,← e1]; exact .mv gs _ (e2.mono fun x hx => .inl (a1 x hx)) e6
        · rw [e3]; exact a4 x
      · cases h
    · rename_i v p hv
      split at h
      · rename_i cs hc
        split at h
        · rename_i st1 hw
          split at h
          · rename_i l1 t1 ks1 st2 ha
            simp only [Option.some.injEq,Prod.mk.injEq] at h
            obtain ⟨rfl,rfl,rfl,rfl⟩ := h
            obtain ⟨hh,r,k1,k2,k3,k4,k5⟩ := ali_cells R h0 hv hc
            subst k3
            have W := WriteH.dead (F := F) R.inv k1 k2
            obtain ⟨d1,d2⟩ := R.write W (by rw [deads_cells]; exact hw)
            have hlen : (((r.drop p.off).take (cellsOf v).length).map fun c => GC.dead c.val).length = (cellsOf v).length := by simp; omega
            have hd0 : blocksRow (((r.drop p.off).take (cellsOf v).length).map fun c => GC.dead c.val) = [] := by
              rw [blocksRow_eq,List.flatMap_eq_nil_iff]
              intro x hx
              simp only [List.mem_map] at hx
              obtain ⟨c,_,rfl⟩ := hx
              rfl
            have hok := (R.inv.loc_ok k1).sub p.off (cellsOf v).length
            obtain ⟨S',s',lx,lb,bs,a1,a2,a3,a4,a5,a6,a7⟩ := args_ok d1 hxs ha
            refine ⟨S',s',blocksRow ((r.drop p.off).take (cellsOf v).length) ++ lx,blocksRow ((r.drop p.off).take (cellsOf v).length) ++ lb,bs,a1,a2,.cons ?_ a3,fun x => ?_,fun l0 hl0 => ?_,.mv a6,fun k b e gs hk => ?_⟩
            · rw [k4]; exact .mv _ _ (hok.mono fun x hx => .inl (a1 x hx)) k5
            · have := a4 x; simp only [List.count_append]; omega
            · have := Free.write W (l := l0) (by rw [hd0]; exact hl0) d2
              rw [hlen] at this
              have := a5 _ this
              simpa only [List.append_assoc] using this
            · obtain ⟨g1,h1,h2,h3⟩ := write_dead_β k1 W.fits (fun c hc => by simp only [List.mem_map] at hc; obtain ⟨c',_,rfl⟩ := hc; exact ⟨_,rfl⟩) k b e gs hk
              obtain ⟨g2,h4,h5,h6⟩ := a7 k b e g1 h1
              exact ⟨g2,h4,h5.trans h2,fun h => h6 (h3 h)⟩
          · cases h
        · cases h
      · cases h
    · rename_i n k hv
      split at h
      · rename_i cs hb
        split at h
        · rename_i hn
          split at h
          · rename_i st1 hw
            split at h
            · rename_i l1 t1 ks1 st2 ha
              simp only [Option.some.injEq,Prod.mk.injEq] at h
              obtain ⟨rfl,rfl,rfl,rfl⟩ := h
              obtain ⟨m,b,base,r0,rfl,e1,e2,e3,e4⟩ := R.opd_plc h0 hv
              have hβ : ∃ e gs,s.β k = some (b,e,gs) ∧ base = 0 ∧ r0 = gs := by
                simp only [GS.loc,GS.root] at e2
                cases hk : s.β k with
                | none => simp [hk] at e2
                | some y =>
                  obtain ⟨b',e',gs⟩ := y
                  simp only [hk,locRow,Option.map_some,Option.some.injEq,Prod.mk.injEq] at e2
                  obtain ⟨⟨rfl,rfl⟩,rfl⟩ := e2
                  exact ⟨e',gs,rfl,rfl,rfl⟩
              obtain ⟨e,gs,hβ,rfl,rfl⟩ := hβ
              have hcs : cs = cellRow r0 := by
                have := R.er.box k
                rw [hb,hβ] at this
                simpa using this.symm
              subst hcs
              obtain ⟨g1,g2⟩ := R.inv.box k b e r0 hβ
              have htk : (r0.drop 0).take r0.length = r0 := by simp
              have W := WriteH.dead (F := F) R.inv e2 (n := r0.length) (by simp)
              simp only [] at W
              obtain ⟨d1,d2⟩ := R.write W (by rw [deads_cells,htk]; exact hw)
              have hd0 : blocksRow (((r0.drop 0).take r0.length).map fun c => GC.dead c.val) = [] := by
                rw [blocksRow_eq,List.flatMap_eq_nil_iff]
                intro x hx
                simp only [List.mem_map] at hx
                obtain ⟨c,_,rfl⟩ := hx
                rfl
              have hdd : ∀ c ∈ (((r0.drop 0).take r0.length).map fun c => GC.dead c.val),∃ v,c = .dead v := fun c hc => by
                simp only [List.mem_map] at hc; obtain ⟨c',_,rfl⟩ := hc; exact ⟨_,rfl⟩
              have hlen : (((r0.drop 0).take r0.length).map fun c => GC.dead c.val).length = r0.length := by simp
              have hbox : (s.write ⟨.box k,[],0⟩ (((r0.drop 0).take r0.length).map fun c => GC.dead c.val)).β k = some (b,e,((r0.drop 0).take r0.length).map fun c => GC.dead c.val) := by
                rw [GS.write_box rfl hβ]
                simp only [upd_same,setRowG,hlen]
                simp
              obtain ⟨S',s',lx,lb,bs,a1,a2,a3,a4,a5,a6,a7⟩ := args_ok d1 hxs ha
              refine ⟨S',s',(b :: blocksRow r0) ++ lx,blocksRow r0 ++ lb,b :: bs,a1,a2,.cons ?_ a3,fun x => ?_,fun l0 hl0 => ?_,?_,fun k' b' e' gs' hk => ?_⟩
              · rw [e4]; exact .io r0 b e g1 (g2.mono fun x hx => .inl (a1 x hx))
              · have := a4 x; simp only [List.count_append,List.count_cons,List.cons_append]; omega
              · have := Free.write W (l := l0) (by rw [hd0]; exact hl0) d2
                rw [hlen] at this
                rw [show blocksRow ((r0.drop (Place.off ⟨.box k,[],0⟩)).take r0.length) = blocksRow r0 from by rw [htk]] at this
                have := a5 _ this
                simpa only [List.append_assoc] using this
              · obtain ⟨gs',h1,h2,h3⟩ := a7 k b e _ hbox
                rw [List.map_cons,e4]
                exact .io h1 (h3 hdd) (by rw [h2,hlen,cellRow_length]) a6
              · obtain ⟨g1,h1,h2,h3⟩ := write_dead_β e2 W.fits hdd k' b' e' gs' hk
                obtain ⟨g2,h4,h5,h6⟩ := a7 k' b' e' g1 h1
                exact ⟨g2,h4,h5.trans h2,fun h => h6 (h3 h)⟩
            · cases h
          · cases h
        · cases h
      · cases h
    · cases h
end
end Hm
/- What a call answers. Conditions: none (definitions and plain lemmas). -/
namespace Hm
open Go
def resVal : List (List GC × Bool) → Value
  | [(gs,g)] => cval g gs
  | l => .tuple (l.map fun x => cval x.2 x.1).toArray
inductive OutsOk (N : Nm) (w : World) (S : Nat → Prop) : List Arg → List Value → List (List Cell) → List Nat → Prop
  | nil : OutsOk N w S [] [] [] []
  | io {b : Nat} {cs : List Cell} {xs : List Arg} {vs : List Value} {os : List (List Cell)} {l : List Nat} (gs : List GC) (e : TypeId) (hb : w.heap[b]? = some (.cells (gs.map GC.val).toArray e (0,0))) (hok : AllOk N w S gs)
      (hl : gs.length = cs.length) (h : OutsOk N w S xs vs os l) : OutsOk N w S (.io cs :: xs) (.pointer (some ⟨b,0,none⟩) :: vs) (cellRow gs :: os) (b :: blocksRow gs ++ l)
  | val {v : AV} {cv : Value} {xs : List Arg} {vs : List Value} {os : List (List Cell)} {l : List Nat} (h : OutsOk N w S xs vs os l) : OutsOk N w S (.val v :: xs) (cv :: vs) os l
  | mv {cs : List Cell} {g : Bool} {cv : Value} {xs : List Arg} {vs : List Value} {os : List (List Cell)} {l : List Nat} (h : OutsOk N w S xs vs os l) : OutsOk N w S (.mv cs g :: xs) (cv :: vs) os l
def resBlocks (L : List (List GC × Bool)) : List Nat := L.flatMap fun x => blocksRow x.1
structure Left (N : Nm) (w : World) (S : Nat → Prop) (as : List Arg) (vs : List Value) (lx : List Nat) (cr : CR) (v : Value) (w' : World) (S' : Nat → Prop) (L : List (List GC × Bool)) (lo : List Nat) : Prop where
  more : ∀ x,S x → S' x
  bound : ∀ x,S' x → S x ∨ w.heap.size ≤ x ∨ x ∈ lx
  lt : ∀ x,S' x → x < w'.heap.size
  frm : Frm (· ∈ lx) w w'
  res : cr.res = L.map fun x => (cellRow x.1,x.2)
  ok : ∀ x ∈ L,AllOk N w' S' x.1 ∧ (x.2 = false → ∃ c,x.1 = [c])
  val : v = resVal L
  outs : OutsOk N w' S' as vs cr.outs lo
  nodup : (resBlocks L ++ lo).Nodup
  free : ∀ x ∈ resBlocks L ++ lo,¬ S' x ∧ (w.heap.size ≤ x ∨ x ∈ lx)
def Meets (P : Program) (N : Nm) (f : Nat) (as : List Arg) (cr : CR) : Prop :=
  ∀ (w : World) (S : Nat → Prop) (vs : List Value) (lx : List Nat),ArgsOk N w S as vs lx → lx.Nodup → (∀ x ∈ lx,¬ S x) → (∀ x,S x → x < w.heap.size) → (∀ x ∈ N.g,VR N w S x.1 x.2) →
    Calls P (N.f f) vs.toArray w fun e w' => ∃ v S' L lo,e = .returned v ∧ Left N w S as vs lx cr v w' S' L lo
end Hm
/- A call's results reach their slot. Conditions: none (plain lemmas). -/
namespace Hm
open Go
section
variable {P : Program} {N : Nm} {F : Fx} {S : Nat → Prop} {s : GS} {st st' : St} {a : Act} {w w' : World} {dst : Option Nat} {o : Oper} {tv : TV}
def sealG (gs : List GC) : List GC := gs.map fun c => .av c.cell.shut c.val
theorem sealG_cells (gs : List GC) : cellRow (sealG gs) = (sealRow (cellRow gs)).map .av := by
  simp [sealG,cellRow_eq,sealRow_eq,GC.cell,Function.comp_def]
theorem sealG_vals (gs : List GC) : (sealG gs).map GC.val = gs.map GC.val := by simp [sealG,GC.val,Function.comp_def]
theorem sealG_cval (gs : List GC) (g : Bool) (h : g = false → ∃ c,gs = [c]) : cval g (sealG gs) = cval g gs := by
  cases g with
  | true => simp [cval,sealG_vals]
  | false => obtain ⟨c,rfl⟩ := h rfl; rfl
theorem sealG_blocks (gs : List GC) : blocksRow (sealG gs) = [] := by
  rw [blocksRow_eq,List.flatMap_eq_nil_iff]
  intro c hc
  simp only [sealG,List.mem_map] at hc
  obtain ⟨c',_,rfl⟩ := hc
  rfl
theorem sealG_ok {S' : Nat → Prop} {gs : List GC} (h : AllOk N w S gs) (hS : ∀ x,S x → S' x) (hb : ∀ x ∈ blocksRow gs,S' x) : AllOk N w S' (sealG gs) := by
  intro c hc
  simp only [sealG,List.mem_map] at hc
  obtain ⟨c',hc',rfl⟩ := hc
  obtain ⟨j,hj⟩ := List.mem_iff_getElem?.1 hc'
  exact .av _ _ ((h c' hc').view hS fun x hx => hb x (mem_blocksRow hj hx)) (h c' hc').one
theorem tupBlocks_some (L : List (List GC × Bool)) : tupBlocks (L.map some) = resBlocks L := by
  induction L with
  | nil => rfl
  | cons x L ih => obtain ⟨gs,g⟩ := x; simp [tupBlocks,resBlocks] at ih ⊢; exact ih
theorem resVal_tup {L : List (List GC × Bool)} (h : ∀ x,L ≠ [x]) : resVal L = .tuple (L.map fun x => cval x.2 x.1).toArray := by
  cases L with
  | nil => rfl
  | cons x L => cases L with
    | nil => exact absurd rfl (h x)
    | cons y L => rfl
theorem resTV_tup (sl : Seal) {L : List (List Cell × Bool)} (h : ∀ x,L ≠ [x]) : resTV sl L = .tup (L.map fun x => some (match sl with | .deep => (sealRow x.1).map .av | .none => x.1,x.2)) := by
  cases L with
  | nil => rfl
  | cons x L => cases L with
    | nil => exact absurd rfl (h x)
    | cons y L => rfl
theorem tup_pend (R : Rel N F S s st a w) (hd : ∀ d,dst = some d → d ∉ F.roots) {L : List (List GC × Bool)} (hok : ∀ x ∈ L,AllOk N w S x.1 ∧ (x.2 = false → ∃ c,x.1 = [c])) (hf : Free F S s (resBlocks L)) {cv : Value}
    (hcv : cv = .tuple (L.map fun x => cval x.2 x.1).toArray) : Pend N F S s w dst (.tup (L.map some) (L.map fun x => cval x.2 x.1).toArray) (.tup (L.map fun x => some (cellRow x.1,x.2))) cv := by
  refine ⟨?_,hcv.symm,⟨by simp,fun i gs g hi => ?_⟩,by simp only [GT.blocks,tupBlocks_some]; exact hf,by simp [GT.place?],R.unrooted hd (by simp [GT.place?])⟩
  · simp [GT.tv,tupCells,Function.comp_def]
  · rw [List.getElem?_map,Option.map_eq_some_iff] at hi
    obtain ⟨x,hx,he⟩ := hi
    simp only [Option.some.injEq] at he
    subst he
    obtain ⟨h1,h2⟩ := hok _ (List.mem_of_getElem? hx)
    exact ⟨by simp [hx],h1,h2⟩
theorem res_pend (R : Rel N F S s st a w) (hd : ∀ d,dst = some d → d ∉ F.roots) {L : List (List GC × Bool)} (hok : ∀ x ∈ L,AllOk N w S x.1 ∧ (x.2 = false → ∃ c,x.1 = [c])) (hf : Free F S s (resBlocks L)) (sl : Seal) :
    ∃ S' g,(∀ x,S x → S' x) ∧ Rel N F S' s st a w ∧ Pend N F S' s w dst g (resTV sl (L.map fun x => (cellRow x.1,x.2))) (resVal L) := by
  have hlt : ∀ x ∈ resBlocks L,x < w.heap.size := fun x hx => by
    simp only [resBlocks,List.mem_flatMap] at hx
    obtain ⟨y,hy,hx⟩ := hx
    exact (hok y hy).1.lt x hx
  cases sl with
  | none =>
    by_cases h1 : ∃ x,L = [x]
    · obtain ⟨⟨gs,g⟩,rfl⟩ := h1
      obtain ⟨k1,k2⟩ := hok (gs,g) (by simp)
      have hf' : Free F S s (blocksRow gs) := by simpa [resBlocks] using hf
      simp only [List.map_cons,List.map_nil,resTV,tvOf,resVal]
      unfold TV.ofCells
      split
      · rename_i vs hvs
        exact ⟨S,.av (mkV g vs) (cval g gs),fun _ h => h,R,⟨rfl,rfl,cval_av hvs k1 k2,by simpa [GT.blocks] using Free.nil,by simp [GT.place?],R.unrooted hd (by simp [GT.place?])⟩⟩
      · exact ⟨S,.own gs g,fun _ h => h,R,⟨rfl,rfl,⟨k1,k2⟩,hf',by simp [GT.place?],R.unrooted hd (by simp [GT.place?])⟩⟩
    · have h1' : ∀ x,L ≠ [x] := fun x e => h1 ⟨x,e⟩
      have h2' : ∀ x,(L.map fun x => (cellRow x.1,x.2)) ≠ [x] := fun x e => by
        obtain ⟨y,hy⟩ := List.length_eq_one_iff.1 (show L.length = 1 by have := congrArg List.length e; simpa using this)
        exact h1' y hy
      rw [resTV_tup _ h2',resVal_tup h1']
      have := tup_pend R hd hok hf (dst := dst) rfl
      simp only [List.map_map]
      exact ⟨S,_,fun _ h => h,R,this⟩
  | deep =>
    have R' := R.freezeL hf hlt
    by_cases h1 : ∃ x,L = [x]
    · obtain ⟨⟨gs,g⟩,rfl⟩ := h1
      obtain ⟨k1,k2⟩ := hok (gs,g) (by simp)
      simp only [List.map_cons,List.map_nil,resTV,tvOf,resVal]
      refine ⟨_,.av (mkV g (sealRow (cellRow gs))) (cval g gs),fun _ => .inl,R',⟨rfl,rfl,?_,by simpa [GT.blocks] using Free.nil,by simp [GT.place?],R.unrooted hd (by simp [GT.place?])⟩⟩
      exact view_cval k1 k2 (fun _ => .inl) fun x hx => .inr (by simpa [resBlocks] using hx)
    · have h1' : ∀ x,L ≠ [x] := fun x e => h1 ⟨x,e⟩
      have h2' : ∀ x,(L.map fun x => (cellRow x.1,x.2)) ≠ [x] := fun x e => by
        obtain ⟨y,hy⟩ := List.length_eq_one_iff.1 (show L.length = 1 by have := congrArg List.length e; simpa using this)
        exact h1' y hy
      rw [resTV_tup _ h2',resVal_tup h1']
      have hok2 : ∀ x ∈ L.map fun x => (sealG x.1,x.2),AllOk N w (fun x => S x ∨ x ∈ resBlocks L) x.1 ∧ (x.2 = false → ∃ c,x.1 = [c]) := by
        intro x hx
        simp only [List.mem_map] at hx
        obtain ⟨y,hy,rfl⟩ := hx
        obtain ⟨k1,k2⟩ := hok y hy
        refine ⟨sealG_ok k1 (fun _ => .inl) fun x hx => .inr (by simp only [resBlocks,List.mem_flatMap]; exact ⟨y,hy,hx⟩),fun hg => ?_⟩
        obtain ⟨c,hc⟩ := k2 hg
        exact ⟨_,by simp only [hc]; rfl⟩
      have hnil : resBlocks (L.map fun x => (sealG x.1,x.2)) = [] := by
        simp only [resBlocks,List.flatMap_map]
        rw [List.flatMap_eq_nil_iff]
        intro x _
        exact sealG_blocks x.1
      have := tup_pend R' hd hok2 (by rw [hnil]; exact Free.nil) (dst := dst) (cv := .tuple (L.map fun x => cval x.2 x.1).toArray) (by
        simp only [List.map_map,Function.comp_def]
        congr 2
        refine List.map_congr_left fun x hx => (sealG_cval x.1 x.2 (hok x hx).2).symm)
      simp only [List.map_map,Function.comp_def,sealG_cells] at this ⊢
      exact ⟨_,_,fun _ => .inl,R',this⟩
end
end Hm
/- Calls: the caller's side. Conditions: none (plain lemmas). -/
namespace Hm
open Go
section
variable {P : Program} {N : Nm} {F : Fx} {S : Nat → Prop} {s : GS} {st st' : St} {a : Act} {w w' : World} {dst : Option Nat} {o : Oper} {tv : TV}
theorem args_ks : ∀ {xs : List Opd} {ms : List PMode} {st st' : St} {l : List Arg} {t : Bool} {ks : List Nat},args st ms xs = some (l,t,ks,st') → hasIo l = false → ks = []
  | [],ms,st,st',l,t,ks,h,_ => by simp only [args,Option.some.injEq,Prod.mk.injEq] at h; exact h.2.2.1.symm
  | x :: xs,[],st,st',l,t,ks,h,_ => by simp [args] at h
  | x :: xs,m :: ms,st,st',l,t,ks,h,hio => by
    simp only [args] at h
    repeat' split at h
    all_goals cases h
    all_goals simp only [hasIo,reduceCtorEq] at hio
    all_goals exact args_ks ‹args _ ms xs = some _› hio
theorem ArgsOk.nomv {xs : List Arg} {vs : List Value} {l : List Nat} (h : ArgsOk N w S xs vs l) (h1 : hasMv xs = false) (h2 : hasIo xs = false) : l = [] := by
  induction h with
  | nil => rfl
  | @cons x v l xs vs ls hx _ ih =>
    cases hx with
    | val v cv h => exact ih (by simpa [hasMv] using h1) (by simpa [hasIo] using h2)
    | mv gs g hok hg =>
      simp only [hasMv,Bool.or_eq_false_iff,Option.isNone_eq_false_iff] at h1
      obtain ⟨us,hus⟩ := Option.isSome_iff_exists.1 h1.1
      have : blocksRow gs = [] := by
        have := av_blocks (new := [gs]) (vs := us) (by simpa [cellRows] using hus)
        simpa [blocksRows] using this
      rw [this,ih h1.2 (by simpa [hasIo] using h2)]; rfl
    | io gs b e hb hok => simp [hasIo] at h2
theorem Rel.called (R : Rel N F S s st a w) {lb : List Nat} (hno : lb = [] ∨ ∀ k v cv,s.γ k ≠ .ali v none cv) (hf : Free F S s lb) (frm : Frm (· ∈ lb) w w') {S' : Nat → Prop} (h1 : ∀ x,S x → S' x)
    (h2 : ∀ x,S' x → S x ∨ w.heap.size ≤ x ∨ x ∈ lb) (h3 : ∀ x,S' x → x < w'.heap.size) : Rel N F S' s st a w' := by
  have hS : ∀ x,S x → w'.heap[x]? = w.heap[x]? := fun x hx => frm.block x (R.inv.imm x hx) fun h => (hf.mine x h).1 hx
  have hfp : ∀ r x,x ∈ s.fp r → w'.heap[x]? = w.heap[x]? := fun r x hx => frm.block x (R.inv.fp_lt r x hx) fun h => hf.free x h r hx
  refine ⟨⟨fun k => ?_,fun k b e gs hk => ?_,R.inv.nodup,R.inv.apart,fun r x hx => ⟨fun h => ?_,(R.inv.mine r x hx).2⟩,fun x hx => ⟨h3 x hx,(h2 x hx).elim (fun h => (R.inv.immB x h).2) fun h => .inr (h.elim (fun h => .inl (Nat.le_trans R.inv.frm.size h)) fun h => (hf.mine x h).2)⟩,
    ⟨frm.os.trans R.inv.frm.os,frm.tape.trans R.inv.frm.tape,frm.output.trans R.inv.frm.output,Nat.le_trans R.inv.frm.size frm.size,fun b hb' hX => ?_⟩,R.inv.rooted,fun x hx => (R.inv.glob x hx).mono hS h1⟩,R.er,R.tmp,R.size,R.dfr⟩
  · refine GT.ok_mono ?_ h1
    by_cases ha : ∃ v cv,s.γ k = .ali v none cv
    · obtain ⟨v,cv,e⟩ := ha
      have hb : lb = [] := hno.resolve_right fun h => h k v cv e
      subst hb
      have g : Grew w w' := ⟨frm.os,frm.tape,frm.output,frm.size,fun x hx => frm.block x hx (by simp)⟩
      have := R.inv.slot k
      rw [e] at this ⊢
      exact VR.grew' this g
    · exact GT.ok_keep (R.inv.slot k) hS (fun x hx => hfp (.slot k) x hx) fun v cv e => ha ⟨v,cv,e⟩
  · obtain ⟨k1,k2⟩ := R.inv.box k b e gs hk
    have hin : ∀ x ∈ b :: blocksRow gs,x ∈ s.fp (.box k) := fun x hx => by simp only [GS.fp,hk]; exact hx
    exact ⟨by rw [hfp _ b (hin b (by simp))]; exact k1,(AllOk.keep k2 hS fun x hx => hfp _ x (hin x (List.mem_cons_of_mem _ hx))).mono h1⟩
  · rcases h2 x h with h | h | h
    · exact (R.inv.mine r x hx).1 h
    · have := R.inv.fp_lt r x hx; omega
    · exact hf.free x h r hx
  · rw [← R.inv.frm.block b hb' hX]
    refine frm.block b (Nat.lt_of_lt_of_le hb' R.inv.frm.size) fun h => ?_
    rcases (hf.mine b h).2 with h' | h'
    · omega
    · exact hX h'
theorem Rel.fn (R : Rel N F S s st a w) {x : Opd} {y : Operand} (h : okO N x y = true) {f : Nat} {first cs : List AV} {t0 : Bool} (hf : (st.opd x).fn = some (f,first,cs,t0)) :
    ∃ fs vs : Array Value,a.eval y = .func (.func (N.f f)) fs vs ∧ first.length = fs.size ∧ cs.length = vs.size ∧
      (∀ (j : Nat) (v : AV) (u : Value),first[j]? = some v → fs[j]? = some u → VR N w (SA S t0 w) v u) ∧ (∀ (j : Nat) (v : AV) (u : Value),cs[j]? = some v → vs[j]? = some u → VR N w (SA S t0 w) v u) := by
  have key : VR N w (SA S t0 w) (.clo f first cs) (a.eval y) := by
    cases ho : st.opd x with
    | av v =>
      rw [ho] at hf
      cases v <;> simp only [TV.fn,reduceCtorEq,Option.some.injEq,Prod.mk.injEq] at hf
      obtain ⟨rfl,rfl,rfl,rfl⟩ := hf
      rw [SA.false]; exact R.opd_av h ho
    | ali v p =>
      rw [ho] at hf
      cases v <;> simp only [TV.fn,reduceCtorEq,Option.some.injEq,Prod.mk.injEq] at hf
      obtain ⟨rfl,rfl,rfl,rfl⟩ := hf
      exact (R.opd_rd h (by rw [ho]; rfl)).lt.mono (fun _ _ => rfl) fun x hx => .inr ⟨rfl,hx⟩
    | _ => rw [ho] at hf; simp [TV.fn] at hf
  generalize a.eval y = cv at key
  cases key with
  | clo _ _ _ fs vs h1 h2 h3 h4 => exact ⟨fs,vs,rfl,h1,h2,h3,h4⟩
theorem ArgsOk.app {S' : Nat → Prop} {xs ys : List Arg} {vs us : List Value} {l l' : List Nat} (h : ArgsOk N w S' xs vs l) (h' : ArgsOk N w S' ys us l') : ArgsOk N w S' (xs ++ ys) (vs ++ us) (l ++ l') := by
  induction h with
  | nil => exact h'
  | cons h1 _ ih => rw [List.append_assoc]; exact .cons h1 ih
theorem ArgsOk.vals {S' : Nat → Prop} : ∀ {xs : List AV} {vs : List Value},xs.length = vs.length → (∀ (j : Nat) (v : AV) (u : Value),xs[j]? = some v → vs[j]? = some u → VR N w S' v u) → ArgsOk N w S' (xs.map .val) vs []
  | [],[],_,_ => .nil
  | [],_ :: _,h,_ => by simp at h
  | _ :: _,[],h,_ => by simp at h
  | x :: xs,v :: vs,hl,h => .cons (l := []) (.val x v (h 0 x v rfl rfl)) (ArgsOk.vals (by simpa using hl) fun j v u hj hu => h (j + 1) v u (by simpa using hj) (by simpa using hu))
end
end Hm
/- Calls without borrowed variables. Conditions: none (plain lemmas). -/
namespace Hm
open Go
section
variable {P : Program} {N : Nm} {F : Fx} {S : Nat → Prop} {s : GS} {st st' : St} {a : Act} {w w' : World} {dst : Option Nat} {o : Oper} {tv : TV}
theorem hasMv_app (x y : List Arg) : hasMv (x ++ y) = (hasMv x || hasMv y) := by
  induction x with
  | nil => rfl
  | cons a r ih => cases a <;> simp [hasMv,ih,Bool.or_assoc]
theorem hasMv_val (x : List AV) : hasMv (x.map .val) = false := by
  induction x with
  | nil => rfl
  | cons a r ih => simp [hasMv,ih]
theorem hasIo_app (x y : List Arg) : hasIo (x ++ y) = (hasIo x || hasIo y) := by
  induction x with
  | nil => rfl
  | cons a r ih => cases a <;> simp [hasIo,ih]
theorem hasIo_val (x : List AV) : hasIo (x.map .val) = false := by
  induction x with
  | nil => rfl
  | cons a r ih => simp [hasIo,ih]
theorem run_call {f : Nat} {g : Operand} {args : Array Operand} {tys : Array TypeId} {fs vs : Array Value} (ho : o.op = .call { callee := .value g,args,argTypes := tys }) (hg : a.eval g = .func (.func (N.f f)) fs vs)
    (HF : ∀ as w,(callFunc (N.f f) as).run P w = .ok (.enter (N.f f) as) w) : (execOp a.eval o).run P w = .ok (.enter (N.f f) (fs ++ args.map a.eval ++ vs)) w := by
  simp only [execOp,ho,resolve,hg,Deferred.ofValue,invoke,Sem.run_bind,Sem.run_pure,Result.andThen_ok]
  exact HF _ _
theorem scalar_ok {w2 : World} {S1 S2 : Nat → Prop} {gs : List GC} (h : AllOk N w S1 gs) (hs : (cellRow gs).all Cell.scalar = true) : AllOk N w2 S2 gs ∧ blocksRow gs = [] := by
  have key : ∀ c ∈ gs,∃ v cv,c = .av v cv ∧ v.scalar = true := fun c hc => by
    have := List.all_eq_true.1 hs c.cell (by rw [cellRow_eq]; exact List.mem_map_of_mem hc)
    cases c <;> simp [GC.cell,Cell.scalar] at this
    exact ⟨_,_,rfl,this⟩
  constructor
  · intro c hc
    obtain ⟨v,cv,rfl,hv⟩ := key c hc
    have := h _ hc
    cases this with
    | av _ _ h h1 =>
      refine .av v cv ?_ h1
      cases h <;> simp [AV.scalar] at hv
      · exact .int _ _
      · exact .bool _
      · exact .str _
      · exact .nilp
      · exact .nilf
      · exact .nili
  · rw [blocksRow_eq,List.flatMap_eq_nil_iff]
    intro c hc
    obtain ⟨v,cv,rfl,_⟩ := key c hc
    rfl
theorem sim_call {T : Tab} {n : Nat} {sl : Seal} {f : Opd} {xs : List Opd} (R : Rel N F S s st a w) (hd : ∀ d,dst = some d → d ∉ F.roots) (hok : okOp P N F.roots (.call sl f xs) o = true)
    (IH : ∀ g as cr,callF T n g as = some cr → Meets P N g as cr ∧ ∀ vs w,(callFunc (N.f g) vs).run P w = .ok (.enter (N.f g) vs) w)
    (h : stepC T (n + 1) dst (.call sl f xs) st = some (tv,st')) {K : Act → World → Prop} {Q : Exit → Act → World → Prop}
    (hK : ∀ cv w' S' s' g,(∀ b,S b → S' b) → Rel N F S' s' st' a w' → Pend N F S' s' w' dst g tv cv → K (a.put o.dst cv) w') : o.wp P a w K Q := by
  simp only [okOp] at hok
  split at hok
  · rename_i go ars tys ho
    simp only [Bool.and_eq_true] at hok
    obtain ⟨hf,hargs⟩ := hok
    simp only [stepC] at h
    split at h
    · rename_i fn first cs t0 hfn
      split at h
      · rename_i l t ks st1 ha
        split at h
        · cases h
        · rename_i hio
          have hio : hasIo l = false := by simpa using hio
          split at h
          · rename_i cr hcr
            split at h
            · cases h
            · rename_i ht
              simp only [Option.some.injEq,Prod.mk.injEq] at h
              obtain ⟨rfl,rfl⟩ := h
              obtain ⟨hm,HF⟩ := IH _ _ _ hcr
              obtain ⟨fs,vs,hg,f1,f2,f3,f4⟩ := R.fn hf hfn
              have hks := args_ks ha hio
              subst hks
              obtain ⟨S1,s1,lx,lb,bs,a1,R1,a3,a4,a5,a6,_⟩ := args_ok R hargs ha
              have hbs : bs = [] := List.eq_nil_of_length_eq_zero a6.len.symm
              subst hbs
              have hrun := run_call (o := o) (a := a) (w := w) ho hg HF
              unfold Oper.wp
              rw [hrun,Oper.upon_enter]
              have hlist : fs ++ ars.map a.eval ++ vs = (fs.toList ++ ars.toList.map a.eval ++ vs.toList).toArray := by simp
              rw [hlist]
              have hcnt : ∀ x,lx.count x = lb.count x := fun x => by have := a4 x; simpa using this
              have hfr := a5 [] Free.nil
              simp only [List.nil_append] at hfr
              have hfx : Free F S1 s1 lx := hfr.le fun x => by rw [hcnt x]; exact Nat.le_refl _
              have all : ∀ S2 : Nat → Prop,(∀ x,SA S t0 w x → S2 x) → (∀ x,SA S1 t w x → S2 x) → ArgsOk N w S2 (first.map .val ++ l ++ cs.map .val) (fs.toList ++ ars.toList.map a.eval ++ vs.toList) lx := fun S2 g1 g2 => by
                have e1 := ArgsOk.vals (N := N) (w := w) (S' := S2) (xs := first) (vs := fs.toList) (by simpa using f1) fun j v u hj hu => (f3 j v u hj (by simpa using hu)).mono (fun _ _ => rfl) g1
                have e2 := ArgsOk.vals (N := N) (w := w) (S' := S2) (xs := cs) (vs := vs.toList) (by simpa using f2) fun j v u hj hu => (f4 j v u hj (by simpa using hu)).mono (fun _ _ => rfl) g1
                simpa using (e1.app (a3.mono g2)).app e2
              by_cases htt : (t0 || t) = true
              · simp only [htt,Bool.true_and,Bool.not_eq_true,Bool.or_eq_false_iff,Bool.not_eq_false'] at ht
                obtain ⟨hmv,hsc⟩ := ht
                rw [if_neg (by simp [hmv])] at hK
                have hA := all (fun x => x < w.heap.size) (fun x hx => hx.elim (R.inv.imm x) fun h => h.2) (fun x hx => hx.elim (R1.inv.imm x) fun h => h.2)
                have hlx : lx = [] := hA.nomv (by simp [hasMv_app,hasMv_val,hmv]) (by simp [hasIo_app,hasIo_val,hio])
                subst hlx
                refine (hm w _ _ [] hA List.nodup_nil (by simp) (fun x hx => hx) fun x hx => (R1.inv.glob x hx).lt).mono fun e w' he => ?_
                obtain ⟨v,S',L,lo,rfl,LF⟩ := he
                have g : Grew w w' := ⟨LF.frm.os,LF.frm.tape,LF.frm.output,LF.frm.size,fun x hx => LF.frm.block x hx (by simp)⟩
                have hsc' : ∀ x ∈ L,(cellRow x.1).all Cell.scalar = true := fun x hx => by
                  rw [LF.res,allScalar,List.all_eq_true] at hsc
                  exact hsc (cellRow x.1,x.2) (List.mem_map_of_mem (f := fun x : List GC × Bool => (cellRow x.1,x.2)) hx)
                have hnil : resBlocks L = [] := by
                  rw [resBlocks,List.flatMap_eq_nil_iff]
                  intro x hx
                  exact (scalar_ok (w2 := w') (S2 := S1) (LF.ok x hx).1 (hsc' x hx)).2
                obtain ⟨S3,g',g1,g2,g3⟩ := res_pend (R1.grew g) hd (fun x hx => ⟨(scalar_ok (LF.ok x hx).1 (hsc' x hx)).1,(LF.ok x hx).2⟩) (by rw [hnil]; exact Free.nil) sl
                rw [← LF.res,← LF.val] at g3
                exact hK v w' S3 s1 g' (fun x hx => g1 x (a1 x hx)) g2 g3
              · have ht0 : t0 = false ∧ t = false := by simpa using htt
                obtain ⟨rfl,rfl⟩ := ht0
                simp only [SA.false] at all
                have hS1 := all S1 a1 fun x h => h
                refine (hm w S1 _ lx hS1 hfx.nodup (fun x hx => (hfx.mine x hx).1) R1.inv.imm R1.inv.glob).mono fun e w' he => ?_
                obtain ⟨v,S',L,lo,rfl,LF⟩ := he
                have fin : ∀ s2 st2,(∀ r,s2.fp r = s1.fp r) → Rel N F S' s2 st2 a w' →
                    (∀ cv w' S' s' g,(∀ b,S b → S' b) → Rel N F S' s' st2 a w' → Pend N F S' s' w' dst g (resTV sl cr.res) cv → K (a.put o.dst cv) w') → K (a.put o.dst v) w' := by
                  intro s2 st2 hfp R2 hK
                  have hfree : Free F S' s2 (resBlocks L) := by
                    refine ⟨LF.nodup.sublist (List.sublist_append_left _ _),fun x hx r hx' => ?_,fun x hx => ?_⟩
                    · rw [hfp] at hx'
                      rcases (LF.free x (List.mem_append_left _ hx)).2 with h | h
                      · have := R1.inv.fp_lt r x hx'; omega
                      · exact hfx.free x h r hx'
                    · obtain ⟨h1,h2⟩ := LF.free x (List.mem_append_left _ hx)
                      refine ⟨h1,?_⟩
                      rcases h2 with h | h
                      · exact .inl (Nat.le_trans R1.inv.frm.size h)
                      · exact (hfx.mine x h).2
                  obtain ⟨S3,g,g1,g2,g3⟩ := res_pend R2 hd LF.ok hfree sl
                  rw [← LF.res,← LF.val] at g3
                  exact hK v w' S3 s2 g (fun x hx => g1 x (LF.more x (a1 x hx))) g2 g3
                by_cases hmv : hasMv l = true
                · rw [if_pos hmv] at hK
                  exact fin s1.hush st1.hush (fun r => s1.hush_fp r) (R1.hush.called (.inr s1.hush_none) hfx.hush LF.frm LF.more LF.bound LF.lt) hK
                · rw [if_neg hmv] at hK
                  have hlx : lx = [] := hS1.nomv (by simp [hasMv_app,hasMv_val,hmv]) (by simp [hasIo_app,hasIo_val,hio])
                  exact fin s1 st1 (fun _ => rfl) (R1.called (.inl hlx) hfx LF.frm LF.more LF.bound LF.lt) hK
          · cases h
      · cases h
    · cases h
  · cases hok
end
end Hm
/- All operations but calls. Conditions: none (plain lemmas). -/
namespace Hm
open Go
def AOp.pure : AOp → Bool
  | .mv _ | .mvr _ | .mvt _ | .asg _ | .asgs _ | .asgo _ | .pick _ _ _ | .build _ _ | .buildZ _ _ | .nilc _ | .bin _ _ _ | .binB _ _ _ | .isnil _ _ _ | .un _ _ | .conv _ _ | .mki _ _ | .mkf _ _ _ | .slc _ _ _ _ _
  | .fadr _ _ | .fld _ _ _ _ | .iadr _ _ _ | .iadrR _ _ _ | .mvh _ | .iadrH _ _ _ | .iadrA _ _ _ _ | .idxA _ _ _ _ _ | .idxS _ _ | .ext _ _ | .tas _ _ _ | .len _ _ | .mm _ _ => true
  | _ => false
def AOp.asgo? : AOp → Bool
  | .asgo _ => true
  | .appendR _ _ _ _ => true
  | _ => false
section
variable {P : Program} {N : Nm} {F : Fx} {S : Nat → Prop} {s : GS} {st st' : St} {a : Act} {w w' : World} {dst : Option Nat} {o : Oper} {tv : TV}
theorem sim_pure {op : AOp} (R : Rel N F S s st a w) (hd : op.asgo? = false → ∀ d,dst = some d → d ∉ F.roots) (hp : op.pure = true) (hok : okOp P N F.roots op o = true)
    (h : stepOp dst op st = some (tv,st')) : PureDone P N F S st' a w dst tv (execOp a.eval o) := by
  cases op with
  | asgo x => exact sim_asgo R hok h
  | mv x => exact sim_mv R (hd rfl) hok h
  | mvr n => exact sim_mvr R (hd rfl) hok h
  | mvt n => exact sim_mvt R (hd rfl) hok h
  | asg x => exact sim_asg R (hd rfl) hok h
  | asgs x => exact sim_asgs R (hd rfl) hok h
  | pick c x y => exact sim_pick R (hd rfl) hok h
  | build z p => exact sim_build R (hd rfl) hok h
  | buildZ z p => exact sim_buildZ R (hd rfl) hok h
  | nilc x => exact sim_nilc R (hd rfl) hok h
  | bin op x y => exact sim_bin R (hd rfl) hok h
  | binB n x y => exact sim_binB R (hd rfl) hok h
  | isnil k n x => exact sim_isnil R (hd rfl) hok h
  | un op x => exact sim_un R (hd rfl) hok h
  | conv c x => exact sim_conv R (hd rfl) hok h
  | mki t x => exact sim_mki' R (hd rfl) hok h
  | mkf f x y => exact sim_mkf R (hd rfl) hok h
  | slc i k x l h' => exact sim_slc R (hd rfl) hok h
  | fadr o x => exact sim_fadr R (hd rfl) hok h
  | fld o n g x => exact sim_fld R (hd rfl) hok h
  | iadr k x i => exact sim_iadr R (hd rfl) hok h
  | iadrR k n i => exact sim_iadrR R (hd rfl) hok h
  | mvh n => exact sim_mvh R (hd rfl) hok h
  | iadrH k m i => exact sim_iadrH R (hd rfl) hok h
  | iadrA n k x i => exact sim_iadrA R (hd rfl) hok h
  | idxA n k g x i => exact sim_idxA R (hd rfl) hok h
  | idxS x i => exact sim_idxS R (hd rfl) hok h
  | ext x i => exact sim_ext R (hd rfl) hok h
  | tas t k x => exact sim_tas R (hd rfl) hok h
  | len i x => exact sim_len R (hd rfl) hok h
  | mm i x => exact sim_mm R (hd rfl) hok h
  | _ => simp [AOp.pure] at hp
theorem sim_op {op : AOp} (R : Rel N F S s st a w) (hd : op.asgo? = false → ∀ d,dst = some d → d ∉ F.roots) (hok : okOp P N F.roots op o = true)
    (h : stepOp dst op st = some (tv,st')) : OpDone N F S st' a dst tv ((execOp a.eval o).run P w) := by
  by_cases hp : op.pure = true
  · exact (sim_pure R hd hp hok h).op
  · cases op with
    | alloc z => exact sim_alloc R (hd rfl) hok h
    | box x => exact sim_box R (hd rfl) hok h
    | buildS n k z p => exact sim_buildS R (hd rfl) hok h
    | load n g x => exact sim_load R (hd rfl) hok h
    | loadC n x => exact sim_loadC R (hd rfl) hok h
    | take n g x => exact sim_take R (hd rfl) hok h
    | store n x y => exact sim_store R (hd rfl) hok h
    | mks z l c => exact sim_mks R (hd rfl) hok h
    | append b k x y => exact sim_append R (hd rfl) hok h
    | appendR b k x y => exact sim_appendR R hok h
    | storeR n x m => exact sim_storeR R (hd rfl) hok h
    | call s f xs => simp [stepOp] at h
    | callM s f xs => simp [stepOp] at h
    | fail => simp [stepOp] at h
    | _ => simp [AOp.pure] at hp
end
end Hm
