/- The tie between the abstract machine and the model, third part. Conditions: none (plain lemmas). -/
import Derived.Test.YtaemcgnkpfbenaaGreatDoorHC
import Derived.OneCell
import Derived.LoopN
import Derived.Lib.Bytealg
import Derived.ChangeArms
import Derived.Carry
import Derived.ChangeShapes
import Derived.LaidLaws
import Derived.Lib.LaidTab
set_option linter.unusedVariables false
set_option linter.unusedSimpArgs false
/- Calls with a borrowed variable. Conditions: none (plain lemmas). -/
namespace Hm
open Go
section
variable {P : Program} {N : Nm} {F : Fx} {S : Nat → Prop} {s : GS} {st st' : St} {a : Act} {w w' : World} {dst : Option Nat} {o : Oper} {tv : TV}
def GS.back (s : GS) (k b : Nat) (e : TypeId) (gs : List GC) : GS := ⟨fun j => clrG ⟨.box k,[],0⟩ gs.length (s.γ j),upd s.β k (some (b,e,gs))⟩
theorem GS.back_root (s : GS) (k b : Nat) (e : TypeId) (gs : List GC) {q : Root} (h : q ≠ .box k) : (s.back k b e gs).root q = s.root q := by
  cases q with
  | box j => have : j ≠ k := fun e => h (by rw [e])
             simp only [GS.root,GS.back,upd_ne _ _ this]
  | slot j => exact clrG_root _ _ (s.γ j)
theorem GS.back_fp (s : GS) (k b : Nat) (e : TypeId) (gs : List GC) {q : Root} (h : q ≠ .box k) : (s.back k b e gs).fp q = s.fp q := by
  cases q with
  | box j => have : j ≠ k := fun e => h (by rw [e])
             simp only [GS.fp,GS.back,upd_ne _ _ this]
  | slot j => exact clrG_blocks _ _ (s.γ j)
theorem GS.back_fp_same (s : GS) (k b : Nat) (e : TypeId) (gs : List GC) : (s.back k b e gs).fp (.box k) = b :: blocksRow gs := by simp [GS.fp,GS.back]
theorem dead_blocks {gs : List GC} (h : ∀ c ∈ gs,∃ v,c = .dead v) : blocksRow gs = [] := by
  rw [blocksRow_eq,List.flatMap_eq_nil_iff]
  intro c hc
  obtain ⟨v,rfl⟩ := h c hc
  rfl
theorem Rel.back (R : Rel N F S s st a w) {k b : Nat} {e0 e : TypeId} {gs0 gs : List GC} (hβ : s.β k = some (b,e0,gs0)) (hdead : ∀ c ∈ gs0,∃ v,c = .dead v) (hlen : gs.length = gs0.length)
    {lb : List Nat} (hf : Free F S s lb) (frm : Frm (· ∈ b :: lb) w w') {S' : Nat → Prop} (h1 : ∀ x,S x → S' x) (h2 : ∀ x,S' x → S x ∨ w.heap.size ≤ x ∨ x ∈ b :: lb) (h3 : ∀ x,S' x → x < w'.heap.size)
    (hb : w'.heap[b]? = some (.cells (gs.map GC.val).toArray e (0,0))) (hok : AllOk N w' S' gs) (hnd : (b :: blocksRow gs).Nodup) (hfree : ∀ x ∈ b :: blocksRow gs,¬ S' x ∧ (w.heap.size ≤ x ∨ x ∈ b :: lb)) :
    Rel N F S' (s.back k b e gs) (st.back k (cellRow gs)) a w' := by
  have hbfp : s.fp (.box k) = [b] := by simp only [GS.fp,hβ,dead_blocks hdead]
  have hbin : b ∈ s.fp (.box k) := by rw [hbfp]; simp
  have hS : ∀ x,S x → w'.heap[x]? = w.heap[x]? := fun x hx => frm.block x (R.inv.imm x hx) fun h => by
    rcases List.mem_cons.1 h with rfl | h
    · exact (R.inv.mine _ _ hbin).1 hx
    · exact (hf.mine x h).1 hx
  have hfp : ∀ r x,r ≠ .box k → x ∈ s.fp r → w'.heap[x]? = w.heap[x]? := fun r x hr hx => frm.block x (R.inv.fp_lt r x hx) fun h => by
    rcases List.mem_cons.1 h with rfl | h
    · exact hr (R.inv.apart r (.box k) _ hx hbin)
    · exact hf.free x h r hx
  have hnot : ∀ r x,r ≠ .box k → x ∈ s.fp r → x ∉ b :: blocksRow gs := fun r x hr hx hx' => by
    rcases (hfree x hx').2 with h | h
    · have := R.inv.fp_lt r x hx; omega
    · rcases List.mem_cons.1 h with rfl | h
      · exact hr (R.inv.apart r (.box k) _ hx hbin)
      · exact hf.free x h r hx
  have hloc : ∀ q : Place,q.root ≠ .box k → (s.back k b e gs).loc q = s.loc q := fun q hq => by simp only [GS.loc,s.back_root k b e gs hq]
  have hmine : ∀ x ∈ b :: lb,F.mine x := fun x hx => by
    rcases List.mem_cons.1 hx with rfl | hx
    · exact (R.inv.mine _ _ hbin).2
    · exact (hf.mine x hx).2
  refine ⟨⟨fun j => ?_,fun j b' e' gs' hj => ?_,fun r => ?_,fun r r' x hx hx' => ?_,fun r x hx => ?_,
    fun x hx => ⟨h3 x hx,(h2 x hx).elim (fun h => (R.inv.immB x h).2) fun h => .inr (h.elim (fun h => .inl (Nat.le_trans R.inv.frm.size h)) (hmine x))⟩,
    ⟨frm.os.trans R.inv.frm.os,frm.tape.trans R.inv.frm.tape,frm.output.trans R.inv.frm.output,Nat.le_trans R.inv.frm.size frm.size,fun x hx hX => ?_⟩,fun j q hq n hn => ?_,fun x hx => (R.inv.glob x hx).mono hS h1⟩,⟨fun j => ?_,fun j => ?_⟩,fun j => ?_,R.size,R.dfr⟩
  · show (clrG ⟨.box k,[],0⟩ gs.length (s.γ j)).ok N w' S' (s.back k b e gs)
    have h := R.inv.slot j
    by_cases hn : ∃ v cv,s.γ j = .ali v none cv
    · obtain ⟨v,cv,e⟩ := hn
      rw [e]; trivial
    have hk := GT.ok_mono (GT.ok_keep h hS (fun x hx => hfp (.slot j) x (by simp) hx) fun v cv e => hn ⟨v,cv,e⟩) h1
    generalize s.γ j = t at h hk hn
    cases t with
    | ali v q cv =>
      cases q with
      | none => exact absurd ⟨v,cv,rfl⟩ hn
      | some q =>
        by_cases hq : q.root = .box k
        · simp only [clrG,if_pos hq]; trivial
        · simp only [clrG,if_neg hq]
          exact GT.ok_of_loc hk fun p hp => by simp only [GT.place?,Option.some.injEq] at hp; subst hp; exact hloc q hq
    | plc q ad =>
      by_cases hq : q.root = .box k
      · obtain ⟨b1,base,r,l1,l2,l3⟩ := h
        cases hp : q.path with
        | nil =>
          have : ¬ (q.root = Root.box k ∧ TV.clr.hits ⟨.box k,[],0⟩ gs.length (q.path.map (·.1)) (([] : List (Nat × Nat)).map (·.1)) = true) := by
            rw [hp]; simp [TV.clr.hits]
          simp only [clrG]
          rw [if_neg this]
          simp only [GS.loc,GS.root,hq,hβ,hp,locRow,Option.map_some,Option.some.injEq,Prod.mk.injEq] at l1
          obtain ⟨⟨rfl,rfl⟩,rfl⟩ := l1
          exact ⟨b,0,gs,by simp [GS.loc,GS.root,hq,GS.back,hp,locRow],by omega,l3⟩
        | cons oi ps =>
          obtain ⟨o',i'⟩ := oi
          simp only [GS.loc,GS.root,hq,hβ,hp,locRow] at l1
          cases hg : gs0[o']? with
          | none => simp [hg] at l1
          | some c =>
            obtain ⟨v,rfl⟩ := hdead c (List.mem_of_getElem? hg)
            simp [hg] at l1
      · simp only [clrG]
        rw [if_neg fun h => hq h.1]
        exact GT.ok_of_loc hk fun p hp => by simp only [GT.place?,Option.some.injEq] at hp; subst hp; exact hloc q hq
    | hd q l ad =>
      by_cases hq : q.root = .box k
      · obtain ⟨b1,base,r,cap,l1,l3⟩ := h
        cases hp : q.path with
        | nil =>
          have : ¬ (q.root = Root.box k ∧ TV.clr.hits ⟨.box k,[],0⟩ gs.length (q.path.map (·.1)) (([] : List (Nat × Nat)).map (·.1)) = true) := by
            rw [hp]; simp [TV.clr.hits]
          simp only [clrG]
          rw [if_neg this]
          simp only [GS.loc,GS.root,hq,hβ,hp,locRow,Option.map_some,Option.some.injEq,Prod.mk.injEq] at l1
          obtain ⟨⟨rfl,rfl⟩,rfl⟩ := l1
          exact ⟨b,0,gs,cap,by simp [GS.loc,GS.root,hq,GS.back,hp,locRow],l3⟩
        | cons oi ps =>
          obtain ⟨o',i'⟩ := oi
          simp only [GS.loc,GS.root,hq,hβ,hp,locRow] at l1
          cases hg : gs0[o']? with
          | none => simp [hg] at l1
          | some c =>
            obtain ⟨v,rfl⟩ := hdead c (List.mem_of_getElem? hg)
            simp [hg] at l1
      · simp only [clrG]
        rw [if_neg fun h => hq h.1]
        exact GT.ok_of_loc hk fun p hp => by simp only [GT.place?,Option.some.injEq] at hp; subst hp; exact hloc q hq
    | av v cv => exact hk
    | own gs' g => exact hk
    | tup l vs => exact hk
    | skp => trivial
    | und cv => trivial
  · by_cases hjk : j = k
    · subst hjk
      simp only [GS.back,upd_same,Option.some.injEq,Prod.mk.injEq] at hj
      obtain ⟨rfl,rfl,rfl⟩ := hj
      exact ⟨hb,hok⟩
    · simp only [GS.back,upd_ne _ _ hjk] at hj
      obtain ⟨k1,k2⟩ := R.inv.box j b' e' gs' hj
      have hne : Root.box j ≠ .box k := fun e => hjk (by injection e)
      have hin : ∀ x ∈ b' :: blocksRow gs',x ∈ s.fp (.box j) := fun x hx => by simp only [GS.fp,hj]; exact hx
      exact ⟨by rw [hfp _ b' hne (hin b' (by simp))]; exact k1,(AllOk.keep k2 hS fun x hx => hfp _ x hne (hin x (List.mem_cons_of_mem _ hx))).mono h1⟩
  · by_cases h : r = .box k
    · subst h; rw [s.back_fp_same]; exact hnd
    · rw [s.back_fp k b e gs h]; exact R.inv.nodup r
  · by_cases h : r = .box k
    · subst h
      by_cases h' : r' = .box k
      · exact h'.symm
      · rw [s.back_fp_same] at hx; rw [s.back_fp k b e gs h'] at hx'; exact absurd hx (hnot r' x h' hx')
    · rw [s.back_fp k b e gs h] at hx
      by_cases h' : r' = .box k
      · subst h'; rw [s.back_fp_same] at hx'; exact absurd hx' (hnot r x h hx)
      · rw [s.back_fp k b e gs h'] at hx'; exact R.inv.apart r r' x hx hx'
  · by_cases h : r = .box k
    · subst h
      rw [s.back_fp_same] at hx
      refine ⟨(hfree x hx).1,?_⟩
      rcases (hfree x hx).2 with h | h
      · exact .inl (Nat.le_trans R.inv.frm.size h)
      · rcases List.mem_cons.1 h with rfl | h
        · exact (R.inv.mine _ _ hbin).2
        · exact (hf.mine x h).2
    · rw [s.back_fp k b e gs h] at hx
      refine ⟨fun hS' => ?_,(R.inv.mine r x hx).2⟩
      rcases h2 x hS' with h' | h' | h'
      · exact (R.inv.mine r x hx).1 h'
      · have := R.inv.fp_lt r x hx; omega
      · rcases List.mem_cons.1 h' with rfl | h'
        · exact h (R.inv.apart r (.box k) _ hx hbin)
        · exact hf.free x h' r hx
  · rw [← R.inv.frm.block x hx hX]
    refine frm.block x (Nat.lt_of_lt_of_le hx R.inv.frm.size) fun h => ?_
    have hm : F.mine x := by
      rcases List.mem_cons.1 h with rfl | h
      · exact (R.inv.mine _ _ hbin).2
      · exact (hf.mine x h).2
    rcases hm with h' | h'
    · omega
    · exact hX h'
  · obtain ⟨h1,_,_⟩ := clrG_place _ _ (s.γ j) q hq
    exact R.inv.rooted j q h1 n hn
  · show (clrG _ _ (s.γ j)).tv = getE (clrE _ _ st.env) j
    rw [getE_clrE,← R.er.env j,cellRow_length]; exact clrG_tv _ _ _
  · show _ = getB (upd st.boxes k (some (cellRow gs))) j
    rw [getB_upd]
    by_cases h : k = j
    · subst h; simp [GS.back]
    · rw [if_neg h,← R.er.box j]
      simp only [GS.back,upd_ne _ _ (fun e => h e.symm)]
  · rw [R.tmp j]; exact (clrG_val _ _ _).symm
end
end Hm
/- Calls with borrowed variables: the operation. Conditions: none (plain lemmas). -/
namespace Hm
open Go
section
variable {P : Program} {N : Nm} {F : Fx} {S : Nat → Prop} {s : GS} {st st' : St} {a : Act} {w w' : World} {dst : Option Nat} {o : Oper} {tv : TV}
theorem OutsOk.vals {S' : Nat → Prop} : ∀ {xs : List AV} {vs : List Value} {ys : List Arg} {us : List Value} {os : List (List Cell)} {l : List Nat},xs.length = vs.length → OutsOk N w S' (xs.map .val ++ ys) (vs ++ us) os l → OutsOk N w S' ys us os l
  | [],[],ys,us,os,l,_,h => h
  | [],_ :: _,_,_,_,_,h,_ => by simp at h
  | _ :: _,[],_,_,_,_,h,_ => by simp at h
  | x :: xs,v :: vs,ys,us,os,l,hl,h => by
    cases h with
    | val h => exact OutsOk.vals (by simpa using hl) h
theorem OutsOk.of_io {S' : Nat → Prop} {s : GS} : ∀ {l : List Arg} {vs : List Value} {ks bs : List Nat} {cs : List AV} {us : List Value} {os : List (List Cell)} {lo : List Nat},IoOk s l vs ks bs →
    OutsOk N w S' (l ++ cs.map .val) (vs ++ us) os lo → cs.length = us.length →
    (ks = [] → os = [] ∧ lo = []) ∧ ∀ k b,ks = [k] → bs = [b] → ∃ gs e,os = [cellRow gs] ∧ w.heap[b]? = some (.cells (gs.map GC.val).toArray e (0,0)) ∧ AllOk N w S' gs ∧ lo = b :: blocksRow gs ∧
      ∃ e0 gs0,s.β k = some (b,e0,gs0) ∧ (∀ c ∈ gs0,∃ v,c = .dead v) ∧ gs.length = gs0.length := by
  have nil : ∀ {cs : List AV} {us : List Value} {os : List (List Cell)} {lo : List Nat},OutsOk N w S' (cs.map .val) us os lo → cs.length = us.length → os = [] ∧ lo = [] := by
    intro cs
    induction cs with
    | nil => intro us os lo h hl
             cases us with
             | nil => cases h; exact ⟨rfl,rfl⟩
             | cons _ _ => simp at hl
    | cons c cs ih => intro us os lo h hl
                      cases h with
                      | val h => exact ih h (by simpa using hl)
  intro l vs ks bs cs us os lo hio
  induction hio generalizing os lo with
  | nil => intro h hl; exact ⟨fun _ => nil h hl,(fun k b e => nomatch e)⟩
  | val _ ih => intro h hl
                cases h with
                | val h => exact ih h hl
  | mv _ ih => intro h hl
               cases h with
               | mv h => exact ih h hl
  | @io k0 b0 e0 gs0 cs0 xs vs ks bs hβ hd hlen _ ih =>
    intro h hl
    refine ⟨(fun e => nomatch e),fun k b hk hb => ?_⟩
    simp only [List.cons.injEq] at hk hb
    obtain ⟨rfl,hk⟩ := hk
    obtain ⟨rfl,hb⟩ := hb
    cases h with
    | io gs e hh hok hl' h =>
      obtain ⟨r1,r2⟩ := (ih h hl).1 hk
      subst r1; subst r2
      exact ⟨gs,e,rfl,hh,hok,by simp,e0,gs0,hβ,hd,by omega⟩
end
end Hm
/- Calls with a borrowed variable: the operation. Conditions: none (plain lemmas). -/
namespace Hm
open Go
section
variable {P : Program} {N : Nm} {F : Fx} {S : Nat → Prop} {s : GS} {st st' : St} {a : Act} {w w' : World} {dst : Option Nat} {o : Oper} {tv : TV}
theorem IoOk.one {l : List Arg} {vs : List Value} {ks bs : List Nat} (h : IoOk s l vs ks bs) {k b : Nat} (hk : ks = [k]) (hb : bs = [b]) : ∃ e gs,s.β k = some (b,e,gs) ∧ ∀ c ∈ gs,∃ v,c = .dead v := by
  induction h with
  | nil => cases hk
  | io hβ hd _ _ _ =>
    simp only [List.cons.injEq] at hk hb
    obtain ⟨rfl,_⟩ := hk
    obtain ⟨rfl,_⟩ := hb
    exact ⟨_,_,hβ,hd⟩
  | val _ ih => exact ih hk hb
  | mv _ ih => exact ih hk hb
theorem sim_callM {T : Tab} {n : Nat} {sl : Seal} {f : Opd} {xs : List Opd} (R : Rel N F S s st a w) (hd : ∀ d,dst = some d → d ∉ F.roots) (hok : okOp P N F.roots (.callM sl f xs) o = true)
    (IH : ∀ g as cr,callF T n g as = some cr → Meets P N g as cr ∧ ∀ vs w,(callFunc (N.f g) vs).run P w = .ok (.enter (N.f g) vs) w)
    (h : stepC T (n + 1) dst (.callM sl f xs) st = some (tv,st')) {K : Act → World → Prop} {Q : Exit → Act → World → Prop}
    (hK : ∀ cv w' S' s' g,(∀ b,S b → S' b) → Rel N F S' s' st' a w' → Pend N F S' s' w' dst g tv cv → K (a.put o.dst cv) w') : o.wp P a w K Q := by
  simp only [okOp] at hok
  split at hok
  · rename_i go ars tys ho
    simp only [Bool.and_eq_true] at hok
    obtain ⟨hf,hargs⟩ := hok
    simp only [stepC] at h
    split at h
    · rename_i fn first cs t0 hfn
      split at h
      · rename_i l t ks st1 ha
        split at h
        · cases h
        · rename_i ht
          have ht0 : t0 = false ∧ t = false := by simpa using ht
          obtain ⟨rfl,rfl⟩ := ht0
          split at h
          · rename_i cr hcr
            obtain ⟨hm,HF⟩ := IH _ _ _ hcr
            obtain ⟨fs,vs,hg,f1,f2,f3,f4⟩ := R.fn hf hfn
            obtain ⟨S1,s1,lx,lb,bs,a1,R1,a3,a4,a5,a6,_⟩ := args_ok R hargs ha
            simp only [SA.false] at f3 f4 a3
            have hrun := run_call (o := o) (a := a) (w := w) ho hg HF
            unfold Oper.wp
            rw [hrun,Oper.upon_enter]
            have hlist : fs ++ ars.map a.eval ++ vs = (fs.toList ++ ars.toList.map a.eval ++ vs.toList).toArray := by simp
            rw [hlist]
            have hfb := a5 [] Free.nil
            simp only [List.nil_append] at hfb
            have hA : ArgsOk N w S1 (first.map .val ++ l ++ cs.map .val) (fs.toList ++ ars.toList.map a.eval ++ vs.toList) lx := by
              have e1 := ArgsOk.vals (N := N) (w := w) (S' := S1) (xs := first) (vs := fs.toList) (by simpa using f1) fun j v u hj hu => (f3 j v u hj (by simpa using hu)).mono (fun _ _ => rfl) a1
              have e2 := ArgsOk.vals (N := N) (w := w) (S' := S1) (xs := cs) (vs := vs.toList) (by simpa using f2) fun j v u hj hu => (f4 j v u hj (by simpa using hu)).mono (fun _ _ => rfl) a1
              simpa using (e1.app a3).app e2
            have outs : ∀ {w' S' os lo},OutsOk N w' S' (first.map .val ++ l ++ cs.map .val) (fs.toList ++ ars.toList.map a.eval ++ vs.toList) os lo →
                OutsOk N w' S' (l ++ cs.map .val) (ars.toList.map a.eval ++ vs.toList) os lo := fun h => by
              rw [List.append_assoc,List.append_assoc] at h
              exact OutsOk.vals (by simpa using f1) h
            have frees : ∀ {w' S' v L lo} {s2 : GS},Left N w S1 (first.map .val ++ l ++ cs.map .val) (fs.toList ++ ars.toList.map a.eval ++ vs.toList) lx cr v w' S' L lo → (∀ r x,x ∈ s2.fp r → x ∈ s1.fp r ∧ x ∉ bs ∨ x ∈ lo) →
                (∀ x ∈ resBlocks L,F.mine x) → Free F S' s2 (resBlocks L) := by
              intro w' S' v L lo s2 LF hfp hm
              obtain ⟨n1,n2,n3⟩ := List.nodup_append.1 LF.nodup
              refine ⟨n1,fun x hx r hx' => ?_,fun x hx => ⟨(LF.free x (List.mem_append_left _ hx)).1,hm x hx⟩⟩
              rcases hfp r x hx' with ⟨h1,h2⟩ | h1
              · rcases (LF.free x (List.mem_append_left _ hx)).2 with h | h
                · have := R1.inv.fp_lt r x h1; omega
                · have h3 := a4 x
                  rw [mem_of_count] at h
                  have h4 : bs.count x = 0 := List.count_eq_zero.2 h2
                  have h5 : lb.count x = 0 := List.count_eq_zero.2 fun h => hfb.free x h r h1
                  omega
              · exact n3 x hx x h1 rfl
            cases hks : ks with
            | nil =>
              cases hout : cr.outs with
              | cons _ _ => rw [hks,hout] at h; cases h
              | nil =>
                rw [hks,hout] at h
                simp only [Option.some.injEq,Prod.mk.injEq] at h
                obtain ⟨rfl,rfl⟩ := h
                have hbs : bs = [] := List.eq_nil_of_length_eq_zero (by rw [← a6.len,hks]; rfl)
                subst hbs
                have hfx : Free F S1 s1 lx := hfb.le fun x => by have := a4 x; simp at this; omega
                refine (hm w S1 _ lx hA hfx.nodup (fun x hx => (hfx.mine x hx).1) R1.inv.imm R1.inv.glob).mono fun e w' he => ?_
                obtain ⟨v,S',L,lo,rfl,LF⟩ := he
                have R2 := R1.hush.called (.inr s1.hush_none) hfx.hush LF.frm LF.more LF.bound LF.lt
                have hfree := frees (s2 := s1.hush) LF (fun r x hx => .inl ⟨by rwa [s1.hush_fp] at hx,by simp⟩) fun x hx => by
                  rcases (LF.free x (List.mem_append_left _ hx)).2 with h | h
                  · exact .inl (Nat.le_trans R1.inv.frm.size h)
                  · exact (hfx.mine x h).2
                obtain ⟨S3,g,g1,g2,g3⟩ := res_pend R2 hd LF.ok hfree sl
                rw [← LF.res,← LF.val] at g3
                exact hK v w' S3 s1.hush g (fun x hx => g1 x (LF.more x (a1 x hx))) g2 g3
            | cons k ks' =>
              cases ks' with
              | cons _ _ => rw [hks] at h; cases hout : cr.outs with
                | nil => rw [hout] at h; cases h
                | cons _ q => rw [hout] at h; cases q <;> cases h
              | nil =>
                cases hout : cr.outs with
                | nil => rw [hks,hout] at h; cases h
                | cons out q =>
                  cases q with
                  | cons _ _ => rw [hks,hout] at h; cases h
                  | nil =>
                    rw [hks,hout] at h
                    simp only [Option.some.injEq,Prod.mk.injEq] at h
                    obtain ⟨rfl,rfl⟩ := h
                    obtain ⟨b,hbs⟩ := List.length_eq_one_iff.1 (show bs.length = 1 by rw [← a6.len,hks]; rfl)
                    subst hbs
                    rw [hks] at a6
                    obtain ⟨e0,gs0,hβ,hdead⟩ := a6.one rfl rfl
                    have hbin : b ∈ s1.fp (.box k) := by simp only [GS.fp,hβ]; simp
                    have hcnt : ∀ x,lx.count x = (b :: lb).count x := fun x => by have := a4 x; simp only [List.count_cons,List.count_nil] at this ⊢; omega
                    have hmem : ∀ x,x ∈ lx ↔ x ∈ b :: lb := fun x => by rw [mem_of_count,mem_of_count,hcnt x]
                    have hbl : (b :: lb).Nodup := List.nodup_cons.2 ⟨fun h => hfb.free b h _ hbin,hfb.nodup⟩
                    have hmine : ∀ x ∈ b :: lb,¬ S1 x ∧ F.mine x := fun x hx => by
                      rcases List.mem_cons.1 hx with rfl | hx
                      · exact R1.inv.mine _ _ hbin
                      · exact hfb.mine x hx
                    refine (hm w S1 _ lx hA (List.nodup_iff_count.2 fun x => by rw [hcnt x]; exact List.nodup_iff_count.1 hbl x) (fun x hx => (hmine x ((hmem x).1 hx)).1) R1.inv.imm R1.inv.glob).mono fun e w' he => ?_
                    obtain ⟨v,S',L,lo,rfl,LF⟩ := he
                    obtain ⟨gs,e,o1,o2,o3,o4,e0',gs0',o5,o6,o7⟩ := (OutsOk.of_io a6 (outs LF.outs) (by simpa using f2)).2 k b rfl rfl
                    rw [hout] at o1
                    simp only [List.cons.injEq,and_true] at o1
                    subst o1
                    rw [hβ] at o5
                    simp only [Option.some.injEq,Prod.mk.injEq,true_and] at o5
                    obtain ⟨rfl,rfl⟩ := o5
                    have hfrees := fun x hx => (fun h => ⟨h.1,h.2.imp id (hmem x).1⟩ : _ → _ ∧ _) (LF.free x hx)
                    have R2 := (R1.back hβ hdead o7 hfb ⟨LF.frm.os,LF.frm.tape,LF.frm.output,LF.frm.size,fun x hx hn => LF.frm.block x hx fun h => hn ((hmem x).1 h)⟩ LF.more
                      (fun x hx => (LF.bound x hx).imp id fun h => h.imp id (hmem x).1) LF.lt o2 o3 (by rw [← o4]; exact (List.nodup_append.1 LF.nodup).2.1)
                      (fun x hx => hfrees x (List.mem_append_right _ (by rw [o4]; exact hx)))).hush
                    have hfree := frees (s2 := (s1.back k b e gs).hush) LF (fun r x hx => by
                      rw [GS.hush_fp] at hx
                      by_cases hr : r = .box k
                      · subst hr
                        rw [GS.back_fp_same] at hx
                        exact .inr (by rw [o4]; exact hx)
                      · rw [GS.back_fp _ _ _ _ _ hr] at hx
                        exact .inl ⟨hx,fun h => by
                          rw [List.mem_singleton] at h
                          subst h
                          exact hr (R1.inv.apart r (.box k) _ hx hbin)⟩) fun x hx => by
                      rcases (hfrees x (List.mem_append_left _ hx)).2 with h | h
                      · exact .inl (Nat.le_trans R1.inv.frm.size h)
                      · exact (hmine x h).2
                    obtain ⟨S3,g,g1,g2,g3⟩ := res_pend R2 hd LF.ok hfree sl
                    rw [← LF.res,← LF.val] at g3
                    exact hK v w' S3 _ g (fun x hx => g1 x (LF.more x (a1 x hx))) g2 g3
          · cases h
      · cases h
    · cases h
  · cases hok
end
end Hm
/- One operation of a region, with its guard and its slot. Conditions: none (plain lemmas). -/
namespace Hm
open Go
def okGuard (ops : Array Oper) : Option (Nat × Bool) → Option (Nat × Bool) → Bool
  | none,none => true
  | some (t,b),some (j,c) => b == c && ((ops[j]?).bind (·.dst)) == some t
  | _,_ => false
def okDst (nt : Nat) (roots pins : List Nat) (o : AO) : Bool :=
  match o.dst with
  | some d => decide (d < nt) && !pins.contains d && (!roots.contains d || (o.op.asgo? && o.guard.isNone))
  | none => true
def okAO (P : Program) (N : Nm) (nt : Nat) (roots pins : List Nat) (ops : Array Oper) (ao : AO) (o : Oper) : Bool :=
  ao.dst == o.dst && okGuard ops ao.guard o.guard && okDst nt roots pins ao && okOp P N roots ao.op o
section
variable {P : Program} {N : Nm} {F : Fx} {S : Nat → Prop} {s : GS} {st st' : St} {a : Act} {w w' : World} {dst : Option Nat} {o : Oper} {tv : TV}
theorem undef_ne_bool (b : Bool) : undef ≠ Value.bool b := by unfold undef; simp
theorem wanted_ok (R : Rel N F S s st a w) {ops : Array Oper} {g : Option (Nat × Bool)} (hg : okGuard ops g o.guard = true) {b : Bool} (h : wanted st g = some b) :
    Region.wanted o (yielded ops a.tmps) = b := by
  unfold Region.wanted
  cases g with
  | none =>
    simp only [wanted,Option.some.injEq] at h
    subst h
    cases hog : o.guard with
    | none => rfl
    | some x => rw [hog] at hg; simp [okGuard] at hg
  | some x =>
    obtain ⟨t,c⟩ := x
    cases hog : o.guard with
    | none => rw [hog] at hg; simp [okGuard] at hg
    | some y =>
      obtain ⟨j,c'⟩ := y
      rw [hog] at hg
      simp only [okGuard,Bool.and_eq_true,beq_iff_eq] at hg
      obtain ⟨rfl,ht⟩ := hg
      simp only [wanted] at h
      have ht' := R.tmp t
      have he := R.er.env t
      simp only [yielded,ht,Option.bind_some]
      split at h
      · rename_i b' hb
        rw [hb] at he
        obtain ⟨cv,e⟩ := GT.of_av he
        have hv := R.inv.slot t
        rw [e] at hv ht'
        cases hv with
        | bool _ =>
          simp only [GT.val] at ht'
          have : a.tmps[t]? = some (.bool b') := by
            cases hx : a.tmps[t]? with
            | none => rw [Array.getD_eq_getD_getElem?,hx] at ht'; exact absurd ht' (undef_ne_bool b')
            | some v => rw [Array.getD_eq_getD_getElem?,hx] at ht'; simp at ht'; rw [ht']
          rw [this]
          simp only [Option.some.injEq] at h
          simp [← h]
      · rename_i hb
        rw [hb] at he
        cases hγ : s.γ t <;> rw [hγ] at he <;> simp [GT.tv] at he
        rw [hγ] at ht'
        simp only [GT.val] at ht'
        simp only [Option.some.injEq] at h
        subst h
        have : ∀ b,a.tmps[t]? ≠ some (.bool b) := fun b hx => by
          rw [Array.getD_eq_getD_getElem?,hx] at ht'
          exact undef_ne_bool b ht'.symm
        cases hx : a.tmps[t]? with
        | none => simp
        | some v => cases v <;> simp; exact absurd hx (this _)
      · cases h
structure Up (pins : List Nat) (S : Nat → Prop) (a : Act) (S' : Nat → Prop) (a' : Act) : Prop where
  sub : ∀ b,S b → S' b
  pin : ∀ k ∈ pins,a'.tmps.getD k undef = a.tmps.getD k undef
theorem Up.refl {pins : List Nat} {S : Nat → Prop} {a : Act} : Up pins S a S a := ⟨fun _ h => h,fun _ _ => rfl⟩
theorem Up.trans {pins : List Nat} {S S1 S2 : Nat → Prop} {a a1 a2 : Act} (h : Up pins S a S1 a1) (h' : Up pins S1 a1 S2 a2) : Up pins S a S2 a2 :=
  ⟨fun b hb => h'.sub b (h.sub b hb),fun k hk => (h'.pin k hk).trans (h.pin k hk)⟩
theorem Up.put {pins : List Nat} {S S' : Nat → Prop} {a : Act} (h : ∀ b,S b → S' b) {d : Nat} (hd : pins.contains d = false) (v : Value) : Up pins S a S' (a.put (some d) v) :=
  ⟨h,fun k hk => by
    have : d ≠ k := fun e => by subst e; rw [← List.contains_iff_mem,hd] at hk; cases hk
    simp [Act.put,Array.getD_eq_getD_getElem?,Array.getElem?_setIfInBounds_ne this]⟩
def Called (P : Program) (N : Nm) (T : Tab) (n : Nat) : Prop :=
  ∀ g as cr,callF T n g as = some cr → Meets P N g as cr ∧ ∀ vs w,(callFunc (N.f g) vs).run P w = .ok (.enter (N.f g) vs) w
theorem Called.le {T : Tab} {n m : Nat} (h : Called P N T m) (hn : n ≤ m) : Called P N T n := fun g as cr hc => h g as cr (by
  induction hn with
  | refl => exact hc
  | step hn ih =>
    rename_i k
    have : ∀ j,n ≤ j → callF T n g as = some cr → callF T j g as = some cr := fun j hj hc => callF_le hc hj
    exact this _ (Nat.le_succ_of_le hn) hc)
theorem sim_step {T : Tab} {n : Nat} {op : AOp} (R : Rel N F S s st a w) (hd : op.asgo? = false → ∀ d,dst = some d → d ∉ F.roots) (hok : okOp P N F.roots op o = true) (IH : Called P N T n)
    (hdst : o.dst = dst) (h : stepC T (n + 1) dst op st = some (tv,st')) {K : Act → World → Prop} {Q : Exit → Act → World → Prop}
    (hK : ∀ cv w' S' s' g,(∀ b,S b → S' b) → Rel N F S' s' st' a w' → Pend N F S' s' w' dst g tv cv → K (a.put o.dst cv) w') : o.wp P a w K Q := by
  have key : ∀ h' : stepOp dst op st = some (tv,st'),o.wp P a w K Q := fun h' => by
    obtain ⟨cv,w',S',s',g,hr,h1,h2,h3⟩ := sim_op R hd hok h'
    unfold Oper.wp
    rcases hr with hr | ⟨hr,rfl⟩
    · rw [hr]; exact hK cv w' S' s' g h1 h2 h3
    · rw [hr]; exact hK undef w' S' s' g h1 h2 h3
  cases op with
  | call sl f xs => exact sim_call R (hd rfl) hok IH h hK
  | callM sl f xs => exact sim_callM R (hd rfl) hok IH h hK
  | _ => exact key (by simpa only [stepC] using h)
theorem sim_runOp {T : Tab} {n : Nat} {ops : Array Oper} {ao : AO} {i : Nat} (R : Rel N F S s st a w) (hi : ops[i]? = some o) (hok : okAO P N F.nt F.roots F.pins ops ao o = true) (IH : Called P N T n)
    (h : runOp T n ao st = some st') {K : Act → World → Prop} {Q : Exit → Act → World → Prop}
    (hK : ∀ a' w' S' s',Up F.pins S a S' a' → Rel N F S' s' st' a' w' → K a' w') : wpOp P ops Q i K a w := by
  simp only [okAO,Bool.and_eq_true,beq_iff_eq] at hok
  obtain ⟨⟨⟨hdst,hg⟩,hd⟩,hop⟩ := hok
  unfold wpOp
  simp only [hi]
  cases n with
  | zero => simp [runOp] at h
  | succ n =>
    rw [runOp] at h
    split at h
    · cases h
    · rename_i hw
      rw [wanted_ok R hg hw]
      simp only [Bool.false_eq_true,if_false]
      rw [← hdst]
      cases hd' : ao.dst with
      | none =>
        simp only [hd',Option.some.injEq] at h
        subst h
        exact hK _ _ _ _ .refl R
      | some d =>
        simp only [hd',Option.some.injEq] at h
        subst h
        simp only [okDst,hd',Bool.and_eq_true,decide_eq_true_eq,Bool.or_eq_true,Bool.not_eq_true'] at hd
        obtain ⟨⟨hlt,hpin⟩,hr⟩ := hd
        have hroot : d ∉ F.roots := by
          rcases hr with hr | ⟨_,hr⟩
          · simpa using hr
          · cases hgd : ao.guard with
            | none => rw [hgd] at hw; simp [wanted] at hw
            | some x => rw [hgd] at hr; simp at hr
        refine hK _ _ _ (s.put d .skp) (.put (fun _ h => h) hpin _) (R.put hlt (g := .skp) ⟨rfl,rfl,trivial,by simp [GT.blocks]; exact Free.nil,by simp [GT.place?],?_⟩)
        exact R.unrooted (dst := some d) (fun d' e => by cases e; exact hroot) (by simp [GT.place?])
    · rename_i hw
      rw [wanted_ok R hg hw]
      simp only [if_true]
      refine .inl ?_
      split at h
      · rename_i v st1 hst
        cases n with
        | zero => simp [stepC] at hst
        | succ n =>
          refine sim_step R (fun hasgo d e => ?_) hop (IH.le (Nat.le_of_lt (Nat.lt_of_lt_of_le (Nat.lt_succ_self n) (Nat.le_succ _)))) hdst.symm hst fun cv w' S' s' g h1 h2 h3 => ?_
          · simp only [okDst,e,hasgo,Bool.false_and,Bool.or_false,Bool.and_eq_true,Bool.not_eq_true'] at hd
            simpa using hd.2
          · rw [← hdst]
            cases hd' : ao.dst with
            | none =>
              rw [hd'] at h
              simp only [Option.some.injEq] at h
              subst h
              exact hK _ _ _ _ ⟨h1,fun _ _ => rfl⟩ h2
            | some d =>
              rw [hd'] at h h3
              simp only [Option.some.injEq] at h
              subst h
              simp only [okDst,hd',Bool.and_eq_true,decide_eq_true_eq,Bool.not_eq_true'] at hd
              exact hK _ _ _ _ (.put h1 hd.1.2 _) (h2.put hd.1.1 h3)
      · cases h
end
end Hm
/- Behind a region some slots are kept. Conditions: none (plain lemmas). -/
namespace Hm
open Go
theorem lstE_map (K : List Nat) (f : Nat → TV) (k : Nat) : lstE (K.map fun j => (j,f j)) k = if K.contains k then f k else .und := by
  induction K with
  | nil => rfl
  | cons j K ih =>
    simp only [List.map_cons,lstE,ih,List.contains_cons]
    by_cases h : k = j
    · subst h; simp
    · simp [h]
theorem lstB_map (K : List Nat) (f : Nat → Option (List Cell)) (k : Nat) : lstB (K.map fun j => (j,f j)) k = if K.contains k then f k else none := by
  induction K with
  | nil => rfl
  | cons j K ih =>
    simp only [List.map_cons,lstB,ih,List.contains_cons]
    by_cases h : k = j
    · subst h; simp
    · simp [h]
def keptG (K : List Nat) : GT → GT
  | .plc p a => if TV.kept.inK K p.root then .plc p a else .und (.pointer (some a))
  | .hd p l a => if TV.kept.inK K p.root then .hd p l a else .und a
  | .ali v (some p) cv => if TV.kept.inK K p.root then .ali v (some p) cv else .und cv
  | t => t
theorem keptG_tv (K : List Nat) (t : GT) : (keptG K t).tv = t.tv.kept K := by
  unfold keptG
  split
  · split <;> simp_all [GT.tv,TV.kept]
  · split <;> simp_all [GT.tv,TV.kept]
  · split <;> simp_all [GT.tv,TV.kept]
  · rename_i h1 h0 h2
    cases t with
    | plc p a => exact absurd rfl (h1 p a)
    | hd p l a => exact absurd rfl (h0 p l a)
    | ali v q cv => cases q with
      | none => rfl
      | some q => exact absurd rfl (h2 v q cv)
    | _ => rfl
theorem keptG_val (K : List Nat) (t : GT) : (keptG K t).val = t.val := by
  unfold keptG
  split
  · split <;> rfl
  · split <;> rfl
  · split <;> rfl
  · rfl
theorem keptG_blocks (K : List Nat) (t : GT) : (keptG K t).blocks = t.blocks := by
  unfold keptG
  split
  · split <;> rfl
  · split <;> rfl
  · split <;> rfl
  · rfl
theorem keptG_place (K : List Nat) (t : GT) (q : Place) (h : (keptG K t).place? = some q) : t.place? = some q ∧ TV.kept.inK K q.root = true := by
  unfold keptG at h
  split at h
  · split at h
    · rename_i hk; simp only [GT.place?,Option.some.injEq] at h; subst h; exact ⟨rfl,hk⟩
    · simp [GT.place?] at h
  · split at h
    · rename_i hk; simp only [GT.place?,Option.some.injEq] at h; subst h; exact ⟨rfl,hk⟩
    · simp [GT.place?] at h
  · split at h
    · rename_i hk; simp only [GT.place?,Option.some.injEq] at h; subst h; exact ⟨rfl,hk⟩
    · simp [GT.place?] at h
  · rename_i h1 h0 h2
    cases t with
    | plc p a => exact absurd rfl (h1 p a)
    | hd p l a => exact absurd rfl (h0 p l a)
    | ali v q' cv => cases q' with
      | none => simp [GT.place?] at h
      | some q' => exact absurd rfl (h2 v q' cv)
    | _ => simp [GT.place?] at h
def GS.keep (s : GS) (K : List Nat) : GS := ⟨fun k => if K.contains k then keptG K (s.γ k) else .und (s.γ k).val,fun k => if K.contains k then s.β k else none⟩
section
variable {P : Program} {N : Nm} {F : Fx} {S : Nat → Prop} {s : GS} {st st' : St} {a : Act} {w w' : World} {dst : Option Nat} {o : Oper} {tv : TV}
theorem GS.keep_root (s : GS) (K : List Nat) {r : Root} (h : TV.kept.inK K r = true) : (s.keep K).root r = s.root r := by
  cases r with
  | box k =>
    simp only [TV.kept.inK] at h
    simp only [GS.root,GS.keep,h,if_true]
  | slot k =>
    simp only [TV.kept.inK] at h
    simp only [GS.root,GS.keep,h,if_true]
    cases s.γ k with
    | plc p a =>
      simp only [keptG]
      by_cases hk : TV.kept.inK K p.root = true
      · simp only [hk,if_true]
      · simp only [hk]; rfl
    | hd p l a =>
      simp only [keptG]
      by_cases hk : TV.kept.inK K p.root = true
      · simp only [hk,if_true]
      · simp only [hk]; rfl
    | ali v p cv => cases p with
      | none => rfl
      | some p =>
        simp only [keptG]
        by_cases hk : TV.kept.inK K p.root = true
        · simp only [hk,if_true]
        · simp only [hk]; rfl
    | _ => rfl
theorem GS.keep_loc (s : GS) (K : List Nat) {p : Place} (h : TV.kept.inK K p.root = true) : (s.keep K).loc p = s.loc p := by
  simp only [GS.loc,s.keep_root K h]
theorem GS.keep_fp (s : GS) (K : List Nat) (r : Root) : (s.keep K).fp r = if TV.kept.inK K r then s.fp r else [] := by
  cases r with
  | box k =>
    simp only [GS.fp,GS.keep,TV.kept.inK]
    by_cases h : K.contains k = true
    · simp only [h,if_true]
    · simp only [h]; rfl
  | slot k =>
    simp only [GS.fp,GS.keep,TV.kept.inK]
    by_cases h : K.contains k = true
    · simp only [h,if_true,keptG_blocks]
    · simp only [h]; rfl
theorem Inv.keep (I : Inv N F S s w) (K : List Nat) : Inv N F S (s.keep K) w where
  slot k := by
    simp only [GS.keep]
    by_cases h : K.contains k = true
    · simp only [h,if_true]
      have hk := I.slot k
      refine GT.ok_of_loc (s := s) ?_ fun p hp => GS.keep_loc s K (keptG_place K _ p hp).2
      unfold keptG
      split
      · split
        · rename_i e _; rw [← e]; exact hk
        · trivial
      · split
        · rename_i e _; rw [← e]; exact hk
        · trivial
      · split
        · rename_i e _; rw [← e]; exact hk
        · trivial
      · exact hk
    · simp only [h]; trivial
  box k b e gs h := by
    simp only [GS.keep] at h
    split at h
    · exact I.box k b e gs h
    · cases h
  nodup r := by
    rw [s.keep_fp]
    split
    · exact I.nodup r
    · exact List.nodup_nil
  apart r r' x hx hx' := by
    rw [s.keep_fp] at hx hx'
    split at hx
    · split at hx'
      · exact I.apart r r' x hx hx'
      · cases hx'
    · cases hx
  mine r x hx := by
    rw [s.keep_fp] at hx
    split at hx
    · exact I.mine r x hx
    · cases hx
  immB := I.immB
  frm := I.frm
  glob := I.glob
  rooted k p hp n hn := by
    simp only [GS.keep] at hp
    split at hp
    · exact I.rooted k p (keptG_place K _ p hp).1 n hn
    · simp [GT.place?] at hp
theorem Rel.keep (R : Rel N F S s st a w) (K : List Nat) : Rel N F S (s.keep K) (st.keep K) a w where
  inv := R.inv.keep K
  er := ⟨fun k => by
      show _ = lstE (K.map fun k => (k,(getE st.env k).kept K)) k
      rw [lstE_map K (fun k => (getE st.env k).kept K)]
      simp only [GS.keep]
      split
      · rw [keptG_tv,R.er.env k]
      · rfl,
    fun k => by
      show _ = lstB (K.map fun k => (k,getB st.boxes k)) k
      rw [lstB_map K (fun k => getB st.boxes k)]
      simp only [GS.keep]
      by_cases h : K.contains k = true
      · simp only [h,if_true]; exact R.er.box k
      · simp only [h]; rfl⟩
  tmp k := by
    simp only [GS.keep]
    split
    · rw [keptG_val]; exact R.tmp k
    · exact R.tmp k
  size := R.size
  dfr := R.dfr
theorem sim_ops {T : Tab} {ops : Array Oper} {Q : Exit → Act → World → Prop} : ∀ (n : Nat) (aos : List AO) (l : List Nat) {S : Nat → Prop} {s : GS} {st st' : St} {a : Act} {w : World},
    Rel N F S s st a w → aos.length = l.length → (∀ (j : Nat) (ao : AO) (i : Nat),aos[j]? = some ao → l[j]? = some i → ∃ o,ops[i]? = some o ∧ okAO P N F.nt F.roots F.pins ops ao o = true) → Called P N T n →
    runOps T n aos st = some st' → (∀ a' w' S' s',Up F.pins S a S' a' → Rel N F S' s' st' a' w' → Q .normal a' w') → wpOps P ops Q l a w
  | 0,_,_,_,_,_,_,_,_,_,_,_,_,h,_ => by simp [runOps] at h
  | n + 1,[],l,S,s,st,st',a,w,R,hl,hok,IH,h,hQ => by
    simp only [runOps,Option.some.injEq] at h
    subst h
    have : l = [] := List.eq_nil_of_length_eq_zero hl.symm
    subst this
    exact hQ a w S s .refl R
  | n + 1,ao :: aos,[],_,_,_,_,_,_,_,hl,_,_,_,_ => by simp at hl
  | n + 1,ao :: aos,i :: l,S,s,st,st',a,w,R,hl,hok,IH,h,hQ => by
    rw [runOps] at h
    split at h
    · rename_i st1 h1
      obtain ⟨o,ho,hao⟩ := hok 0 ao i rfl rfl
      rw [wpOps_cons]
      refine sim_runOp R ho hao (IH.le (Nat.le_succ n)) h1 fun a' w' S' s' hS R' => ?_
      exact sim_ops n aos l R' (by simpa using hl) (fun j ao i hj hi => hok (j + 1) ao i (by simpa using hj) (by simpa using hi)) (IH.le (Nat.le_succ n)) h
        fun a2 w2 S2 s2 hS2 R2 => hQ a2 w2 S2 s2 (hS.trans hS2) R2
    · cases h
end
end Hm
/- Operations that write their own slot alone: what they look at. Conditions: none (plain lemmas). -/
namespace Hm
open Go
def Opd.tm : Opd → List Nat
  | .t n => [n]
  | _ => []
def otm : Option Opd → List Nat
  | some x => x.tm
  | none => []
def tms (l : List Opd) : List Nat := l.flatMap Opd.tm
def ptms (l : List (Nat × Nat × Opd)) : List Nat := l.flatMap fun x => x.2.2.tm
def AOp.slots : AOp → List Nat
  | .mv x | .asg x | .asgs x | .asgo x | .box x | .load _ _ x | .loadC _ x | .take _ _ x | .nilc x | .isnil _ _ x | .un _ x | .conv _ x | .mki _ x | .fadr _ x | .fld _ _ _ x | .ext x _ | .tas _ _ x | .len _ x => x.tm
  | .mvr n | .mvt n => [n]
  | .pick c a b => c.tm ++ (a.tm ++ b.tm)
  | .alloc _ => []
  | .build _ ps | .buildZ _ ps | .buildS _ _ _ ps => ptms ps
  | .store _ a x | .bin _ a x | .binB _ a x | .mks _ a x | .iadr _ a x | .iadrA _ _ a x | .idxA _ _ _ a x | .idxS a x | .append _ _ a x => a.tm ++ x.tm
  | .mkf _ a b => tms a ++ tms b
  | .slc _ _ x lo hi => x.tm ++ (otm lo ++ otm hi)
  | .mm _ xs => tms xs
  | .call _ f xs | .callM _ f xs => f.tm ++ tms xs
  | .storeR _ a m => a.tm ++ [m]
  | .iadrR _ n i | .iadrH _ n i => n :: i.tm
  | .mvh n => [n]
  | .appendR _ _ a x => a.tm ++ x.tm
  | .fail => []
def AO.slots (o : AO) : List Nat := o.op.slots ++ (match o.guard with | some (t,_) => [t] | none => [])
structure Same (Z ds es : List Nat) (d : Option Nat) (st st2 : St) : Prop where
  slot : ∀ k ∈ Z,st2.env k = st.env k
  mem : ∀ k,ds.contains k = false → es.contains k = false → st2.env k = st.env k
  box : ∀ k,ds.contains k = false → st2.boxes k = st.boxes k
  own : ∀ k,d = some k → st2.boxes k = st.boxes k
theorem Same.sub {Z Z' ds es : List Nat} {d : Option Nat} {st st2 : St} (h : Same Z ds es d st st2) (hz : ∀ k ∈ Z',k ∈ Z) : Same Z' ds es d st st2 :=
  ⟨fun k hk => h.slot k (hz k hk),h.mem,h.box,h.own⟩
theorem Same.opd {Z ds es : List Nat} {d : Option Nat} {st st2 : St} (h : Same Z ds es d st st2) {x : Opd} (hx : ∀ k ∈ x.tm,k ∈ Z) : st2.opd x = st.opd x := by
  cases x with
  | t n => exact h.slot n (hx n (by simp [Opd.tm]))
  | _ => rfl
def eatL (E : List Nat) (st : St) : St := ⟨fun k => if E.contains k then .und else st.env k,st.boxes⟩
theorem eatL_nil (st : St) : eatL [] st = st := by
  cases st; simp [eatL]
theorem eatL_app (E E' : List Nat) (st : St) : eatL E' (eatL E st) = eatL (E ++ E') st := by
  simp only [eatL]
  congr 1
  funext k
  simp only [List.contains_iff_mem,List.mem_append]
  by_cases h : k ∈ E <;> by_cases h' : k ∈ E' <;> simp [h,h']
theorem Same.eatL {Z ds es : List Nat} {d : Option Nat} {st st2 : St} (h : Same Z ds es d st st2) (E : List Nat) : Same Z ds es d (eatL E st) (eatL E st2) :=
  ⟨fun k hk => by simp only [Hm.eatL]; split; rfl; exact h.slot k hk,fun k h1 h2 => by simp only [Hm.eatL]; split; rfl; exact h.mem k h1 h2,h.box,h.own⟩
def eatS (st : St) : Opd → List Nat
  | .t n => match getE st.env n with
    | .own _ _ => [n]
    | _ => []
  | _ => []
theorem eat_eq (st : St) (x : Opd) : x.eat st = eatL (eatS st x) st := by
  cases x with
  | t n =>
    simp only [Opd.eat,eatS]
    cases getE st.env n with
    | own cs g =>
      simp only [St.put,eatL,upd]
      congr 1
      funext k
      by_cases h : k = n
      · subst h; simp [upd]
      · simp [h,upd]
    | _ => exact (eatL_nil st).symm
  | _ => simp only [Opd.eat,eatS,eatL_nil]
theorem eatS_same {Z ds es : List Nat} {d : Option Nat} {st st2 : St} (h : Same Z ds es d st st2) {x : Opd} (hx : ∀ k ∈ x.tm,k ∈ Z) : eatS st2 x = eatS st x := by
  cases x with
  | t n => simp only [eatS,getE,h.slot n (hx n (by simp [Opd.tm]))]
  | _ => rfl
theorem eatS_in {es : List Nat} {st : St} {x : Opd} (h : eatOk es st x = true) : ∀ k ∈ eatS st x,k ∈ x.tm ∧ es.contains k = true := by
  cases x with
  | t n =>
    simp only [eatS,eatOk] at h ⊢
    split at h
    · rename_i cs g hg
      simp only [hg,List.mem_singleton]
      rintro k rfl
      exact ⟨by simp [Opd.tm],h⟩
    · rename_i hg
      split
      · rename_i cs g hg'; exact absurd hg' (hg _ _)
      · simp
  | _ => simp [eatS]
def putbox (dst : Option Nat) (bx : Option (List Cell)) (st : St) : St :=
  match dst,bx with
  | some d,some cs => ⟨st.env,upd st.boxes d (some cs)⟩
  | _,_ => st
def QStep (Z ds es : List Nat) (dst : Option Nat) (f : St → Option (TV × St)) (hu : Bool) (st : St) (v : TV) (st' : St) : Prop :=
  ∃ E bx,(∀ k ∈ E,k ∈ Z ∧ es.contains k = true) ∧ st' = putbox dst bx (eatL E st) ∧
    ∀ st2,Same Z ds es dst st st2 → (hu = true → st2.hush = st2) → f st2 = some (v,putbox dst bx (eatL E st2))
theorem QStep.plain {Z ds es : List Nat} {dst : Option Nat} {f : St → Option (TV × St)} {hu : Bool} {st : St} {v : TV} (h : ∀ st2,Same Z ds es dst st st2 → f st2 = some (v,st2)) :
    QStep Z ds es dst f hu st v st :=
  ⟨[],none,by simp,by cases dst <;> simp [putbox,eatL_nil],fun st2 hs _ => by rw [h st2 hs]; cases dst <;> simp [putbox,eatL_nil]⟩
theorem QStep.eat {Z ds es : List Nat} {dst : Option Nat} {f : St → Option (TV × St)} {hu : Bool} {st : St} {v : TV} {x : Opd} (hx : ∀ k ∈ x.tm,k ∈ Z) (he : eatOk es st x = true)
    (h : ∀ st2,Same Z ds es dst st st2 → f st2 = some (v,x.eat st2)) : QStep Z ds es dst f hu st v (x.eat st) :=
  ⟨eatS st x,none,fun k hk => ⟨hx k (eatS_in he k hk).1,(eatS_in he k hk).2⟩,by rw [eat_eq]; cases dst <;> rfl,
    fun st2 hs _ => by rw [h st2 hs,eat_eq,eatS_same hs hx]; cases dst <;> rfl⟩
theorem gives_same {Z ds es : List Nat} {d : Option Nat} : ∀ {parts : List (Nat × Nat × Opd)} {st st' : St} {l : List (Nat × List Cell)},gives st parts = some (l,st') → (∀ k ∈ ptms parts,k ∈ Z) →
    (parts.all fun x => eatOk es st x.2.2) = true → ∃ E,(∀ k ∈ E,k ∈ Z ∧ es.contains k = true) ∧ st' = eatL E st ∧ ∀ st2,Same Z ds es d st st2 → gives st2 parts = some (l,eatL E st2)
  | [],st,st',l,h,_,_ => by
    simp only [gives,Option.some.injEq,Prod.mk.injEq] at h
    obtain ⟨rfl,rfl⟩ := h
    exact ⟨[],by simp,(eatL_nil _).symm,fun st2 _ => by simp [gives,eatL_nil]⟩
  | (o,n,x) :: r,st,st',l,h,hz,he => by
    simp only [gives] at h
    split at h
    · rename_i cs g hg
      split at h
      · rename_i hn
        split at h
        · rename_i l1 st1 h1
          simp only [Option.some.injEq,Prod.mk.injEq] at h
          obtain ⟨rfl,rfl⟩ := h
          simp only [List.all_cons,Bool.and_eq_true] at he
          have hxz : ∀ k ∈ x.tm,k ∈ Z := fun k hk => hz k (by simp [ptms,hk])
          have he' : (r.all fun y => eatOk es (x.eat st) y.2.2) = true := by
            rw [List.all_eq_true] at he ⊢
            intro y hy
            have := he.2 y hy
            rw [eat_eq]
            cases hy' : y.2.2 with
            | t m =>
              rw [hy'] at this
              simp only [eatOk,getE,eatL] at this ⊢
              by_cases hm : (eatS st x).contains m = true
              · simp only [hm,if_true]
              · simp only [hm]; exact this
            | _ => rfl
          obtain ⟨E,e1,e2,e3⟩ := gives_same (Z := Z) (ds := ds) (es := es) (d := d) h1 (fun k hk => hz k (by simp only [ptms,List.flatMap_cons,List.mem_append]; exact .inr hk)) he'
          refine ⟨eatS st x ++ E,fun k hk => ?_,by rw [e2,eat_eq,eatL_app],fun st2 hs => ?_⟩
          · rcases List.mem_append.1 hk with hk | hk
            · exact ⟨hxz k (eatS_in he.1 k hk).1,(eatS_in he.1 k hk).2⟩
            · exact e1 k hk
          · have hs' : Same Z ds es d (x.eat st) (x.eat st2) := by rw [eat_eq,eat_eq,eatS_same hs hxz]; exact hs.eatL _
            simp only [gives,hs.opd hxz,hg,if_pos hn,e3 _ hs']
            rw [eat_eq,eatS_same hs hxz,eatL_app]
        · cases h
      · cases h
    · cases h
theorem safeT_cells {ds es : List Nat} {Z : List Nat} {d : Option Nat} {st st2 : St} (hs : Same Z ds es d st st2) {p : Place} (h : safeP ds es p = true) (n : Nat) : st2.cells p n = st.cells p n := by
  have hr : st2.root p.root = st.root p.root := by
    simp only [safeP] at h
    cases hp : p.root with
    | box k =>
      rw [hp] at h
      simp only [Bool.not_eq_true'] at h
      exact hs.box k h
    | slot k =>
      rw [hp] at h
      simp only [Bool.and_eq_true,Bool.not_eq_true'] at h
      simp only [St.root,getE,hs.mem k h.1 h.2]
  simp only [St.cells,hr]
theorem avs_same {Z ds es : List Nat} {d : Option Nat} {st st2 : St} (hs : Same Z ds es d st st2) : ∀ {xs : List Opd},(∀ k ∈ tms xs,k ∈ Z) → avs st2 xs = avs st xs
  | [],_ => rfl
  | x :: r,h => by
    simp only [avs,hs.opd (x := x) fun k hk => h k (by simp [tms,hk]),avs_same hs (xs := r) fun k hk => h k (by simp only [tms,List.flatMap_cons,List.mem_append]; exact .inr hk)]
theorem caps_same {Z ds es : List Nat} {d : Option Nat} : ∀ {xs : List Opd} {st st' : St} {vs : List AV},caps st xs = some (vs,st') → (∀ k ∈ tms xs,k ∈ Z) → (xs.all fun x => !(st.opd x).isPlc) = true →
    st' = st ∧ ∀ st2,Same Z ds es d st st2 → caps st2 xs = some (vs,st2)
  | [],st,st',vs,h,_,_ => by
    simp only [caps,Option.some.injEq,Prod.mk.injEq] at h
    obtain ⟨rfl,rfl⟩ := h
    exact ⟨rfl,fun st2 _ => rfl⟩
  | x :: r,st,st',vs,h,hz,hp => by
    simp only [List.all_cons,Bool.and_eq_true] at hp
    simp only [caps] at h
    split at h
    · rename_i v hv
      split at h
      · rename_i vs1 st1 h1
        simp only [Option.some.injEq,Prod.mk.injEq] at h
        obtain ⟨rfl,rfl⟩ := h
        obtain ⟨e1,e2⟩ := caps_same (Z := Z) (ds := ds) (es := es) (d := d) h1 (fun k hk => hz k (by simp only [tms,List.flatMap_cons,List.mem_append]; exact .inr hk)) hp.2
        refine ⟨e1,fun st2 hs => ?_⟩
        simp only [caps,hs.opd (x := x) fun k hk => hz k (by simp [tms,hk]),hv,e2 st2 hs]
      · cases h
    · rename_i k hv
      rw [hv] at hp
      simp [TV.isPlc] at hp
    · cases h
theorem args_same {Z ds es : List Nat} {d : Option Nat} : ∀ {xs : List Opd} {ms : List PMode} {st st' : St} {l : List Arg} {t : Bool} {ks : List Nat},args st ms xs = some (l,t,ks,st') → (∀ k ∈ tms xs,k ∈ Z) →
    (ms.all PMode.isVal) = true → (xs.all fun x => eatOk es st x) = true →
    ks = [] ∧ hasMv l = false ∧ ∃ E,(∀ k ∈ E,k ∈ Z ∧ es.contains k = true) ∧ st' = eatL E st ∧ ∀ st2,Same Z ds es d st st2 → args st2 ms xs = some (l,t,[],eatL E st2)
  | [],ms,st,st',l,t,ks,h,_,_,_ => by
    cases ms with
    | nil =>
      simp only [args,Option.some.injEq,Prod.mk.injEq] at h
      obtain ⟨rfl,rfl,rfl,rfl⟩ := h
      exact ⟨rfl,rfl,[],by simp,(eatL_nil _).symm,fun st2 _ => by simp [args,eatL_nil]⟩
    | cons m ms =>
      simp only [args,Option.some.injEq,Prod.mk.injEq] at h
      obtain ⟨rfl,rfl,rfl,rfl⟩ := h
      exact ⟨rfl,rfl,[],by simp,(eatL_nil _).symm,fun st2 _ => by simp [args,eatL_nil]⟩
  | x :: r,[],st,st',l,t,ks,h,_,_,_ => by simp [args] at h
  | x :: r,m :: ms,st,st',l,t,ks,h,hz,hm,he => by
    simp only [List.all_cons,Bool.and_eq_true] at hm he
    have hmv : m = .val := by cases m <;> simp [PMode.isVal] at hm; rfl
    subst hmv
    have hxz : ∀ k ∈ x.tm,k ∈ Z := fun k hk => hz k (by simp [tms,hk])
    have hrz : ∀ k ∈ tms r,k ∈ Z := fun k hk => hz k (by simp only [tms,List.flatMap_cons,List.mem_append]; exact .inr hk)
    simp only [args] at h
    split at h
    · rename_i v _ hv
      split at h
      · rename_i h1
        simp only [Option.some.injEq,Prod.mk.injEq] at h
        obtain ⟨rfl,rfl,rfl,rfl⟩ := h
        obtain ⟨e1,e2,E,e3,e4,e5⟩ := args_same (Z := Z) (ds := ds) (es := es) (d := d) h1 hrz hm.2 he.2
        exact ⟨e1,e2,E,e3,e4,fun st2 hs => by simp only [args,hs.opd hxz,hv,e5 st2 hs]⟩
      · cases h
    · rename_i cs g _ hv
      split at h
      · rename_i h1
        simp only [Option.some.injEq,Prod.mk.injEq] at h
        obtain ⟨rfl,rfl,rfl,rfl⟩ := h
        have he' : (r.all fun y => eatOk es (x.eat st) y) = true := by
          rw [List.all_eq_true] at he ⊢
          intro y hy
          have := he.2 y hy
          rw [eat_eq]
          cases y with
          | t m =>
            simp only [eatOk,getE,eatL] at this ⊢
            by_cases hm : (eatS st x).contains m = true
            · simp only [hm,if_true]
            · simp only [hm]; exact this
          | _ => rfl
        obtain ⟨e1,e2,E,e3,e4,e5⟩ := args_same (Z := Z) (ds := ds) (es := es) (d := d) h1 hrz hm.2 he'
        refine ⟨e1,e2,eatS st x ++ E,fun k hk => ?_,by rw [e4,eat_eq,eatL_app],fun st2 hs => ?_⟩
        · rcases List.mem_append.1 hk with hk | hk
          · exact ⟨hxz k (eatS_in he.1 k hk).1,(eatS_in he.1 k hk).2⟩
          · exact e3 k hk
        · have hs' : Same Z ds es d (x.eat st) (x.eat st2) := by rw [eat_eq,eat_eq,eatS_same hs hxz]; exact hs.eatL _
          simp only [args,hs.opd hxz,hv,e5 _ hs']
          rw [eat_eq,eatS_same hs hxz,eatL_app]
      · cases h
    · rename_i v p _ hv
      split at h
      · rename_i h1
        simp only [Option.some.injEq,Prod.mk.injEq] at h
        obtain ⟨rfl,rfl,rfl,rfl⟩ := h
        obtain ⟨e1,e2,E,e3,e4,e5⟩ := args_same (Z := Z) (ds := ds) (es := es) (d := d) h1 hrz hm.2 he.2
        exact ⟨e1,e2,E,e3,e4,fun st2 hs => by simp only [args,hs.opd hxz,hv,e5 st2 hs]⟩
      · cases h
    all_goals first
      | cases h
      | (rename_i hne _ _; exact absurd rfl hne)
      | simp_all
end Hm
/- Quiet operations: the same answer in whatever order. Conditions: none (plain lemmas). -/
namespace Hm
open Go
section
variable {T : Tab} {n : Nat} {hu : Bool} {ds es : List Nat} {dst : Option Nat} {st st' : St} {v : TV}
theorem mem_l {a b : List Nat} {k : Nat} (h : k ∈ a) : k ∈ a ++ b := List.mem_append_left _ h
theorem mem_r {a b : List Nat} {k : Nat} (h : k ∈ b) : k ∈ a ++ b := List.mem_append_right _ h
theorem q_bin {op : Go.BinOp} {x y : Opd} (h : stepOp dst (.bin op x y) st = some (v,st')) : QStep (AOp.bin op x y).slots ds es dst (stepOp dst (.bin op x y)) hu st v st' := by
  simp only [stepOp] at h
  split at h
  · rename_i a b ha hb
    split at h
    · rename_i r hr
      simp only [Option.some.injEq,Prod.mk.injEq] at h
      obtain ⟨rfl,rfl⟩ := h
      exact .plain fun st2 hs => by simp only [stepOp,hs.opd (x := x) fun _ => mem_l,hs.opd (x := y) fun _ => mem_r,ha,hb,hr]
    · cases h
  · cases h
theorem q_stepOp {op : AOp} (h : stepOp dst op st = some (v,st')) (hq : quiet T hu ds es st op = true) (hh : hu = true → st.hush = st) : QStep op.slots ds es dst (stepOp dst op) hu st v st' := by
  cases op with
  | bin op x y => exact q_bin h
  | mv x =>
    simp only [stepOp] at h
    have e : ∀ st2,Same (AOp.mv x).slots ds es dst st st2 → st2.opd x = st.opd x := fun st2 hs => hs.opd fun _ h => h
    split at h
    · rename_i u hu'
      simp only [Option.some.injEq,Prod.mk.injEq] at h
      obtain ⟨rfl,rfl⟩ := h
      exact .plain fun st2 hs => by simp only [stepOp,e st2 hs,hu']
    · rename_i u hu'
      simp only [Option.some.injEq,Prod.mk.injEq] at h
      obtain ⟨rfl,rfl⟩ := h
      exact .plain fun st2 hs => by simp only [stepOp,e st2 hs,hu']
    · rename_i u p hu'
      simp only [Option.some.injEq,Prod.mk.injEq] at h
      obtain ⟨rfl,rfl⟩ := h
      exact .plain fun st2 hs => by simp only [stepOp,e st2 hs,hu']
    · rename_i cs g hu'
      split at h
      · simp only [Option.some.injEq,Prod.mk.injEq] at h
        obtain ⟨rfl,rfl⟩ := h
        exact .plain fun st2 hs => by simp only [stepOp,e st2 hs,hu']
      · cases h
    · rename_i l hu'
      split at h
      · rename_i m
        simp only [Option.some.injEq,Prod.mk.injEq] at h
        obtain ⟨rfl,rfl⟩ := h
        simp only [quiet,hu'] at hq
        have ep : ∀ s0 : St,s0.put m .und = eatL [m] s0 := fun s0 => by
          simp only [St.put,eatL]
          congr 1
          funext k
          simp [List.contains_cons,upd]
        exact ⟨[m],none,by simp only [List.mem_singleton]; rintro k rfl; exact ⟨by simp [AOp.slots,Opd.tm],hq⟩,by rw [ep]; cases dst <;> rfl,
          fun st2 hs _ => by simp only [stepOp,e st2 hs,hu',ep]; cases dst <;> rfl⟩
      · cases h
    · cases h
  | mvr m =>
    simp only [stepOp] at h
    have e : ∀ st2,Same (AOp.mvr m).slots ds es dst st st2 → getE st2.env m = getE st.env m := fun st2 hs => hs.slot m (by simp [AOp.slots])
    split at h
    · rename_i u hu'
      simp only [Option.some.injEq,Prod.mk.injEq] at h
      obtain ⟨rfl,rfl⟩ := h
      exact .plain fun st2 hs => by simp only [stepOp,e st2 hs,hu']
    · rename_i cs g hu'
      simp only [Option.some.injEq,Prod.mk.injEq] at h
      obtain ⟨rfl,rfl⟩ := h
      exact .plain fun st2 hs => by simp only [stepOp,e st2 hs,hu']
    · cases h
  | mvt m =>
    simp only [stepOp] at h
    have e : ∀ st2,Same (AOp.mvt m).slots ds es dst st st2 → getE st2.env m = getE st.env m := fun st2 hs => hs.slot m (by simp [AOp.slots])
    split at h
    · rename_i u hu'
      simp only [Option.some.injEq,Prod.mk.injEq] at h
      obtain ⟨rfl,rfl⟩ := h
      exact .plain fun st2 hs => by simp only [stepOp,e st2 hs,hu']
    · rename_i cs g hu'
      simp only [quiet,hu'] at hq
      cases hq
    · cases h
  | asg x =>
    simp only [stepOp] at h
    have e : ∀ st2,Same (AOp.asg x).slots ds es dst st st2 → st2.opd x = st.opd x := fun st2 hs => hs.opd fun _ h => h
    split at h
    · rename_i u hu'
      simp only [Option.some.injEq,Prod.mk.injEq] at h
      obtain ⟨rfl,rfl⟩ := h
      exact .plain fun st2 hs => by simp only [stepOp,e st2 hs,hu']
    · rename_i u hu'
      simp only [Option.some.injEq,Prod.mk.injEq] at h
      obtain ⟨rfl,rfl⟩ := h
      exact .plain fun st2 hs => by simp only [stepOp,e st2 hs,hu']
    · rename_i cs g hu'
      simp only [Option.some.injEq,Prod.mk.injEq] at h
      obtain ⟨rfl,rfl⟩ := h
      exact .eat (x := x) (fun _ h => h) hq fun st2 hs => by simp only [stepOp,e st2 hs,hu']
    · cases h
  | asgs x =>
    simp only [stepOp] at h
    have e : ∀ st2,Same (AOp.asgs x).slots ds es dst st st2 → st2.opd x = st.opd x := fun st2 hs => hs.opd fun _ h => h
    split at h
    · rename_i u hu'
      simp only [Option.some.injEq,Prod.mk.injEq] at h
      obtain ⟨rfl,rfl⟩ := h
      exact .plain fun st2 hs => by simp only [stepOp,e st2 hs,hu']
    · rename_i cs g hu'
      simp only [Option.some.injEq,Prod.mk.injEq] at h
      obtain ⟨rfl,rfl⟩ := h
      exact .eat (x := x) (fun _ h => h) hq fun st2 hs => by simp only [stepOp,e st2 hs,hu']
    · cases h
  | asgo x => simp [quiet] at hq
  | pick c a b =>
    simp only [stepOp] at h
    have ec : ∀ st2,Same (AOp.pick c a b).slots ds es dst st st2 → st2.opd c = st.opd c := fun st2 hs => hs.opd fun _ => mem_l
    have ea : ∀ st2,Same (AOp.pick c a b).slots ds es dst st st2 → st2.opd a = st.opd a := fun st2 hs => hs.opd fun _ h => mem_r (mem_l h)
    have eb : ∀ st2,Same (AOp.pick c a b).slots ds es dst st st2 → st2.opd b = st.opd b := fun st2 hs => hs.opd fun _ h => mem_r (mem_r h)
    split at h
    · rename_i t ht
      split at h
      · rename_i u hu'
        simp only [Option.some.injEq,Prod.mk.injEq] at h
        obtain ⟨rfl,rfl⟩ := h
        refine .plain fun st2 hs => ?_
        have : st2.opd (if t = true then a else b) = .av u := by
          rw [← hu']
          cases t
          · exact eb st2 hs
          · exact ea st2 hs
        simp only [stepOp,ec st2 hs,ht,this]
      · cases h
    · cases h
  | alloc z =>
    cases dst with
    | none => simp [stepOp] at h
    | some d =>
      simp only [stepOp] at h
      split at h
      · cases h
      · rename_i hb
        simp only [Option.some.injEq,Prod.mk.injEq] at h
        obtain ⟨rfl,rfl⟩ := h
        exact ⟨[],some z,by simp,by simp [putbox,eatL_nil],fun st2 hs _ => by
          have : getB st2.boxes d = none := (hs.own d rfl).trans hb
          simp only [stepOp,this,putbox,eatL_nil]⟩
  | box x =>
    cases dst with
    | none => simp [stepOp] at h
    | some d =>
      simp only [stepOp] at h
      split at h
      · cases h
      · rename_i hb
        split at h
        · rename_i cs g hg
          simp only [Option.some.injEq,Prod.mk.injEq] at h
          obtain ⟨rfl,rfl⟩ := h
          have hx : ∀ k ∈ x.tm,k ∈ (AOp.box x).slots := fun _ h => h
          have hbx : ∀ s0 : St,(x.eat s0).boxes = s0.boxes := fun s0 => by rw [eat_eq]; rfl
          refine ⟨eatS st x,some cs,fun k hk => ⟨hx k (eatS_in hq k hk).1,(eatS_in hq k hk).2⟩,by rw [eat_eq]; rfl,fun st2 hs _ => ?_⟩
          have : getB st2.boxes d = none := (hs.own d rfl).trans hb
          simp only [stepOp,this,hs.opd hx,hg,putbox]
          rw [eat_eq,eatS_same hs hx]
          rfl
        · cases h
  | build z ps =>
    simp only [stepOp] at h
    split at h
    · rename_i l st1 hg
      split at h
      · rename_i cs hf
        simp only [Option.some.injEq,Prod.mk.injEq] at h
        obtain ⟨rfl,rfl⟩ := h
        obtain ⟨E,e1,e2,e3⟩ := gives_same (Z := (AOp.build z ps).slots) (ds := ds) (es := es) (d := dst) hg (fun _ h => h) hq
        exact ⟨E,none,e1,by rw [e2]; cases dst <;> rfl,fun st2 hs _ => by simp only [stepOp,e3 st2 hs,hf]; cases dst <;> rfl⟩
      · cases h
    · cases h
  | buildZ z ps =>
    simp only [stepOp] at h
    split at h
    · rename_i l st1 hg
      split at h
      · rename_i cs hf
        simp only [Option.some.injEq,Prod.mk.injEq] at h
        obtain ⟨rfl,rfl⟩ := h
        obtain ⟨E,e1,e2,e3⟩ := gives_same (Z := (AOp.buildZ z ps).slots) (ds := ds) (es := es) (d := dst) hg (fun _ h => h) hq
        exact ⟨E,none,e1,by rw [e2]; cases dst <;> rfl,fun st2 hs _ => by simp only [stepOp,e3 st2 hs,hf]; cases dst <;> rfl⟩
      · cases h
    · cases h
  | buildS m k z ps =>
    simp only [stepOp] at h
    split at h
    · rename_i l st1 hg
      split at h
      · rename_i cs hf
        simp only [Option.some.injEq,Prod.mk.injEq] at h
        obtain ⟨rfl,rfl⟩ := h
        obtain ⟨E,e1,e2,e3⟩ := gives_same (Z := (AOp.buildS m k z ps).slots) (ds := ds) (es := es) (d := dst) hg (fun _ h => h) hq
        exact ⟨E,none,e1,by rw [e2]; cases dst <;> rfl,fun st2 hs _ => by simp only [stepOp,e3 st2 hs,hf]; cases dst <;> rfl⟩
      · cases h
    · cases h
  | load m g x =>
    simp only [stepOp] at h
    have e : ∀ st2,Same (AOp.load m g x).slots ds es dst st st2 → st2.opd x = st.opd x := fun st2 hs => hs.opd fun _ h => h
    simp only [quiet] at hq
    split at h
    · rename_i p hp
      rw [hp] at hq
      have ec : ∀ st2,Same (AOp.load m g x).slots ds es dst st st2 → st2.cells p m = st.cells p m := fun st2 hs => safeT_cells hs hq m
      split at h
      · rename_i cs hc
        split at h
        · rename_i vs hv
          simp only [Option.some.injEq,Prod.mk.injEq] at h
          obtain ⟨rfl,rfl⟩ := h
          exact .plain fun st2 hs => by simp only [stepOp,e st2 hs,hp,ec st2 hs,hc,hv]
        · rename_i hv
          simp only [Option.some.injEq,Prod.mk.injEq] at h
          obtain ⟨rfl,rfl⟩ := h
          exact .plain fun st2 hs => by simp only [stepOp,e st2 hs,hp,ec st2 hs,hc,hv]
      · cases h
    · rename_i cs hp
      split at h
      · rename_i hl
        simp only [Option.some.injEq,Prod.mk.injEq] at h
        obtain ⟨rfl,rfl⟩ := h
        exact .plain fun st2 hs => by simp only [stepOp,e st2 hs,hp,if_pos hl]
      · cases h
    · rename_i cs p hp
      split at h
      · rename_i hl
        simp only [Option.some.injEq,Prod.mk.injEq] at h
        obtain ⟨rfl,rfl⟩ := h
        exact .plain fun st2 hs => by simp only [stepOp,e st2 hs,hp,if_pos hl]
      · cases h
    · cases h
  | loadC m x =>
    simp only [stepOp] at h
    have e : ∀ st2,Same (AOp.loadC m x).slots ds es dst st st2 → st2.opd x = st.opd x := fun st2 hs => hs.opd fun _ h => h
    simp only [quiet] at hq
    split at h
    · rename_i p hp
      rw [hp] at hq
      have ec : ∀ st2,Same (AOp.loadC m x).slots ds es dst st st2 → st2.cells p m = st.cells p m := fun st2 hs => safeT_cells hs hq m
      split at h
      · rename_i cs hc
        split at h
        · rename_i vs hv
          simp only [Option.some.injEq,Prod.mk.injEq] at h
          obtain ⟨rfl,rfl⟩ := h
          exact .plain fun st2 hs => by simp only [stepOp,e st2 hs,hp,ec st2 hs,hc,hv]
        · rename_i hv
          simp only [Option.some.injEq,Prod.mk.injEq] at h
          obtain ⟨rfl,rfl⟩ := h
          exact .plain fun st2 hs => by simp only [stepOp,e st2 hs,hp,ec st2 hs,hc,hv]
      · cases h
    · rename_i cs hp
      split at h
      · rename_i hl
        simp only [Option.some.injEq,Prod.mk.injEq] at h
        obtain ⟨rfl,rfl⟩ := h
        exact .plain fun st2 hs => by simp only [stepOp,e st2 hs,hp,if_pos hl]
      · cases h
    · rename_i cs p hp
      split at h
      · rename_i hl
        simp only [Option.some.injEq,Prod.mk.injEq] at h
        obtain ⟨rfl,rfl⟩ := h
        exact .plain fun st2 hs => by simp only [stepOp,e st2 hs,hp,if_pos hl]
      · cases h
    · cases h
  | take m g x => simp [quiet] at hq
  | store m a x => simp [quiet] at hq
  | nilc x =>
    simp only [stepOp] at h
    have e : ∀ st2,Same (AOp.nilc x).slots ds es dst st st2 → st2.opd x = st.opd x := fun st2 hs => hs.opd fun _ h => h
    split at h <;> first
      | (cases h; done)
      | (rename_i hp
         simp only [Option.some.injEq,Prod.mk.injEq] at h
         obtain ⟨rfl,rfl⟩ := h
         exact .plain fun st2 hs => by simp only [stepOp,e st2 hs,hp])
  | binB neg x y =>
    simp only [stepOp] at h
    split at h
    · rename_i a b ha hb
      simp only [Option.some.injEq,Prod.mk.injEq] at h
      obtain ⟨rfl,rfl⟩ := h
      exact .plain fun st2 hs => by simp only [stepOp,hs.opd (x := x) fun _ => mem_l,hs.opd (x := y) fun _ => mem_r,ha,hb]
    · cases h
  | isnil k neg x =>
    simp only [stepOp] at h
    split at h
    · rename_i a ha
      split at h
      · rename_i b hb
        simp only [Option.some.injEq,Prod.mk.injEq] at h
        obtain ⟨rfl,rfl⟩ := h
        exact .plain fun st2 hs => by simp only [stepOp,hs.opd (x := x) fun _ h => h,ha,hb]
      · cases h
    · cases h
  | un op x =>
    simp only [stepOp] at h
    split at h
    · rename_i a ha
      split at h
      · rename_i b hb
        simp only [Option.some.injEq,Prod.mk.injEq] at h
        obtain ⟨rfl,rfl⟩ := h
        exact .plain fun st2 hs => by simp only [stepOp,hs.opd (x := x) fun _ h => h,ha,hb]
      · cases h
    · cases h
  | conv c x =>
    simp only [stepOp] at h
    split at h
    · rename_i a ha
      split at h
      · rename_i b hb
        simp only [Option.some.injEq,Prod.mk.injEq] at h
        obtain ⟨rfl,rfl⟩ := h
        exact .plain fun st2 hs => by simp only [stepOp,hs.opd (x := x) fun _ h => h,ha,hb]
      · cases h
    · cases h
  | mki t x =>
    simp only [stepOp] at h
    simp only [quiet] at hq
    split at h
    · rename_i a ha
      simp only [Option.some.injEq,Prod.mk.injEq] at h
      obtain ⟨rfl,rfl⟩ := h
      exact .plain fun st2 hs => by simp only [stepOp,hs.opd (x := x) fun _ h => h,ha]
    · rename_i k hp
      rw [hp] at hq
      simp [TV.isPlc] at hq
    · cases h
  | mkf f a b =>
    simp only [stepOp] at h
    simp only [quiet] at hq
    split at h
    · rename_i fs hf
      split at h
      · rename_i vs st1 hc
        simp only [Option.some.injEq,Prod.mk.injEq] at h
        obtain ⟨rfl,rfl⟩ := h
        obtain ⟨rfl,e2⟩ := caps_same (Z := (AOp.mkf f a b).slots) (ds := ds) (es := es) (d := dst) hc (fun _ => mem_r) hq
        exact .plain fun st2 hs => by simp only [stepOp,avs_same hs (xs := a) fun _ => mem_l,hf,e2 st2 hs]
      · cases h
    · cases h
  | mks z l c =>
    simp only [stepOp] at h
    split at h
    · rename_i a b ha hb
      split at h
      · rename_i hl
        simp only [Option.some.injEq,Prod.mk.injEq] at h
        obtain ⟨rfl,rfl⟩ := h
        exact .plain fun st2 hs => by simp only [stepOp,hs.opd (x := l) fun _ => mem_l,hs.opd (x := c) fun _ => mem_r,ha,hb,if_pos hl]
      · cases h
    · cases h
  | slc i k x lo hi =>
    have ex : ∀ st2,Same (AOp.slc i k x lo hi).slots ds es dst st st2 → st2.opd x = st.opd x := fun st2 hs => hs.opd fun _ => mem_l
    have el : ∀ (d0 : Nat) st2,Same (AOp.slc i k x lo hi).slots ds es dst st st2 → st2.bnd d0 lo = st.bnd d0 lo := fun d0 st2 hs => by
      cases lo with
      | none => rfl
      | some o => simp only [St.bnd,hs.opd (x := o) fun k hk => mem_r (mem_l hk)]
    have eh : ∀ (d0 : Nat) st2,Same (AOp.slc i k x lo hi).slots ds es dst st st2 → st2.bnd d0 hi = st.bnd d0 hi := fun d0 st2 hs => by
      cases hi with
      | none => rfl
      | some o => simp only [St.bnd,hs.opd (x := o) fun k hk => mem_r (mem_r hk)]
    simp only [quiet] at hq
    simp only [stepOp] at h
    split at h
    · rename_i s0 hs0
      split at h
      · rename_i l0 h0 hl hh0
        split at h
        · rename_i hc
          simp only [Option.some.injEq,Prod.mk.injEq] at h
          obtain ⟨rfl,rfl⟩ := h
          exact .plain fun st2 hs => by simp only [stepOp,ex st2 hs,hs0,el _ st2 hs,eh _ st2 hs,hl,hh0,if_pos hc]
        · cases h
      · cases h
    · rename_i k' rows hs0
      split at h
      · rename_i l0 h0 hl hh0
        split at h
        · rename_i hc
          split at h
          · rename_i k2 rs hx
            split at h
            · rename_i hl0
              simp only [Option.some.injEq,Prod.mk.injEq] at h
              obtain ⟨rfl,rfl⟩ := h
              refine .eat (x := x) (fun _ => mem_l) hq fun st2 hs => ?_
              simp only [stepOp,ex st2 hs,hs0,el _ st2 hs,eh _ st2 hs,hl,hh0,if_pos hc]
              rw [hx]
              simp only [if_pos hl0]
            · cases h
          · rename_i u hx
            simp only [Option.some.injEq,Prod.mk.injEq] at h
            obtain ⟨rfl,rfl⟩ := h
            refine .plain fun st2 hs => ?_
            simp only [stepOp,ex st2 hs,hs0,el _ st2 hs,eh _ st2 hs,hl,hh0,if_pos hc]
            rw [hx]
          · rename_i u p hx
            simp only [Option.some.injEq,Prod.mk.injEq] at h
            obtain ⟨rfl,rfl⟩ := h
            refine .plain fun st2 hs => ?_
            simp only [stepOp,ex st2 hs,hs0,el _ st2 hs,eh _ st2 hs,hl,hh0,if_pos hc]
            rw [hx]
          · cases h
        · cases h
      · cases h
    · cases h
  | fadr off x =>
    simp only [stepOp] at h
    have e : ∀ st2,Same (AOp.fadr off x).slots ds es dst st st2 → st2.opd x = st.opd x := fun st2 hs => hs.opd fun _ h => h
    simp only [quiet] at hq
    split at h
    · rename_i p hp
      rw [hp] at hq
      split at h
      · rename_i hc
        simp only [Option.some.injEq,Prod.mk.injEq] at h
        obtain ⟨rfl,rfl⟩ := h
        exact .plain fun st2 hs => by simp only [stepOp,e st2 hs,hp,safeT_cells hs hq off,hc,if_true]
      · cases h
    · rename_i cs hp
      split at h
      · rename_i hl
        simp only [Option.some.injEq,Prod.mk.injEq] at h
        obtain ⟨rfl,rfl⟩ := h
        exact .plain fun st2 hs => by simp only [stepOp,e st2 hs,hp,if_pos hl]
      · cases h
    · rename_i cs p hp
      split at h
      · rename_i hl
        simp only [Option.some.injEq,Prod.mk.injEq] at h
        obtain ⟨rfl,rfl⟩ := h
        exact .plain fun st2 hs => by simp only [stepOp,e st2 hs,hp,if_pos hl]
      · cases h
    · cases h
  | fld off m g x =>
    simp only [stepOp] at h
    have e : ∀ st2,Same (AOp.fld off m g x).slots ds es dst st st2 → st2.opd x = st.opd x := fun st2 hs => hs.opd fun _ h => h
    split at h
    · rename_i cs hp
      split at h
      · rename_i hl
        simp only [Option.some.injEq,Prod.mk.injEq] at h
        obtain ⟨rfl,rfl⟩ := h
        exact .plain fun st2 hs => by simp only [stepOp,e st2 hs,hp,if_pos hl]
      · cases h
    · rename_i cs p hp
      split at h
      · rename_i hl
        simp only [Option.some.injEq,Prod.mk.injEq] at h
        obtain ⟨rfl,rfl⟩ := h
        exact .plain fun st2 hs => by simp only [stepOp,e st2 hs,hp,if_pos hl]
      · cases h
    · cases h
  | iadr k x i =>
    have ex : ∀ st2,Same (AOp.iadr k x i).slots ds es dst st st2 → st2.opd x = st.opd x := fun st2 hs => hs.opd fun _ => mem_l
    have ei : ∀ st2,Same (AOp.iadr k x i).slots ds es dst st st2 → st2.opd i = st.opd i := fun st2 hs => hs.opd fun _ => mem_r
    simp only [quiet] at hq
    simp only [stepOp] at h
    split at h
    · rename_i iv hi
      split at h
      · cases h
      · rename_i i0 hi0
        split at h
        · rename_i k' rows hx
          split at h
          · rename_i hk
            split at h
            · rename_i r hr
              simp only [Option.some.injEq,Prod.mk.injEq] at h
              obtain ⟨rfl,rfl⟩ := h
              exact .plain fun st2 hs => by simp only [stepOp,ex st2 hs,ei st2 hs,hi,hi0,hx,if_pos hk,hr]
            · cases h
          · cases h
        · rename_i k' rows p hx
          rw [hx] at hq
          split at h
          · rename_i k2 rs hc
            split at h
            · rename_i hl
              simp only [Option.some.injEq,Prod.mk.injEq] at h
              obtain ⟨rfl,rfl⟩ := h
              exact .plain fun st2 hs => by simp only [stepOp,ex st2 hs,ei st2 hs,hi,hi0,hx,safeT_cells hs hq 1,hc,if_pos hl]
            · cases h
          · cases h
        · rename_i k' rows hx
          split at h
          · rename_i hk
            split at h
            · rename_i r hr
              simp only [Option.some.injEq,Prod.mk.injEq] at h
              obtain ⟨rfl,rfl⟩ := h
              exact .plain fun st2 hs => by simp only [stepOp,ex st2 hs,ei st2 hs,hi,hi0,hx,if_pos hk,hr]
            · cases h
          · cases h
        · cases h
    · cases h
  | storeR m x n => simp [quiet] at hq
  | appendR b k x y => simp [quiet] at hq
  | mvh n =>
    have en : ∀ st2,Same (AOp.mvh n).slots ds es dst st st2 → getE st2.env n = getE st.env n := fun st2 hs => hs.slot n (by simp [AOp.slots])
    simp only [stepOp] at h
    split at h
    · rename_i k r rs hx
      simp only [Option.some.injEq,Prod.mk.injEq] at h
      obtain ⟨rfl,rfl⟩ := h
      exact .plain fun st2 hs => by simp only [stepOp,en st2 hs,hx]
    · cases h
  | iadrH k n i =>
    have en : ∀ st2,Same (AOp.iadrH k n i).slots ds es dst st st2 → getE st2.env n = getE st.env n := fun st2 hs => hs.slot n (by simp [AOp.slots])
    have ei : ∀ st2,Same (AOp.iadrH k n i).slots ds es dst st st2 → st2.opd i = st.opd i := fun st2 hs => hs.opd fun _ h => by simp only [AOp.slots]; exact List.mem_cons_of_mem _ h
    simp only [quiet] at hq
    simp only [stepOp] at h
    split at h
    · rename_i iv hi
      split at h
      · rename_i j hj
        split at h
        · rename_i n' len hx
          rw [hx] at hq
          have hq' : safeP ds es ⟨.slot n',[],0⟩ = true := hq
          split at h
          · rename_i k' rs hc
            split at h
            · rename_i hl
              simp only [Option.some.injEq,Prod.mk.injEq] at h
              obtain ⟨rfl,rfl⟩ := h
              exact .plain fun st2 hs => by simp only [stepOp,en st2 hs,ei st2 hs,hi,hj,hx,safeT_cells hs hq' 1,hc,if_pos hl]
            · cases h
          · cases h
        · cases h
      · cases h
    · cases h
  | iadrR k n i =>
    have en : ∀ st2,Same (AOp.iadrR k n i).slots ds es dst st st2 → getE st2.env n = getE st.env n := fun st2 hs => hs.slot n (by simp [AOp.slots])
    have ei : ∀ st2,Same (AOp.iadrR k n i).slots ds es dst st st2 → st2.opd i = st.opd i := fun st2 hs => hs.opd fun _ h => by simp only [AOp.slots]; exact List.mem_cons_of_mem _ h
    simp only [stepOp] at h
    split at h
    · rename_i iv hi
      split at h
      · rename_i j hj
        split at h
        · rename_i k' rs hx
          split at h
          · rename_i hl
            simp only [Option.some.injEq,Prod.mk.injEq] at h
            obtain ⟨rfl,rfl⟩ := h
            exact .plain fun st2 hs => by simp only [stepOp,en st2 hs,ei st2 hs,hi,hj,hx,if_pos hl]
          · cases h
        · cases h
      · cases h
    · cases h
  | iadrA m k x i =>
    have ex : ∀ st2,Same (AOp.iadrA m k x i).slots ds es dst st st2 → st2.opd x = st.opd x := fun st2 hs => hs.opd fun _ => mem_l
    have ei : ∀ st2,Same (AOp.iadrA m k x i).slots ds es dst st st2 → st2.opd i = st.opd i := fun st2 hs => hs.opd fun _ => mem_r
    simp only [quiet] at hq
    simp only [stepOp] at h
    split at h
    · rename_i iv hi
      split at h
      · cases h
      · rename_i i0 hi0
        split at h
        · cases h
        · rename_i hm
          split at h
          · rename_i p hx
            rw [hx] at hq
            split at h
            · rename_i hc
              simp only [Option.some.injEq,Prod.mk.injEq] at h
              obtain ⟨rfl,rfl⟩ := h
              exact .plain fun st2 hs => by simp only [stepOp,ex st2 hs,ei st2 hs,hi,hi0,hx,if_neg hm,safeT_cells hs hq _,hc,if_true]
            · cases h
          · rename_i cs hx
            split at h
            · rename_i hl
              simp only [Option.some.injEq,Prod.mk.injEq] at h
              obtain ⟨rfl,rfl⟩ := h
              exact .plain fun st2 hs => by simp only [stepOp,ex st2 hs,ei st2 hs,hi,hi0,hx,if_neg hm,if_pos hl]
            · cases h
          · cases h
    · cases h
  | idxA m k g x i =>
    have ex : ∀ st2,Same (AOp.idxA m k g x i).slots ds es dst st st2 → st2.opd x = st.opd x := fun st2 hs => hs.opd fun _ => mem_l
    have ei : ∀ st2,Same (AOp.idxA m k g x i).slots ds es dst st st2 → st2.opd i = st.opd i := fun st2 hs => hs.opd fun _ => mem_r
    simp only [stepOp] at h
    split at h
    · rename_i cs iv hx hi
      split at h
      · cases h
      · rename_i i0 hi0
        split at h
        · rename_i hl
          simp only [Option.some.injEq,Prod.mk.injEq] at h
          obtain ⟨rfl,rfl⟩ := h
          exact .plain fun st2 hs => by simp only [stepOp,ex st2 hs,ei st2 hs,hi,hi0,hx,if_pos hl]
        · cases h
    · rename_i cs p iv hx hi
      split at h
      · cases h
      · rename_i i0 hi0
        split at h
        · rename_i hl
          simp only [Option.some.injEq,Prod.mk.injEq] at h
          obtain ⟨rfl,rfl⟩ := h
          exact .plain fun st2 hs => by simp only [stepOp,ex st2 hs,ei st2 hs,hi,hi0,hx,if_pos hl]
        · cases h
    · cases h
  | idxS x i =>
    have ex : ∀ st2,Same (AOp.idxS x i).slots ds es dst st st2 → st2.opd x = st.opd x := fun st2 hs => hs.opd fun _ => mem_l
    have ei : ∀ st2,Same (AOp.idxS x i).slots ds es dst st st2 → st2.opd i = st.opd i := fun st2 hs => hs.opd fun _ => mem_r
    simp only [stepOp] at h
    split at h
    · rename_i cs iv hx hi
      split at h
      · cases h
      · rename_i i0 hi0
        split at h
        · rename_i b hb
          simp only [Option.some.injEq,Prod.mk.injEq] at h
          obtain ⟨rfl,rfl⟩ := h
          exact .plain fun st2 hs => by simp only [stepOp,ex st2 hs,ei st2 hs,hi,hi0,hx,hb]
        · cases h
    · cases h
  | ext x i =>
    simp only [quiet] at hq
    simp only [stepOp] at h
    split at h
    · rename_i m l hl
      rw [hl] at hq
      split at h
      · rename_i cs g hi
        simp only [hi] at hq
        split at h
        · rename_i vs hv
          simp only [Option.some.injEq,Prod.mk.injEq] at h
          obtain ⟨rfl,rfl⟩ := h
          exact .plain fun st2 hs => by
            have e : st2.opd (.t m) = st.opd (.t m) := hs.opd fun _ h => h
            simp only [stepOp,e,hl,hi,hv]
        · rename_i hv
          rw [hv] at hq
          cases hq
      · cases h
    · cases h
  | tas t ok x =>
    simp only [stepOp] at h
    split at h
    · rename_i u w hp
      split at h
      · cases h
      · rename_i hok
        split at h
        · rename_i hut
          simp only [Option.some.injEq,Prod.mk.injEq] at h
          obtain ⟨rfl,rfl⟩ := h
          exact .plain fun st2 hs => by simp only [stepOp,hs.opd (x := x) fun _ h => h,hp,if_neg hok,if_pos hut]
        · cases h
    · cases h
  | len i x =>
    simp only [stepOp] at h
    split at h
    · rename_i s0 hs0
      simp only [Option.some.injEq,Prod.mk.injEq] at h
      obtain ⟨rfl,rfl⟩ := h
      exact .plain fun st2 hs => by simp only [stepOp,hs.opd (x := x) fun _ h => h,hs0]
    · rename_i s0 hs0
      simp only [Option.some.injEq,Prod.mk.injEq] at h
      obtain ⟨rfl,rfl⟩ := h
      exact .plain fun st2 hs => by simp only [stepOp,hs.opd (x := x) fun _ h => h,hs0]
    · cases h
  | mm i xs =>
    simp only [stepOp] at h
    split at h
    · rename_i u us hv
      split at h
      · rename_i r hr
        simp only [Option.some.injEq,Prod.mk.injEq] at h
        obtain ⟨rfl,rfl⟩ := h
        exact .plain fun st2 hs => by simp only [stepOp,avs_same hs (xs := xs) fun _ h => h,hv,hr]
      · cases h
    · cases h
  | append b k x y =>
    simp only [quiet,Bool.and_eq_true,Bool.not_eq_true'] at hq
    obtain ⟨⟨⟨rfl,hx⟩,hya⟩,hy⟩ := hq
    have hh := hh rfl
    have ey : ∀ st2,Same (AOp.append b k x y).slots ds es dst st st2 → st2.opd y = st.opd y := fun st2 hs => hs.opd fun _ => mem_r
    have hxz : ∀ k' ∈ x.tm,k' ∈ (AOp.append b k x y).slots := fun _ => mem_l
    have hyz : ∀ k' ∈ y.tm,k' ∈ (AOp.append b k x y).slots := fun _ => mem_r
    simp only [stepOp] at h
    split at h
    · cases h
    · rename_i rows st1 hnew
      have key : ∃ Ey,(∀ k' ∈ Ey,k' ∈ (AOp.append b k x y).slots ∧ es.contains k' = true) ∧ st1 = eatL Ey st ∧ ∀ st2,Same (AOp.append b k x y).slots ds es dst st st2 →
          appNew st2 k y = some (rows,eatL Ey st2) := by
        simp only [appNew] at hnew ⊢
        split at hnew
        · rename_i k' rs hyv
          split at hnew
          · rename_i hk
            simp only [Option.some.injEq,Prod.mk.injEq] at hnew
            obtain ⟨rfl,rfl⟩ := hnew
            exact ⟨[],by simp,(eatL_nil _).symm,fun st2 hs => by simp only [ey st2 hs,hyv,if_pos hk,eatL_nil]⟩
          · cases hnew
        · rename_i k' nn hyv
          split at hnew
          · rename_i hk
            simp only [Option.some.injEq,Prod.mk.injEq] at hnew
            obtain ⟨rfl,rfl⟩ := hnew
            exact ⟨[],by simp,(eatL_nil _).symm,fun st2 hs => by simp only [ey st2 hs,hyv,if_pos hk,eatL_nil]⟩
          · cases hnew
        · rename_i k' rs hyv
          split at hnew
          · rename_i hk
            simp only [Option.some.injEq,Prod.mk.injEq] at hnew
            obtain ⟨rfl,rfl⟩ := hnew
            exact ⟨eatS st y,fun k' hk' => ⟨hyz k' (eatS_in hy k' hk').1,(eatS_in hy k' hk').2⟩,eat_eq _ _,fun st2 hs => by
              simp only [ey st2 hs,hyv,if_pos hk]; rw [eat_eq,eatS_same hs hyz]⟩
          · cases hnew
        · rename_i rs p hyv
          rw [hyv] at hya
          cases hya
        · cases hnew
      obtain ⟨Ey,e1,rfl,e3⟩ := key
      split at h
      · rename_i k' base hxv
        split at h
        · rename_i hk
          simp only [Option.some.injEq,Prod.mk.injEq] at h
          obtain ⟨rfl,rfl⟩ := h
          have hx' : eatOk es (eatL Ey st) x = true := by
            cases x with
            | t m =>
              simp only [eatOk,getE,eatL]
              by_cases hm : Ey.contains m = true
              · simp only [hm,if_true]
              · simp only [hm]
                split at hx
                · exact hx
                · cases hx
            | _ => rfl
          have hush : ∀ s0 : St,s0.hush = s0 → ∀ E,(eatL E s0).hush = eatL E s0 := fun s0 h0 E => by
            simp only [St.hush,eatL]
            congr 1
            funext k'
            simp only [hushE]
            by_cases hm : E.contains k' = true
            · simp only [hm,if_true]; rfl
            · simp only [hm]
              have := congrFun (congrArg St.env h0) k'
              exact this
          refine ⟨Ey ++ eatS (eatL Ey st) x,none,fun k' hk' => ?_,?_,fun st2 hs hh2 => ?_⟩
          · rcases List.mem_append.1 hk' with hk' | hk'
            · exact e1 k' hk'
            · exact ⟨hxz k' (eatS_in hx' k' hk').1,(eatS_in hx' k' hk').2⟩
          · rw [eat_eq,eatL_app,hush st hh]; cases dst <;> rfl
          · have hs' := hs.eatL Ey
            have ex2 : (eatL Ey st2).opd x = (eatL Ey st).opd x := hs'.opd hxz
            simp only [stepOp,e3 st2 hs,ex2,hxv,if_pos hk]
            rw [eat_eq,eatS_same hs' hxz,eatL_app,hush st2 (hh2 rfl)]
            cases dst <;> rfl
        · cases h
      · rename_i vl p hxv
        have : ∃ cs g,st.opd x = .own cs g := by
          split at hx
          · rename_i cs g e; exact ⟨cs,g,e⟩
          · cases hx
        obtain ⟨cs,g,e⟩ := this
        exfalso
        cases x with
        | t m =>
          simp only [St.opd,getE,eatL] at hxv e
          by_cases hm : Ey.contains m = true
          · simp only [hm,if_true] at hxv; cases hxv
          · simp only [hm] at hxv
            rw [show st.env m = .own cs g from e] at hxv
            cases hxv
        | _ => simp [St.opd] at hxv e
      · cases h
  | call s f xs => simp [stepOp] at h
  | callM s f xs => simp [stepOp] at h
  | fail => simp [stepOp] at h
theorem q_step {op : AOp} (h : stepC T n dst op st = some (v,st')) (hq : quiet T hu ds es st op = true) (hh : hu = true → st.hush = st) : QStep op.slots ds es dst (stepC T n dst op) hu st v st' := by
  cases n with
  | zero => simp [stepC] at h
  | succ n =>
    cases op with
    | call s f xs =>
      simp only [stepC] at h
      simp only [quiet,Bool.and_eq_true] at hq
      obtain ⟨hm,he⟩ := hq
      split at h
      · rename_i g first cs t0 hf
        rw [hf] at hm
        simp only at hm
        split at h
        · rename_i l t ks st1 ha
          split at h
          · cases h
          · rename_i hio
            split at h
            · rename_i cr hcr
              split at h
              · cases h
              · rename_i ht
                simp only [Option.some.injEq,Prod.mk.injEq] at h
                obtain ⟨rfl,rfl⟩ := h
                have hm' : (((T.modes g).drop first.length).all PMode.isVal) = true := by
                  rw [List.all_eq_true] at hm ⊢
                  exact fun x hx => hm x (List.mem_of_mem_drop hx)
                obtain ⟨e1,e2,E,e3,e4,e5⟩ := args_same (Z := (AOp.call s f xs).slots) (ds := ds) (es := es) (d := dst) ha (fun _ => mem_r) hm' he
                refine ⟨E,none,e3,?_,fun st2 hs _ => ?_⟩
                · rw [if_neg (by simp [e2]),e4]; cases dst <;> rfl
                · have ef : st2.opd f = st.opd f := hs.opd fun _ => mem_l
                  simp only [stepC,ef,hf,e5 st2 hs,if_neg hio,hcr,if_neg ht]
                  rw [if_neg (by simp [e2])]
                  cases dst <;> rfl
            · cases h
        · cases h
      · cases h
    | callM s f xs => simp [quiet] at hq
    | _ =>
      have h' := q_stepOp (by simpa only [stepC] using h) hq hh
      obtain ⟨E,bx,e1,e2,e3⟩ := h'
      exact ⟨E,bx,e1,e2,fun st2 hs hh2 => by simpa only [stepC] using e3 st2 hs hh2⟩
end
end Hm
/- Quiet operations in whatever order: the state behind some of them. Conditions: none (plain lemmas). -/
namespace Hm
open Go
structure Rc where
  d : Nat
  v : TV
  bx : Option (List Cell)
  E : List Nat
  s : Bool := false
  deriving Inhabited
def Rc.fin (r : Rc) (st : St) : St := if r.s then putbox (some r.d) r.bx (eatL r.E st) else (putbox (some r.d) r.bx (eatL r.E st)).put r.d r.v
theorem q_runOp {T : Tab} {n : Nat} {hu : Bool} {ds es : List Nat} {o : AO} {st st' : St} {d : Nat} (hd : o.dst = some d) (h : runOp T n o st = some st') (hq : quietO T hu ds es st o = true) (hh : hu = true → st.hush = st) :
    ∃ r : Rc,(r.d = d ∧ r.s = false) ∧ (∀ k ∈ r.E,k ∈ o.slots ∧ es.contains k = true) ∧ st' = r.fin st ∧ ∀ st2,Same o.slots ds es (some d) st st2 → (hu = true → st2.hush = st2) → runOp T n o st2 = some (r.fin st2) := by
  have hw2 : ∀ st2,Same o.slots ds es (some d) st st2 → wanted st2 o.guard = wanted st o.guard := fun st2 hs => by
    cases hg : o.guard with
    | none => rfl
    | some x =>
      obtain ⟨t,b⟩ := x
      have : getE st2.env t = getE st.env t := hs.slot t (by simp [AO.slots,hg])
      simp only [wanted,this]
  cases n with
  | zero => simp [runOp] at h
  | succ n =>
    rw [runOp] at h
    unfold quietO at hq
    split at h
    · cases h
    · rename_i hw
      rw [hd] at h
      simp only [Option.some.injEq] at h
      refine ⟨⟨d,.skp,none,[],false⟩,⟨rfl,rfl⟩,by simp,by rw [← h]; simp [Rc.fin,putbox,eatL_nil],fun st2 hs _ => ?_⟩
      rw [runOp,hw2 st2 hs,hw,hd]
      simp [Rc.fin,putbox,eatL_nil]
    · rename_i hw
      rw [hw] at hq
      simp only at hq
      split at h
      · rename_i v st1 hst
        rw [hd] at h
        simp only [Option.some.injEq] at h
        obtain ⟨E,bx,e1,e2,e3⟩ := q_step hst hq hh
        rw [hd] at e2 e3
        refine ⟨⟨d,v,bx,E,false⟩,⟨rfl,rfl⟩,fun k hk => ⟨List.mem_append_left _ (e1 k hk).1,(e1 k hk).2⟩,by rw [← h,e2]; rfl,fun st2 hs hh2 => ?_⟩
        rw [runOp,hw2 st2 hs,hw,hd,e3 st2 (hs.sub fun k hk => List.mem_append_left _ hk) hh2]
        rfl
      · cases h
def Calm (ss : List Nat) (st : St) : Prop := st.hush = st ∧ ∀ k,ss.all (fun n => (st.env k).still n) = true
theorem still_clr {n m : Nat} {t : TV} (h : t.still n = true) (hh : t.hush = t) : t.clr ⟨.box n,[],0⟩ m = t := by
  cases t with
  | ali v p =>
    cases p with
    | none => simp [TV.still] at h
    | some q => simp only [TV.still,decide_eq_true_eq] at h; simp only [TV.clr,if_neg h]
  | plc q =>
    simp only [TV.still,Bool.or_eq_true,decide_eq_true_eq] at h
    simp only [TV.clr]
    rcases h with h | h
    · rw [if_neg fun e => h e.1]
    · rw [if_neg fun e => ?_]
      have e2 := e.2
      rw [List.isEmpty_iff.1 h] at e2
      simp [TV.clr.hits] at e2
  | hd q l =>
    simp only [TV.still,decide_eq_true_eq] at h
    simp only [TV.clr,if_neg fun e : q.root = .box n ∧ _ => h e.1]
  | _ => rfl
theorem q_store {T : Tab} {n : Nat} {ss ds es : List Nat} {o : AO} {st st' : St} (h : runOp T n o st = some st') (hq : storeQ ss es st o = true) (hc : Calm ss st) :
    ∃ r : Rc,(o.sbx = some r.d ∧ r.s = true ∧ o.dst = none ∧ r.v = .und) ∧ (∀ k ∈ r.E,k ∈ o.slots ∧ es.contains k = true) ∧ st' = r.fin st ∧ ∀ st2,Same o.slots ds es (some r.d) st st2 → Calm ss st2 → runOp T n o st2 = some (r.fin st2) := by
  obtain ⟨dst,op,g⟩ := o
  unfold storeQ at hq
  split at hq
  rotate_left
  · cases hq
  rename_i d g' op' m k x e1 e2 e3
  simp only at e1 e2 e3
  subst e1 e2 e3
  simp only [Bool.and_eq_true] at hq
  obtain ⟨⟨⟨hk,hp⟩,hl⟩,he⟩ := hq
  split at hp
  rotate_left
  · cases hp
  rename_i k' hpl
  obtain rfl := beq_iff_eq.1 hp
  split at hl
  rotate_left
  · cases hl
  rename_i cs0 hcs0
  have hl := beq_iff_eq.1 hl
  -- what the store does in a state
  have key : ∀ (st2 : St),getE st2.env k' = .plc ⟨.box k',[],0⟩ → getB st2.boxes k' = some cs0 → Calm ss st2 → ∀ (cs : List Cell) (gg : Bool),(st2.opd x).give = some (cs,gg) → cs.length = m →
      stepOp none (.store m (.t k') x) st2 = some (.und,putbox (some k') (some cs) (eatL (eatS st2 x) st2)) := by
    intro st2 h1 h2 hcalm cs gg hgv hlen
    have h1' : st2.opd (.t k') = .plc ⟨.box k',[],0⟩ := h1
    have hr : (x.eat st2).root (.box k') = some cs0 := by
      simp only [St.root]
      rw [eat_eq]
      exact h2
    have hw : (x.eat st2).write ⟨.box k',[],0⟩ cs = some (putbox (some k') (some cs) (eatL (eatS st2 x) st2)) := by
      simp only [St.write,hr,setRow,splice]
      rw [if_pos (by omega)]
      simp only [Option.some.injEq,St.setRoot]
      have e1 : cs0.take 0 ++ cs ++ cs0.drop (0 + cs.length) = cs := by
        rw [List.drop_of_length_le (by omega)]; simp
      rw [e1,eat_eq]
      simp only [putbox,St.mk.injEq,and_true]
      funext j
      simp only [clrE]
      have hj : ((eatL (eatS st2 x) st2).env j) = .und ∨ (eatL (eatS st2 x) st2).env j = st2.env j := by
        simp only [eatL]; split
        · exact .inl rfl
        · exact .inr rfl
      rcases hj with hj | hj
      · rw [hj]; rfl
      · rw [hj]
        refine still_clr (List.all_eq_true.1 (hcalm.2 j) k' (List.contains_iff_mem.1 hk)) ?_
        exact congrFun (congrArg St.env hcalm.1) j
    simp only [stepOp,h1',hgv,hlen,if_true,hw]
  cases n with
  | zero => simp [runOp] at h
  | succ n =>
    rw [runOp] at h
    simp only [wanted] at h
    cases n with
    | zero => simp [stepC] at h
    | succ n =>
      have h1' : st.opd (.t k') = .plc ⟨.box k',[],0⟩ := hpl
      simp only [stepC] at h
      cases hgv : (st.opd x).give with
      | none => simp only [stepOp,h1',hgv] at h; cases h
      | some y =>
        obtain ⟨cs,gg⟩ := y
        by_cases hlen : cs.length = m
        · rw [key st hpl hcs0 hc cs gg hgv hlen] at h
          simp only [Option.some.injEq] at h
          refine ⟨⟨k',.und,some cs,eatS st x,true⟩,⟨rfl,rfl,rfl,rfl⟩,fun j hj => ?_,by rw [← h]; rfl,fun st2 hs hc2 => ?_⟩
          · obtain ⟨a,b⟩ := eatS_in he j hj
            refine ⟨?_,b⟩
            simp only [AO.slots,AOp.slots,List.append_nil]
            exact List.mem_append_right _ a
          · have hx : ∀ j ∈ x.tm,j ∈ (⟨none,.store m (.t k') x,none⟩ : AO).slots := fun j hj => by
              simp only [AO.slots,AOp.slots,List.append_nil]
              exact List.mem_append_right _ hj
            have s1 : getE st2.env k' = .plc ⟨.box k',[],0⟩ := by
              rw [← hpl]
              exact hs.slot k' (by simp [AO.slots,AOp.slots,Opd.tm])
            have s2 : getB st2.boxes k' = some cs0 := by
              rw [← hcs0]
              exact hs.own k' rfl
            rw [runOp]
            simp only [wanted]
            simp only [stepC]
            rw [key st2 s1 s2 hc2 cs gg (by rw [hs.opd hx]; exact hgv) hlen,eatS_same hs hx]
            rfl
        · simp only [stepOp,h1',hgv,if_neg hlen] at h; cases h
/-! ### The state behind some of a bag's operations -/
def cEnv (rc : Nat → Rc) (e0 : Nat → TV) (X : List Nat) : Nat → TV := fun k =>
  if X.any (fun i => (rc i).E.contains k) then .und else match X.find? (fun i => !(rc i).s && (rc i).d == k) with
    | some i => (rc i).v
    | none => e0 k
def cBox (rc : Nat → Rc) (b0 : Nat → Option (List Cell)) (X : List Nat) : Nat → Option (List Cell) := fun k =>
  match X.find? (fun i => (rc i).s && (rc i).d == k && (rc i).bx.isSome) with
  | some i => (rc i).bx
  | none => match X.find? (fun i => !(rc i).s && (rc i).d == k && (rc i).bx.isSome) with
    | some i => (rc i).bx
    | none => b0 k
def canon (rc : Nat → Rc) (st0 : St) (X : List Nat) : St := ⟨cEnv rc st0.env X,cBox rc st0.boxes X⟩
theorem canon_nil (rc : Nat → Rc) (st0 : St) : canon rc st0 [] = st0 := by
  cases st0
  simp only [canon]
  congr 1
theorem canon_cons {rc : Nat → Rc} {st0 : St} {X : List Nat} {i : Nat} (h : (rc i).s = false → ∀ j ∈ i :: X,(rc i).d ∉ (rc j).E) (h2 : (rc i).s = false → ∀ j ∈ X,(rc j).s = true → (rc j).d ≠ (rc i).d) : canon rc st0 (i :: X) = (rc i).fin (canon rc st0 X) := by
  cases hs : (rc i).s with
  | true =>
    have he : cEnv rc st0.env (i :: X) = (eatL (rc i).E (canon rc st0 X)).env := by
      funext k
      simp only [cEnv,eatL,canon,List.any_cons,List.find?_cons,hs,Bool.not_true,Bool.false_and]
      by_cases hE : (rc i).E.contains k = true
      · simp only [hE,Bool.true_or,if_true]
      · have hE' : (rc i).E.contains k = false := by simpa using hE
        simp only [hE',Bool.false_or,Bool.false_eq_true,if_false]
    have hb : cBox rc st0.boxes (i :: X) = (putbox (some (rc i).d) (rc i).bx (eatL (rc i).E (canon rc st0 X))).boxes := by
      funext k
      simp only [cBox,List.find?_cons,hs,Bool.not_true,Bool.false_and,Bool.true_and]
      cases hbx : (rc i).bx with
      | none => simp [putbox,eatL,canon,cBox]
      | some cs =>
        simp only [putbox,eatL,canon,upd,Option.isSome_some,Bool.and_true]
        by_cases hk : k = (rc i).d
        · subst hk; simp [hbx]
        · have hk' : ((rc i).d == k) = false := by simpa using fun e => hk e.symm
          simp only [hk',hk,if_false]; rfl
    have hp : (putbox (some (rc i).d) (rc i).bx (eatL (rc i).E (canon rc st0 X))).env = (eatL (rc i).E (canon rc st0 X)).env := by
      cases (rc i).bx <;> rfl
    have e : canon rc st0 (i :: X) = ⟨cEnv rc st0.env (i :: X),cBox rc st0.boxes (i :: X)⟩ := rfl
    rw [e,he,hb,← hp,Rc.fin,hs]
    rfl
  | false =>
  have h := h hs
  have h2 := h2 hs
  have he : cEnv rc st0.env (i :: X) = upd (eatL (rc i).E (canon rc st0 X)).env (rc i).d (rc i).v := by
    funext k
    simp only [cEnv,upd,eatL,canon,List.any_cons,List.find?_cons,hs,Bool.not_false,Bool.true_and]
    by_cases hk : k = (rc i).d
    · subst hk
      have h1 : ((rc i).E.contains (rc i).d || X.any fun j => (rc j).E.contains (rc i).d) = false := by
        simp only [Bool.or_eq_false_iff,List.any_eq_false]
        refine ⟨?_,fun j hj => ?_⟩
        · simpa using h i (by simp)
        · simpa using h j (List.mem_cons_of_mem _ hj)
      simp only [Bool.or_eq_false_iff] at h1
      simp only [h1.1,h1.2,Bool.or_false,Bool.false_eq_true,if_false,beq_self_eq_true,if_true]
    · have hk' : ((rc i).d == k) = false := by simpa using fun e => hk e.symm
      simp only [hk,if_false,hk']
      by_cases hE : (rc i).E.contains k = true
      · simp only [hE,Bool.true_or,if_true]
      · have hE' : (rc i).E.contains k = false := by simpa using hE
        simp only [hE',Bool.false_or,Bool.false_eq_true,if_false]
  have hb : cBox rc st0.boxes (i :: X) = (putbox (some (rc i).d) (rc i).bx (eatL (rc i).E (canon rc st0 X))).boxes := by
    funext k
    simp only [cBox,List.find?_cons,hs,Bool.not_false,Bool.false_and,Bool.true_and]
    cases hbx : (rc i).bx with
    | none => simp [putbox,eatL,canon,cBox]
    | some cs =>
      simp only [putbox,eatL,canon,upd,Option.isSome_some,Bool.and_true]
      by_cases hk : k = (rc i).d
      · subst hk
        have hn : X.find? (fun j => (rc j).s && (rc j).d == (rc i).d && (rc j).bx.isSome) = none := by
          rw [List.find?_eq_none]
          intro j hj
          simp only [Bool.and_eq_true,beq_iff_eq]
          rintro ⟨⟨a,b⟩,-⟩
          exact h2 j hj a b
        simp [hbx,hn]
      · have hk' : ((rc i).d == k) = false := by simpa using fun e => hk e.symm
        simp only [hk',hk,if_false]; rfl
  have hp : (putbox (some (rc i).d) (rc i).bx (eatL (rc i).E (canon rc st0 X))).env = (eatL (rc i).E (canon rc st0 X)).env := by
    cases (rc i).bx <;> rfl
  simp only [Rc.fin,hs,Bool.false_eq_true,if_false,St.put]
  rw [hp,← he,← hb]
  rfl
theorem find_perm {p : Nat → Bool} {X Y : List Nat} (h : ∀ i,i ∈ X ↔ i ∈ Y) (hu : ∀ i ∈ X,∀ j ∈ X,p i = true → p j = true → i = j) : X.find? p = Y.find? p := by
  cases hx : X.find? p with
  | none =>
    symm
    rw [List.find?_eq_none] at hx ⊢
    exact fun i hi => hx i ((h i).2 hi)
  | some i =>
    have h1 := List.mem_of_find?_eq_some hx
    have h2 := List.find?_some hx
    cases hy : Y.find? p with
    | none =>
      rw [List.find?_eq_none] at hy
      exact absurd h2 (hy i ((h i).1 h1))
    | some j =>
      rw [hu i h1 j ((h j).2 (List.mem_of_find?_eq_some hy)) h2 (List.find?_some hy)]
theorem any_perm {p : Nat → Bool} {X Y : List Nat} (h : ∀ i,i ∈ X ↔ i ∈ Y) : X.any p = Y.any p := by
  rw [Bool.eq_iff_iff,List.any_eq_true,List.any_eq_true]
  exact ⟨fun ⟨i,hi,hp⟩ => ⟨i,(h i).1 hi,hp⟩,fun ⟨i,hi,hp⟩ => ⟨i,(h i).2 hi,hp⟩⟩
theorem canon_perm {rc : Nat → Rc} {st0 : St} {X Y : List Nat} (h : ∀ i,i ∈ X ↔ i ∈ Y) (hu : ∀ i ∈ X,∀ j ∈ X,(rc i).d = (rc j).d → (rc i).s = (rc j).s → i = j) : canon rc st0 X = canon rc st0 Y := by
  have h1 : cEnv rc st0.env X = cEnv rc st0.env Y := by
    funext k
    simp only [cEnv]
    rw [any_perm h,find_perm h fun i hi j hj h1 h2 => hu i hi j hj (by simp only [Bool.and_eq_true,beq_iff_eq] at h1 h2; rw [h1.2,h2.2]) (by simp only [Bool.and_eq_true,Bool.not_eq_true'] at h1 h2; rw [h1.1,h2.1])]
  have h2 : cBox rc st0.boxes X = cBox rc st0.boxes Y := by
    funext k
    simp only [cBox]
    rw [find_perm h fun i hi j hj h1 h2 => hu i hi j hj (by simp only [Bool.and_eq_true,beq_iff_eq] at h1 h2; rw [h1.1.2,h2.1.2]) (by simp only [Bool.and_eq_true] at h1 h2; rw [h1.1.1,h2.1.1]),
      find_perm (p := fun i => !(rc i).s && (rc i).d == k && (rc i).bx.isSome) h fun i hi j hj h1 h2 => hu i hi j hj (by simp only [Bool.and_eq_true,beq_iff_eq] at h1 h2; rw [h1.1.2,h2.1.2]) (by simp only [Bool.and_eq_true,Bool.not_eq_true'] at h1 h2; rw [h1.1.1,h2.1.1])]
  simp only [canon,h1,h2]
theorem canon_rc {rc rc' : Nat → Rc} {st0 : St} {X : List Nat} (h : ∀ i ∈ X,rc i = rc' i) : canon rc st0 X = canon rc' st0 X := by
  have hf : ∀ (p p' : Nat → Bool),(∀ i ∈ X,p i = p' i) → X.find? p = X.find? p' := by
    intro p p' hp
    clear h
    induction X with
    | nil => rfl
    | cons x X ih =>
      simp only [List.find?_cons,hp x (by simp)]
      rw [ih fun i hi => hp i (List.mem_cons_of_mem _ hi)]
  have ha : ∀ (p p' : Nat → Bool),(∀ i ∈ X,p i = p' i) → X.any p = X.any p' := by
    intro p p' hp
    rw [Bool.eq_iff_iff,List.any_eq_true,List.any_eq_true]
    exact ⟨fun ⟨i,hi,h⟩ => ⟨i,hi,by rw [← hp i hi]; exact h⟩,fun ⟨i,hi,h⟩ => ⟨i,hi,by rw [hp i hi]; exact h⟩⟩
  have h1 : cEnv rc st0.env X = cEnv rc' st0.env X := by
    funext k
    simp only [cEnv]
    rw [ha _ (fun i => (rc' i).E.contains k) fun i hi => by rw [h i hi],hf _ (fun i => !(rc' i).s && (rc' i).d == k) fun i hi => by rw [h i hi]]
    split
    · rfl
    · split
      · rename_i i hi; rw [h i (List.mem_of_find?_eq_some hi)]
      · rfl
  have h2 : cBox rc st0.boxes X = cBox rc' st0.boxes X := by
    funext k
    simp only [cBox]
    rw [hf _ (fun i => (rc' i).s && (rc' i).d == k && (rc' i).bx.isSome) fun i hi => by rw [h i hi],hf (fun i => !(rc i).s && (rc i).d == k && (rc i).bx.isSome) (fun i => !(rc' i).s && (rc' i).d == k && (rc' i).bx.isSome) fun i hi => by rw [h i hi]]
    split
    · rename_i i hi; rw [h i (List.mem_of_find?_eq_some hi)]
    · split
      · rename_i i hi; rw [h i (List.mem_of_find?_eq_some hi)]
      · rfl
  simp only [canon,h1,h2]
theorem canon_hush {rc : Nat → Rc} {st0 : St} {X : List Nat} (h : st0.hush = st0) (hv : ∀ i ∈ X,(rc i).v.loose = false) : (canon rc st0 X).hush = canon rc st0 X := by
  have : hushE (cEnv rc st0.env X) = cEnv rc st0.env X := by
    funext k
    simp only [hushE,cEnv]
    split
    · rfl
    · split
      · rename_i i hi
        have := hv i (List.mem_of_find?_eq_some hi)
        revert this
        cases (rc i).v with
        | ali v p => cases p <;> simp [TV.loose,TV.hush]
        | _ => simp [TV.hush]
      · exact congrFun (congrArg St.env h) k
  simp only [St.hush,canon,this]
theorem canon_calm {rc : Nat → Rc} {st0 : St} {X ss : List Nat} (h : ∀ k,ss.all (fun n => (st0.env k).still n) = true) (hv : ∀ i ∈ X,(rc i).s = false → ss.all (fun n => (rc i).v.still n) = true) :
    ∀ k,ss.all (fun n => ((canon rc st0 X).env k).still n) = true := by
  intro k
  simp only [canon,cEnv]
  split
  · simp [TV.still]
  · split
    · rename_i i hi
      have hp := List.find?_some hi
      simp only [Bool.and_eq_true,Bool.not_eq_true'] at hp
      exact hv i (List.mem_of_find?_eq_some hi) hp.1
    · exact h k
end Hm
/- A bag of quiet operations: whatever order its edges allow leaves the same. Conditions: none (plain lemmas). -/
namespace Hm
open Go
def prd (ops : Array Oper) (i : Nat) : List Nat :=
  match ops[i]? with
  | some o => (o.after.toList.filter fun e => Region.binds .any e).map (·.on)
  | none => []
inductive Anc (ops : Array Oper) (i : Nat) : Nat → Prop
  | one {j : Nat} (h : i ∈ prd ops j) : Anc ops i j
  | more {k j : Nat} (h : Anc ops i k) (h' : k ∈ prd ops j) : Anc ops i j
theorem Anc.closed {ops : Array Oper} {X : Nat → Prop} (hX : ∀ j,X j → ∀ i ∈ prd ops j,X i) {i j : Nat} (h : Anc ops i j) (hj : ∀ k ∈ prd ops j,X k) : X i := by
  induction h with
  | one h => exact hj i h
  | more h h' ih => exact ih (hX _ (hj _ h'))
structure BagOk (P : Program) (N : Nm) (nt : Nat) (roots pins : List Nat) (ops : Array Oper) (base es : List Nat) (bag : List (Nat × AO)) : Prop where
  nodup : (bag.map (·.1)).Nodup
  fresh : ∀ x ∈ bag,x.1 ∉ base
  ok : ∀ x ∈ bag,∃ o,ops[x.1]? = some o ∧ okAO P N nt roots pins ops x.2 o = true
  dst : ∀ x ∈ bag,(∃ d,x.2.dst = some d ∧ d ∉ x.2.slots) ∨ (x.2.dst = none ∧ x.2.guard = none ∧ ∃ k,x.2.sbx = some k)
  inj : ∀ x ∈ bag,∀ y ∈ bag,∀ d,x.2.dst = some d → y.2.dst = some d → x.1 = y.1
  sinj : ∀ x ∈ bag,∀ y ∈ bag,∀ d,x.2.sbx = some d → y.2.sbx = some d → x.1 = y.1
  sdep : ∀ x ∈ bag,∀ y ∈ bag,∀ d,x.2.dst = some d → y.2.sbx = some d → Anc ops x.1 y.1
  dep : ∀ x ∈ bag,∀ y ∈ bag,x.1 ≠ y.1 → ∀ d,x.2.dst = some d → d ∈ y.2.slots → Anc ops x.1 y.1 ∨ (Anc ops y.1 x.1 ∧ d ∉ es)
  sole : ∀ x ∈ bag,∀ y ∈ bag,x.1 ≠ y.1 → ∀ k ∈ es,k ∈ x.2.slots → k ∉ y.2.slots
  ord : ∀ p x q,bag = p ++ x :: q → ∀ i ∈ prd ops x.1,i ∈ base ∨ i ∈ p.map (·.1)
  closed : ∀ j ∈ base,∀ i ∈ prd ops j,i ∈ base
section
variable {P : Program} {N : Nm} {nt : Nat} {roots pins : List Nat} {ops : Array Oper} {base es : List Nat} {bag : List (Nat × AO)}
theorem BagOk.eq (B : BagOk P N nt roots pins ops base es bag) {x y : Nat × AO} (hx : x ∈ bag) (hy : y ∈ bag) (h : x.1 = y.1) : x = y := by
  have hn := B.nodup
  clear B
  induction bag with
  | nil => cases hx
  | cons b l ih =>
    simp only [List.map_cons,List.nodup_cons,List.mem_map,not_exists,not_and] at hn
    rcases List.mem_cons.1 hx with h1 | h1
    · rcases List.mem_cons.1 hy with h2 | h2
      · rw [h1,h2]
      · rw [h1] at h; exact absurd h.symm (hn.1 y h2)
    · rcases List.mem_cons.1 hy with h2 | h2
      · rw [h2] at h; exact absurd h (hn.1 x h1)
      · exact ih h1 h2 hn.2
theorem BagOk.pre_closed (B : BagOk P N nt roots pins ops base es bag) : ∀ {p q : List (Nat × AO)},bag = p ++ q → ∀ j,(j ∈ base ∨ j ∈ p.map (·.1)) → ∀ i ∈ prd ops j,i ∈ base ∨ i ∈ p.map (·.1) := by
  intro p q hpq j hj i hi
  rcases hj with hj | hj
  · exact .inl (B.closed j hj i hi)
  · obtain ⟨x,hx,rfl⟩ := List.mem_map.1 hj
    obtain ⟨p1,p2,rfl⟩ := List.append_of_mem hx
    rcases B.ord p1 x (p2 ++ q) (by rw [hpq]; simp) i hi with h | h
    · exact .inl h
    · exact .inr (by rw [List.map_append]; exact List.mem_append_left _ h)
theorem BagOk.eats (B : BagOk P N nt roots pins ops base es bag) {X : List Nat} {x y : Nat × AO} {d : Nat} (hX : ∀ j,(j ∈ base ∨ j ∈ X) → ∀ i ∈ prd ops j,i ∈ base ∨ i ∈ X) (hx : x ∈ bag) (hy : y ∈ bag) (hxX : x.1 ∉ X) (hyX : y.1 = x.1 ∨ y.1 ∈ X)
    (hd : x.2.dst = some d) (hs : d ∈ y.2.slots) : d ∉ es := by
  intro hes
  rcases hyX with h | h
  · obtain rfl := B.eq hx hy h.symm
    rcases B.dst x hx with ⟨d',h1,h2⟩ | ⟨h1,-⟩
    · rw [hd] at h1; cases h1
      exact h2 hs
    · rw [hd] at h1; cases h1
  · have hne : x.1 ≠ y.1 := fun e => hxX (e ▸ h)
    rcases B.dep x hx y hy hne d hd hs with h' | ⟨_,h'⟩
    · rcases h'.closed (X := fun j => j ∈ base ∨ j ∈ X) hX (hX y.1 (.inr h)) with h'' | h''
      · exact B.fresh x hx h''
      · exact hxX h''
    · exact h' hes
theorem find_iff {p : Nat → Bool} {X Y : List Nat} (h : ∀ i,p i = true → (i ∈ X ↔ i ∈ Y)) (hu : ∀ i ∈ X,∀ j ∈ X,p i = true → p j = true → i = j) : X.find? p = Y.find? p := by
  cases hx : X.find? p with
  | none =>
    symm
    rw [List.find?_eq_none] at hx ⊢
    exact fun i hi hp => hx i ((h i hp).2 hi) hp
  | some i =>
    have h1 := List.mem_of_find?_eq_some hx
    have h2 := List.find?_some hx
    cases hy : Y.find? p with
    | none =>
      rw [List.find?_eq_none] at hy
      exact absurd h2 (hy i ((h i h2).1 h1))
    | some j =>
      rw [hu i h1 j ((h j (List.find?_some hy)).2 (List.mem_of_find?_eq_some hy)) h2 (List.find?_some hy)]
def Tg (o : AO) (r : Rc) : Prop := (o.dst = some r.d ∧ r.s = false) ∨ (o.dst = none ∧ o.sbx = some r.d ∧ r.s = true ∧ r.v = .und)
def Cm (hu : Bool) (ss : List Nat) (st : St) : Prop := (hu = true → st.hush = st) ∧ (ss ≠ [] → hu = true) ∧ ∀ k,ss.all (fun n => (st.env k).still n) = true
theorem Cm.calm {hu : Bool} {ss : List Nat} {st : St} (h : Cm hu ss st) (hs : ss ≠ []) : Calm ss st := ⟨h.1 (h.2.1 hs),h.2.2⟩
structure Recs (T : Tab) (n : Nat) (hu : Bool) (ss es : List Nat) (bag : List (Nat × AO)) (st0 st1 : St) (rc : Nat → Rc) : Prop where
  st1 : st1 = canon rc st0 (bag.map (·.1)).reverse
  d : ∀ x ∈ bag,Tg x.2 (rc x.1)
  still : ∀ x ∈ bag,(rc x.1).s = false → ss.all (fun n => (rc x.1).v.still n) = true
  E : ∀ x ∈ bag,∀ k ∈ (rc x.1).E,k ∈ x.2.slots ∧ k ∈ es
  loose : hu = true → ∀ x ∈ bag,(rc x.1).v.loose = false
  run : ∀ p x q,bag = p ++ x :: q → ∀ st2,Same x.2.slots (bagDs bag) es (some (rc x.1).d) (canon rc st0 (p.map (·.1)).reverse) st2 → Cm hu ss st2 → runOp T n x.2 st2 = some ((rc x.1).fin st2)
theorem bag_recs {T : Tab} {n : Nat} {hu : Bool} {ss : List Nat} {st0 st1 : St} (B : BagOk P N nt roots pins ops base es bag) (h0 : Cm hu ss st0) :
    ∀ (q p : List (Nat × AO)) (m : Nat) (rc0 : Nat → Rc),bag = p ++ q → m ≤ n → runBag T m hu ss (bagDs bag) es q (canon rc0 st0 (p.map (·.1)).reverse) = some st1 →
      (∀ x ∈ p,Tg x.2 (rc0 x.1)) → (∀ x ∈ p,(rc0 x.1).s = false → ss.all (fun n => (rc0 x.1).v.still n) = true) → (∀ x ∈ p,∀ k ∈ (rc0 x.1).E,k ∈ x.2.slots ∧ k ∈ es) → (hu = true → ∀ x ∈ p,(rc0 x.1).v.loose = false) →
      (∀ p1 x p2,p = p1 ++ x :: p2 → ∀ st2,Same x.2.slots (bagDs bag) es (some (rc0 x.1).d) (canon rc0 st0 (p1.map (·.1)).reverse) st2 → Cm hu ss st2 → runOp T n x.2 st2 = some ((rc0 x.1).fin st2)) →
      ∃ rc,Recs T n hu ss es bag st0 st1 rc
  | [],p,m,rc0,hb,hm,h,hd,hst,hE,hl,hr => by
    have hb' : bag = p := by rw [hb,List.append_nil]
    subst hb'
    cases m with
    | zero => simp [runBag] at h
    | succ m =>
      rw [runBag] at h
      simp only [Option.some.injEq] at h
      exact ⟨rc0,h.symm,hd,hst,hE,hl,hr⟩
  | x :: q,p,m,rc0,hb,hm,h,hd,hst,hE,hl,hr => by
    obtain ⟨i,o⟩ := x
    cases m with
    | zero => simp [runBag] at h
    | succ m =>
      rw [runBag] at h
      split at h
      · rename_i hq
        split at h
        · rename_i st2 hrun
          split at h
          · cases h
          · rename_i hlo
            have hxb : (i,o) ∈ bag := by rw [hb]; simp
            have hcm : Cm hu ss (canon rc0 st0 (p.map (·.1)).reverse) := ⟨fun hu' =>
              canon_hush (h0.1 hu') fun j hj => by
                rw [List.mem_reverse,List.mem_map] at hj
                obtain ⟨y,hy,rfl⟩ := hj
                exact hl hu' y hy,h0.2.1,canon_calm h0.2.2 fun j hj => by
                rw [List.mem_reverse,List.mem_map] at hj
                obtain ⟨y,hy,rfl⟩ := hj
                exact hst y hy⟩
            obtain ⟨r,r1,r2,r3,r4⟩ : ∃ r : Rc,Tg o r ∧ (∀ k ∈ r.E,k ∈ o.slots ∧ es.contains k = true) ∧ st2 = r.fin (canon rc0 st0 (p.map (·.1)).reverse) ∧
                ∀ st3,Same o.slots (bagDs bag) es (some r.d) (canon rc0 st0 (p.map (·.1)).reverse) st3 → Cm hu ss st3 → runOp T m o st3 = some (r.fin st3) := by
              by_cases hsq : storeQ ss es (canon rc0 st0 (p.map (·.1)).reverse) o = true
              · have hne : ss ≠ [] := by
                  intro e
                  subst e
                  unfold storeQ at hsq
                  split at hsq <;> simp at hsq
                obtain ⟨r,r1,r2,r3,r4⟩ := q_store (ds := bagDs bag) hrun hsq (hcm.calm hne)
                exact ⟨r,.inr ⟨r1.2.2.1,r1.1,r1.2.1,r1.2.2.2⟩,r2,r3,fun st3 a b => r4 st3 a (b.calm hne)⟩
              · have hq' : quietO T hu (bagDs bag) es (canon rc0 st0 (p.map (·.1)).reverse) o = true := by
                  rw [Bool.or_eq_true] at hq
                  exact hq.resolve_right hsq
                cases hdo : o.dst with
                | some d =>
                  obtain ⟨r,r1,r2,r3,r4⟩ := q_runOp (es := es) hdo hrun hq' hcm.1
                  refine ⟨r,.inl ⟨by rw [r1.1]; exact hdo,r1.2⟩,r2,r3,fun st3 a b => r4 st3 (by rw [r1.1] at a; exact a) b.1⟩
                | none =>
                  exfalso
                  rcases B.dst (i,o) hxb with ⟨d,h1,-⟩ | ⟨-,hg,k,h1⟩
                  · simp only at h1; rw [hdo] at h1; cases h1
                  · simp only at hg
                    simp only [AO.sbx,hdo] at h1
                    simp only [quietO,hg,wanted] at hq'
                    cases ho : o.op <;> rw [ho] at h1 hq' <;> simp [AOp.bx] at h1
                    simp [quiet] at hq'
            have hip : i ∉ p.map (·.1) := fun hi => by
              have hn := B.nodup
              rw [hb,List.map_append,List.map_cons,List.nodup_append] at hn
              exact hn.2.2 i hi i (by simp) rfl
            have hsame : ∀ y ∈ p,upd rc0 i r y.1 = rc0 y.1 := fun y hy => by
              simp only [upd]
              have hm' : y.1 ∈ p.map (·.1) := List.mem_map_of_mem (f := (·.1)) hy
              have hne : ¬ y.1 = i := fun e => hip (e ▸ hm')
              rw [if_neg hne]
            have hc : ∀ p1 : List (Nat × AO),(∀ y ∈ p1,y ∈ p) → canon rc0 st0 (p1.map (·.1)).reverse = canon (upd rc0 i r) st0 (p1.map (·.1)).reverse := fun p1 h1 => canon_rc fun j hj => by
              rw [List.mem_reverse,List.mem_map] at hj
              obtain ⟨y,hy,rfl⟩ := hj
              exact (hsame y (h1 y hy)).symm
            have hri : upd rc0 i r i = r := by simp [upd]
            have hpc := B.pre_closed (p := p) hb
            have hdd : r.s = false → ∃ d,o.dst = some d ∧ r.d = d ∧ d ∉ o.slots := fun hrs => by
              rcases r1 with r1 | r1
              · rcases B.dst (i,o) hxb with ⟨d,h1,h2⟩ | ⟨h1,-⟩
                · simp only at h1 h2
                  rw [r1.1] at h1
                  cases h1
                  exact ⟨r.d,r1.1,rfl,h2⟩
                · simp only at h1; rw [r1.1] at h1; cases h1
              · rw [r1.2.2.1] at hrs; cases hrs
            have hnew : st2 = canon (upd rc0 i r) st0 ((p ++ [(i,o)]).map (·.1)).reverse := by
              rw [r3,hc p fun _ h => h]
              rw [List.map_append,List.reverse_append]
              show _ = canon (upd rc0 i r) st0 (i :: (p.map (·.1)).reverse)
              rw [canon_cons,hri]
              · intro hrs j hj hmem
                rw [hri] at hrs hmem
                obtain ⟨d,hd0,hrd,hds⟩ := hdd hrs
                rw [hrd] at hmem
                rcases List.mem_cons.1 hj with rfl | hj
                · rw [hri] at hmem
                  exact hds (r2 d hmem).1
                · rw [List.mem_reverse,List.mem_map] at hj
                  obtain ⟨y,hy,rfl⟩ := hj
                  rw [hsame y hy] at hmem
                  obtain ⟨m1,m2⟩ := hE y hy d hmem
                  exact B.eats (X := p.map (·.1)) hpc hxb (by rw [hb]; exact List.mem_append_left _ hy) hip (.inr (List.mem_map_of_mem (f := (·.1)) hy)) hd0 m1 m2
              · intro hrs j hj hjs e
                rw [hri] at hrs e
                obtain ⟨d,hd0,hrd,hds⟩ := hdd hrs
                rw [List.mem_reverse,List.mem_map] at hj
                obtain ⟨y,hy,rfl⟩ := hj
                rw [hsame y hy] at hjs e
                have hyb : y ∈ bag := by rw [hb]; exact List.mem_append_left _ hy
                rcases hd y hy with t | t
                · rw [t.2] at hjs; cases hjs
                · have hA := B.sdep (i,o) hxb y hyb d hd0 (by rw [t.2.1,e,hrd])
                  rcases hA.closed (X := fun j => j ∈ base ∨ j ∈ p.map (·.1)) hpc (hpc y.1 (.inr (List.mem_map_of_mem (f := (·.1)) hy))) with h' | h'
                  · exact B.fresh _ hxb h'
                  · exact hip h'
            have hgv : r.s = false → ∀ d,o.dst = some d → getE st2.env d = r.v := fun hrs d hdo => by
              obtain ⟨d',hd0,hrd,hds⟩ := hdd hrs
              rw [hdo] at hd0
              cases hd0
              rw [r3]
              simp only [Rc.fin,hrs,Bool.false_eq_true,if_false,St.put,getE,upd,hrd,if_true]
            rw [Bool.or_eq_true,not_or] at hlo
            refine bag_recs B h0 q (p ++ [(i,o)]) m (upd rc0 i r) (by rw [hb]; simp) (by omega) (by rw [← hnew]; exact h) ?_ ?_ ?_ ?_ ?_
            · intro y hy
              rcases List.mem_append.1 hy with hy | hy
              · rw [hsame y hy]; exact hd y hy
              · rw [List.mem_singleton.1 hy,hri]; exact r1
            · intro y hy
              rcases List.mem_append.1 hy with hy | hy
              · rw [hsame y hy]; exact hst y hy
              · rw [List.mem_singleton.1 hy,hri]
                intro hrs
                obtain ⟨d,hd0,hrd,hds⟩ := hdd hrs
                have := hlo.2
                simp only [AO.stillO,hd0,hgv hrs d hd0] at this
                simpa using this
            · intro y hy k hk
              rcases List.mem_append.1 hy with hy | hy
              · rw [hsame y hy] at hk; exact hE y hy k hk
              · rw [List.mem_singleton.1 hy] at hk ⊢
                rw [hri] at hk
                exact ⟨(r2 k hk).1,by simpa using (r2 k hk).2⟩
            · intro hu' y hy
              rcases List.mem_append.1 hy with hy | hy
              · rw [hsame y hy]; exact hl hu' y hy
              · rw [List.mem_singleton.1 hy,hri]
                cases hrs : r.s with
                | false =>
                  obtain ⟨d,hd0,hrd,hds⟩ := hdd hrs
                  have := hlo.1
                  simp only [hu',Bool.true_and,AO.loose,hd0,hgv hrs d hd0] at this
                  simpa using this
                | true =>
                  rcases r1 with r1 | r1
                  · rw [r1.2] at hrs; cases hrs
                  · rw [r1.2.2.2]; rfl
            · intro p1 y p2 hp st3 hs hh3
              rcases List.append_eq_append_iff.1 hp with ⟨a',e1,e2⟩ | ⟨c',e1,e2⟩
              · cases a' with
                | nil =>
                  simp only [List.append_nil] at e1
                  simp only [List.nil_append,List.cons.injEq] at e2
                  obtain ⟨rfl,_⟩ := e2
                  subst e1
                  rw [hri]
                  rw [← hc p1 fun _ h => h] at hs
                  have := r4 st3 (by rw [hri] at hs; exact hs) hh3
                  exact runOp_le this (by omega)
                | cons z zs =>
                  simp only [List.cons_append,List.cons.injEq] at e2
                  have : (zs ++ y :: p2).length = 0 := by rw [← e2.2]; rfl
                  simp at this
              · cases c' with
                | nil =>
                  simp only [List.append_nil] at e1
                  simp only [List.nil_append,List.cons.injEq] at e2
                  obtain ⟨rfl,_⟩ := e2
                  subst e1
                  rw [hri]
                  rw [← hc p fun _ h => h] at hs
                  have := r4 st3 (by rw [hri] at hs; exact hs) hh3
                  exact runOp_le this (by omega)
                | cons z zs =>
                  simp only [List.cons_append,List.cons.injEq] at e2
                  obtain ⟨rfl,e2⟩ := e2
                  have hyp : y ∈ p := by rw [e1]; simp
                  rw [hsame y hyp] at hs ⊢
                  rw [← hc p1 fun z hz => by rw [e1]; exact List.mem_append_left _ hz] at hs
                  exact hr p1 y zs e1 st3 hs hh3
        · cases h
      · cases h
theorem Recs.next {T : Tab} {n : Nat} {hu : Bool} {ss : List Nat} {st0 st1 : St} {rc : Nat → Rc} (Rc : Recs T n hu ss es bag st0 st1 rc) (B : BagOk P N nt roots pins ops base es bag) (h0 : Cm hu ss st0)
    {X : List Nat} (hX : ∀ j ∈ X,j ∈ bag.map (·.1)) (hcl : ∀ j,(j ∈ base ∨ j ∈ X) → ∀ i ∈ prd ops j,i ∈ base ∨ i ∈ X) {x : Nat × AO} (hx : x ∈ bag) (hxX : x.1 ∉ X) (hp : ∀ i ∈ prd ops x.1,i ∈ base ∨ i ∈ X) :
    runOp T n x.2 (canon rc st0 X) = some (canon rc st0 (x.1 :: X)) := by
  obtain ⟨p,q,hb⟩ := List.append_of_mem hx
  have hxd := Rc.d x hx
  have mem : ∀ j ∈ X,∃ y ∈ bag,y.1 = j := fun j hj => by simpa [List.mem_map] using hX j hj
  have hpre := B.pre_closed (p := p) (q := x :: q) hb
  have hxp : x.1 ∉ p.map (·.1) := fun hi => by
    have hn := B.nodup
    rw [hb,List.map_append,List.map_cons,List.nodup_append] at hn
    exact hn.2.2 x.1 hi x.1 (by simp) rfl
  have pm : ∀ y ∈ p,y ∈ bag := fun y hy => by rw [hb]; exact List.mem_append_left _ hy
  -- nothing that x looks at is emptied by another one
  have noE : ∀ (Y : List Nat),(∀ j ∈ Y,∃ y ∈ bag,y.1 = j) → x.1 ∉ Y → ∀ k ∈ x.2.slots,(Y.any fun i => (rc i).E.contains k) = false := fun Y hY hxY k hk => by
    rw [List.any_eq_false]
    intro j hj hc
    obtain ⟨y,hy,rfl⟩ := hY j hj
    obtain ⟨m1,m2⟩ := Rc.E y hy k (by simpa using hc)
    exact B.sole x hx y hy (fun e => hxY (e ▸ hj)) k m2 hk m1
  have memP : ∀ j ∈ (p.map (·.1)).reverse,∃ y ∈ bag,y.1 = j := fun j hj => by
    rw [List.mem_reverse,List.mem_map] at hj
    obtain ⟨y,hy,rfl⟩ := hj
    exact ⟨y,pm y hy,rfl⟩
  have hxp' : x.1 ∉ (p.map (·.1)).reverse := by rwa [List.mem_reverse]
  have inj : ∀ (Y : List Nat),(∀ j ∈ Y,∃ y ∈ bag,y.1 = j) → ∀ i ∈ Y,∀ j ∈ Y,(rc i).d = (rc j).d → (rc i).s = (rc j).s → i = j := fun Y hY i hi j hj h hs => by
    obtain ⟨y,hy,rfl⟩ := hY i hi
    obtain ⟨z,hz,rfl⟩ := hY j hj
    rcases Rc.d y hy with t | t <;> rcases Rc.d z hz with u | u
    · exact B.inj y hy z hz _ t.1 (by rw [h]; exact u.1)
    · rw [t.2,u.2.2.1] at hs; cases hs
    · rw [t.2.2.1,u.2] at hs; cases hs
    · exact B.sinj y hy z hz _ t.2.1 (by rw [h]; exact u.2.1)
  have dstOf : ∀ y ∈ bag,(rc y.1).s = false → y.2.dst = some (rc y.1).d := fun y hy hs => by
    rcases Rc.d y hy with t | t
    · exact t.1
    · rw [t.2.2.1] at hs; cases hs
  have same2 : ∀ y ∈ bag,y.1 ≠ x.1 → (Anc ops y.1 x.1 ∨ Anc ops x.1 y.1) → (y.1 ∈ X ↔ y.1 ∈ (p.map (·.1)).reverse) := fun y hy hne h => by
    rw [List.mem_reverse]
    rcases h with h | h
    · have h1 := h.closed (X := fun j => j ∈ base ∨ j ∈ X) hcl hp
      have h2 := h.closed (X := fun j => j ∈ base ∨ j ∈ p.map (·.1)) hpre (B.ord p x q hb)
      exact ⟨fun _ => h2.resolve_left (B.fresh y hy),fun _ => h1.resolve_left (B.fresh y hy)⟩
    · constructor
      · intro hyX
        rcases h.closed (X := fun j => j ∈ base ∨ j ∈ X) hcl (hcl y.1 (.inr hyX)) with h' | h'
        · exact absurd h' (B.fresh x hx)
        · exact absurd h' hxX
      · intro hyp
        rcases h.closed (X := fun j => j ∈ base ∨ j ∈ p.map (·.1)) hpre (hpre y.1 (.inr hyp)) with h' | h'
        · exact absurd h' (B.fresh x hx)
        · exact absurd h' hxp
  have hslot : ∀ k ∈ x.2.slots,cEnv rc st0.env X k = cEnv rc st0.env (p.map (·.1)).reverse k := fun k hk => by
    simp only [cEnv,noE X mem hxX k hk,noE _ memP hxp' k hk]
    rw [find_iff (X := X) (Y := (p.map (·.1)).reverse)]
    · intro j hj
      simp only [Bool.and_eq_true,Bool.not_eq_true',beq_iff_eq] at hj
      obtain ⟨hjs,hj⟩ := hj
      have key : ∀ y ∈ bag,y.1 = j → (j ∈ X ↔ j ∈ (p.map (·.1)).reverse) := fun y hy hyj => by
        subst hyj
        have hyd := dstOf y hy hjs
        have hne : y.1 ≠ x.1 := fun e => by
          obtain rfl := B.eq hy hx e
          rcases B.dst y hy with ⟨d,h1,h2⟩ | ⟨h1,-⟩
          · rw [hyd] at h1
            cases h1
            exact h2 (hj ▸ hk)
          · rw [hyd] at h1; cases h1
        refine same2 y hy hne ?_
        rcases B.dep y hy x hx hne (rc y.1).d hyd (hj ▸ hk) with h | ⟨h,_⟩
        · exact .inl h
        · exact .inr h
      constructor
      · intro h
        obtain ⟨y,hy,e⟩ := mem j h
        exact (key y hy e).1 h
      · intro h
        obtain ⟨y,hy,e⟩ := memP j h
        exact (key y hy e).2 h
    · intro i hi j hj h1 h2
      simp only [Bool.and_eq_true,Bool.not_eq_true',beq_iff_eq] at h1 h2
      exact inj X mem i hi j hj (h1.2.trans h2.2.symm) (h1.1.trans h2.1.symm)
  have noW : ∀ (Y : List Nat),(∀ j ∈ Y,∃ y ∈ bag,y.1 = j) → ∀ k,(bagDs bag).contains k = false → ∀ j ∈ Y,¬ (rc j).d = k := fun Y hY k hk j hj e => by
    obtain ⟨y,hy,rfl⟩ := hY j hj
    have : k ∈ bagDs bag := by
      rw [bagDs,List.mem_append]
      rcases Rc.d y hy with t | t
      · exact .inl (List.mem_filterMap.2 ⟨y,hy,by rw [t.1,e]⟩)
      · exact .inr (List.mem_filterMap.2 ⟨y,hy,by rw [t.2.1,e]⟩)
    rw [← List.contains_iff_mem,hk] at this
    cases this
  have hmem : ∀ (Y : List Nat),(∀ j ∈ Y,∃ y ∈ bag,y.1 = j) → ∀ k,(bagDs bag).contains k = false → es.contains k = false → cEnv rc st0.env Y k = st0.env k := fun Y hY k hk hke => by
    have h1 : (Y.any fun i => (rc i).E.contains k) = false := by
      rw [List.any_eq_false]
      intro j hj hc
      obtain ⟨y,hy,rfl⟩ := hY j hj
      have := (Rc.E y hy k (by simpa using hc)).2
      rw [← List.contains_iff_mem,hke] at this
      cases this
    have h2 : Y.find? (fun i => !(rc i).s && (rc i).d == k) = none := by
      rw [List.find?_eq_none]
      intro j hj
      simp [noW Y hY k hk j hj]
    simp only [cEnv,h1,h2,Bool.false_eq_true,if_false]
  have hbox : ∀ (Y : List Nat),(∀ j ∈ Y,∃ y ∈ bag,y.1 = j) → ∀ k,(∀ j ∈ Y,¬ (rc j).d = k) → cBox rc st0.boxes Y k = st0.boxes k := fun Y hY k hk => by
    have h1 : Y.find? (fun i => (rc i).s && (rc i).d == k && (rc i).bx.isSome) = none := by
      rw [List.find?_eq_none]
      intro j hj
      simp [hk j hj]
    have h2 : Y.find? (fun i => !(rc i).s && (rc i).d == k && (rc i).bx.isSome) = none := by
      rw [List.find?_eq_none]
      intro j hj
      simp [hk j hj]
    simp only [cBox,h1,h2]
  have hown : cBox rc st0.boxes X (rc x.1).d = cBox rc st0.boxes (p.map (·.1)).reverse (rc x.1).d := by
    have noS : ∀ (Y : List Nat),(∀ j ∈ Y,∃ y ∈ bag,y.1 = j) → x.1 ∉ Y → (∀ j,(j ∈ base ∨ j ∈ Y) → ∀ i ∈ prd ops j,i ∈ base ∨ i ∈ Y) → Y.find? (fun i => (rc i).s && (rc i).d == (rc x.1).d && (rc i).bx.isSome) = none := fun Y hY hxY hYc => by
      rw [List.find?_eq_none]
      intro j hj
      simp only [Bool.and_eq_true,beq_iff_eq]
      rintro ⟨⟨a,b⟩,-⟩
      obtain ⟨y,hy,rfl⟩ := hY j hj
      have hys : y.2.sbx = some (rc y.1).d := by
        rcases Rc.d y hy with t | t
        · rw [t.2] at a; cases a
        · exact t.2.1
      rcases hxd with t | t
      · rcases (B.sdep x hx y hy _ t.1 (by rw [← b]; exact hys)).closed (X := fun j => j ∈ base ∨ j ∈ Y) hYc (hYc y.1 (.inr hj)) with h' | h'
        · exact B.fresh x hx h'
        · exact hxY h'
      · exact hxY (by rw [← B.sinj y hy x hx _ hys (by rw [b]; exact t.2.1)]; exact hj)
    have hprc : ∀ j,(j ∈ base ∨ j ∈ (p.map (·.1)).reverse) → ∀ i ∈ prd ops j,i ∈ base ∨ i ∈ (p.map (·.1)).reverse := fun j hj i hi => by
      rw [List.mem_reverse] at hj ⊢
      exact hpre j hj i hi
    simp only [cBox,noS X mem hxX hcl,noS _ memP hxp' hprc]
    rw [find_iff (X := X) (Y := (p.map (·.1)).reverse)]
    · intro j hj
      simp only [Bool.and_eq_true,Bool.not_eq_true',beq_iff_eq] at hj
      obtain ⟨⟨hjs,hj⟩,-⟩ := hj
      have key : ∀ y ∈ bag,y.1 = j → y.1 ≠ x.1 → (j ∈ X ↔ j ∈ (p.map (·.1)).reverse) := fun y hy hyj hne => by
        subst hyj
        have hyd := dstOf y hy hjs
        rcases hxd with t | t
        · exact absurd (B.inj y hy x hx _ hyd (by rw [hj]; exact t.1)) hne
        · exact same2 y hy hne (.inl (B.sdep y hy x hx _ hyd (by rw [hj]; exact t.2.1)))
      constructor
      · intro h
        obtain ⟨y,hy,e⟩ := mem j h
        exact (key y hy e fun e' => hxX (by rw [← e',e]; exact h)).1 h
      · intro h
        obtain ⟨y,hy,e⟩ := memP j h
        exact (key y hy e fun e' => hxp' (by rw [← e',e]; exact h)).2 h
    · intro i hi j hj h1 h2
      simp only [Bool.and_eq_true,Bool.not_eq_true',beq_iff_eq] at h1 h2
      exact inj X mem i hi j hj (h1.1.2.trans h2.1.2.symm) (h1.1.1.trans h2.1.1.symm)
  have hs : Same x.2.slots (bagDs bag) es (some (rc x.1).d) (canon rc st0 (p.map (·.1)).reverse) (canon rc st0 X) :=
    ⟨hslot,fun k h1 h2 => (hmem X mem k h1 h2).trans (hmem _ memP k h1 h2).symm,fun k h1 => (hbox X mem k (noW X mem k h1)).trans (hbox _ memP k (noW _ memP k h1)).symm,
      fun k h1 => by
        cases h1
        exact hown⟩
  have hh : Cm hu ss (canon rc st0 X) := ⟨fun hu' => canon_hush (h0.1 hu') fun j hj => by
    obtain ⟨y,hy,rfl⟩ := mem j hj
    exact Rc.loose hu' y hy,h0.2.1,canon_calm h0.2.2 fun j hj => by
    obtain ⟨y,hy,rfl⟩ := mem j hj
    exact Rc.still y hy⟩
  rw [Rc.run p x q hb _ hs hh,canon_cons]
  · intro hxs j hj hmem
    have hxd' := dstOf x hx hxs
    rcases List.mem_cons.1 hj with rfl | hj
    · obtain ⟨m1,m2⟩ := Rc.E x hx _ hmem
      exact B.eats (X := X) hcl hx hx hxX (.inl rfl) hxd' m1 m2
    · obtain ⟨y,hy,rfl⟩ := mem j hj
      obtain ⟨m1,m2⟩ := Rc.E y hy _ hmem
      exact B.eats (X := X) hcl hx hy hxX (.inr hj) hxd' m1 m2
  · intro hxs j hj hjs e
    obtain ⟨y,hy,rfl⟩ := mem j hj
    have hxd' := dstOf x hx hxs
    rcases Rc.d y hy with t | t
    · rw [t.2] at hjs; cases hjs
    · rcases (B.sdep x hx y hy _ hxd' (by rw [← e]; exact t.2.1)).closed (X := fun j => j ∈ base ∨ j ∈ X) hcl (hcl y.1 (.inr hj)) with h' | h'
      · exact B.fresh x hx h'
      · exact hxX h'
theorem Recs.all {T : Tab} {n : Nat} {hu : Bool} {ss : List Nat} {st0 st1 : St} {rc : Nat → Rc} (Rc : Recs T n hu ss es bag st0 st1 rc) (B : BagOk P N nt roots pins ops base es bag)
    {X : List Nat} (hX : ∀ j,j ∈ X ↔ j ∈ bag.map (·.1)) : canon rc st0 X = st1 := by
  rw [Rc.st1]
  refine canon_perm (fun i => by rw [hX,List.mem_reverse]) fun i hi j hj h hs => ?_
  rw [hX,List.mem_map] at hi hj
  obtain ⟨y,hy,rfl⟩ := hi
  obtain ⟨z,hz,rfl⟩ := hj
  rcases Rc.d y hy with t | t <;> rcases Rc.d z hz with u | u
  · exact B.inj y hy z hz _ t.1 (by rw [h]; exact u.1)
  · rw [t.2,u.2.2.1] at hs; cases hs
  · rw [t.2.2.1,u.2] at hs; cases hs
  · exact B.sinj y hy z hz _ t.2.1 (by rw [h]; exact u.2.1)
end
end Hm
/- A region whose order is drawn. Conditions: none (plain lemmas). -/
namespace Hm
open Go
section
variable {P : Program} {N : Nm} {F : Fx} {S : Nat → Prop} {s : GS} {st st' : St} {a : Act} {w w' : World} {dst : Option Nat} {o : Oper} {tv : TV} {ops : Array Oper} {base : List Nat}
theorem sim_runOp_pure {T : Tab} {n : Nat} {ao : AO} (R : Rel N F S s st a w) (hok : okAO P N F.nt F.roots F.pins ops ao o = true) (hp : ao.op.pure = true) (h : runOp T n ao st = some st') :
    ∃ v S' s',Yields P ops o v a ∧ Up F.pins S a S' (a.put o.dst v) ∧ Rel N F S' s' st' (a.put o.dst v) w := by
  simp only [okAO,Bool.and_eq_true,beq_iff_eq] at hok
  obtain ⟨⟨⟨hdst,hg⟩,hd⟩,hop⟩ := hok
  cases n with
  | zero => simp [runOp] at h
  | succ n =>
    rw [runOp] at h
    split at h
    · cases h
    · rename_i hw
      have hw' := wanted_ok R hg hw
      refine ⟨undef,S,?_⟩
      rw [← hdst]
      cases hd' : ao.dst with
      | none =>
        simp only [hd',Option.some.injEq] at h
        subst h
        exact ⟨s,.inr ⟨hw',rfl⟩,.refl,R⟩
      | some d =>
        simp only [hd',Option.some.injEq] at h
        subst h
        simp only [okDst,hd',Bool.and_eq_true,decide_eq_true_eq,Bool.or_eq_true,Bool.not_eq_true'] at hd
        obtain ⟨⟨hlt,hpin⟩,hr⟩ := hd
        have hroot : d ∉ F.roots := by
          rcases hr with hr | ⟨_,hr⟩
          · simpa using hr
          · cases hgd : ao.guard with
            | none => rw [hgd] at hw; simp [wanted] at hw
            | some x => rw [hgd] at hr; simp at hr
        refine ⟨s.put d .skp,.inr ⟨hw',rfl⟩,.put (fun _ h => h) hpin _,R.put hlt (g := .skp) ⟨rfl,rfl,trivial,by simp [GT.blocks]; exact Free.nil,by simp [GT.place?],?_⟩⟩
        exact R.unrooted (dst := some d) (fun d' e => by cases e; exact hroot) (by simp [GT.place?])
    · rename_i hw
      have hw' := wanted_ok R hg hw
      split at h
      · rename_i v st1 hst
        cases n with
        | zero => simp [stepC] at hst
        | succ n =>
          have hst' : stepOp ao.dst ao.op st = some (v,st1) := by
            cases hop' : ao.op with
            | call s f xs => rw [hop'] at hp; simp [AOp.pure] at hp
            | callM s f xs => rw [hop'] at hp; simp [AOp.pure] at hp
            | _ => rw [hop'] at hst; simpa only [stepC] using hst
          obtain ⟨cv,S',s',g,h1,h2,h3,h4⟩ := sim_pure R (fun hasgo d e => by
            simp only [okDst,e,hasgo,Bool.false_and,Bool.or_false,Bool.and_eq_true,Bool.not_eq_true'] at hd
            simpa using hd.2) hp hop hst'
          refine ⟨cv,S',?_⟩
          rw [← hdst]
          cases hd' : ao.dst with
          | none =>
            rw [hd'] at h
            simp only [Option.some.injEq] at h
            subst h
            exact ⟨s',.inl ⟨hw',h1⟩,⟨h2,fun _ _ => rfl⟩,h3⟩
          | some d =>
            rw [hd'] at h h4
            simp only [Option.some.injEq] at h
            subst h
            simp only [okDst,hd',Bool.and_eq_true,decide_eq_true_eq,Bool.not_eq_true'] at hd
            exact ⟨_,.inl ⟨hw',h1⟩,.put h2 hd.1.2 _,h3.put hd.1.1 h4⟩
      · cases h
theorem setRow_comm (w : World) {b c : Nat} (h : b ≠ c) (r q : Array Value) : (w.setRow b r).setRow c q = (w.setRow c q).setRow b r := by
  simp only [World.setRow]
  congr 1
  apply Array.ext_getElem?
  intro k
  simp only [Array.getElem?_modify]
  by_cases h1 : b = k
  · subst h1
    rw [if_neg (Ne.symm h),if_pos rfl,if_pos rfl,if_neg (Ne.symm h)]
  · by_cases h2 : c = k
    · subst h2
      rw [if_pos rfl,if_neg h1,if_neg h1,if_pos rfl]
    · rw [if_neg h2,if_neg h1,if_neg h1,if_neg h2]
theorem store_any {n : Nat} {x y : Opd} (R : Rel N F S s st a w) (hok : okOp P N F.roots (.store n x y) o = true) (h : stepOp none (.store n x y) st = some (tv,st')) {p : Place} (hp : st.opd x = .plc p) :
    ∃ b row s' y',b ∈ s.fp p.root ∧ ((∃ t z,o.op = .store t y' z) ∧ okO N x y' = true) ∧ (∃ k,a.eval y' = .pointer (some ⟨b,k,none⟩)) ∧ Rel N F S s' st' a (w.setRow b row) ∧
      ∀ w2 : World,w2.heap[b]? = w.heap[b]? → (execOp a.eval o).run P w2 = .ok .skip (w2.setRow b row) := by
  simp only [okOp] at hok
  split at hok
  · rename_i t y' z ho
    simp only [Bool.and_eq_true,beq_iff_eq] at hok
    obtain ⟨⟨ht,hx⟩,hz⟩ := hok
    obtain ⟨_,b0,base0,r0,_,_,q2,_,q4⟩ := R.opd_plc hx hp
    have hb0 := (R.inv.loc_mem q2).2.2
    simp only [stepOp,hp] at h
    split at h
    · rename_i cs g hg
      split at h
      · rename_i hl
        split at h
        · rename_i st1 hw
          simp only [Option.some.injEq,Prod.mk.injEq] at h
          obtain ⟨rfl,rfl⟩ := h
          obtain ⟨s1,new,d1,rfl,d3,d4,d5,d6,d7⟩ := R.give hz hg
          rw [cellRow_length] at hl
          subst hl
          have hp1 := eat_plc (x := y) hp
          obtain ⟨m,b,base,r,rfl,e1,e2,e3,e4⟩ := d1.opd_plc hx hp1
          have hbb : b0 = b := by rw [q4] at e4; simp at e4; exact e4.1
          subst hbb
          obtain ⟨k1,⟨cur,e,k2,k3,k4⟩,k5⟩ := d1.inv.loc_mem e2
          have hfit : p.off + new.length ≤ r.length := by
            obtain ⟨_,h',r',f1,f2⟩ := d1.er.write hw
            rw [e2] at f1
            simp only [Option.some.injEq,Prod.mk.injEq] at f1
            rw [f1.2]; exact f2
          have h1 : ∀ u ∈ new.map GC.val,u.oneCell' = true := fun u hu => by
            simp only [List.mem_map] at hu
            obtain ⟨c,hc,rfl⟩ := hu
            exact (d3 c hc).one
          have hcsz : (a.eval z).cells.size = new.length := by rw [← Array.length_toList,d7,List.length_map]
          have key : ∀ w2 : World,w2.heap[b0]? = w.heap[b0]? → (Instr.storeAt t (a.eval y') (a.eval z)).run P w2 = .ok () (w2.setRow b0 (cur.toList.take (base + p.off) ++ new.map GC.val ++ cur.toList.drop (base + p.off + new.length)).toArray) := fun w2 hw2 => by
            have hst := run_storeCells_at P b0 (base + p.off) e (new.map GC.val) 0 cur w2 (by rw [hw2]; exact k2) (by simp; omega) h1
            simp only [Nat.add_zero,List.length_map] at hst
            have hsz := run_sizeOf (P := P) ht w2
            simp only [Instr.storeAt,e4,Instr.sureAddr,Sem.run_bind,Sem.run_pure,Result.andThen_ok,storeVar,hsz,hcsz,d7]
            simp [hst]
          obtain ⟨w',f1,f2⟩ := store_place d1 ht hx hp1 d7 d3 d6 hw
          rw [key w rfl] at f1
          simp only [Result.ok.injEq,true_and] at f1
          subst f1
          refine ⟨b0,_,s1.write p new,y',hb0,⟨⟨t,z,ho⟩,hx⟩,⟨_,e4⟩,f2,fun w2 hw2 => ?_⟩
          simp only [execOp,ho]
          rw [Sem.run_bind,key w2 hw2]; rfl
        · cases h
      · cases h
    · cases h
  · cases hok
theorem storeR_any {n m : Nat} {x : Opd} (R : Rel N F S s st a w) (hok : okOp P N F.roots (.storeR n x m) o = true) (h : stepOp none (.storeR n x m) st = some (tv,st')) {p : Place} (hp : st.opd x = .plc p) :
    ∃ b row s' y',b ∈ s.fp p.root ∧ ((∃ t z,o.op = .store t y' z) ∧ okO N x y' = true) ∧ (∃ k,a.eval y' = .pointer (some ⟨b,k,none⟩)) ∧ Rel N F S s' st' a (w.setRow b row) ∧
      ∀ w2 : World,w2.heap[b]? = w.heap[b]? → (execOp a.eval o).run P w2 = .ok .skip (w2.setRow b row) := by
  simp only [okOp] at hok
  split at hok
  · rename_i t y' j ho
    simp only [Bool.and_eq_true,beq_iff_eq] at hok
    obtain ⟨⟨⟨ht,hx⟩,rfl⟩,_⟩ := hok
    obtain ⟨_,b0,base0,r0,_,_,q2,_,q4⟩ := R.opd_plc hx hp
    have hb0 := (R.inv.loc_mem q2).2.2
    simp only [stepOp,hp] at h
    split at h
    · rename_i cs g hg
      split at h
      · rename_i hl
        split at h
        · rename_i st1 hw
          simp only [Option.some.injEq,Prod.mk.injEq] at h
          obtain ⟨rfl,rfl⟩ := h
          obtain ⟨s1,new,d1,rfl,d3,d4,d5,d6⟩ := R.ownR hg
          rw [cellRow_length] at hl
          subst hl
          have d7 : (a.eval (.tmp m)).cells.toList = new.map GC.val := by rw [d5]; exact cval_cells d3 d6
          have hp1 := opd_unR hp hg (write_unR hw)
          obtain ⟨m',b,base,r,rfl,e1,e2,e3,e4⟩ := d1.opd_plc hx hp1
          have hbb : b0 = b := by rw [q4] at e4; simp at e4; exact e4.1
          subst hbb
          obtain ⟨k1,⟨cur,e,k2,k3,k4⟩,k5⟩ := d1.inv.loc_mem e2
          have hfit : p.off + new.length ≤ r.length := by
            obtain ⟨_,h',r',f1,f2⟩ := d1.er.write hw
            rw [e2] at f1
            simp only [Option.some.injEq,Prod.mk.injEq] at f1
            rw [f1.2]; exact f2
          have h1 : ∀ u ∈ new.map GC.val,u.oneCell' = true := fun u hu => by
            simp only [List.mem_map] at hu
            obtain ⟨c,hc,rfl⟩ := hu
            exact (d3 c hc).one
          have hcsz : (a.eval (.tmp m)).cells.size = new.length := by rw [← Array.length_toList,d7,List.length_map]
          have key : ∀ w2 : World,w2.heap[b0]? = w.heap[b0]? → (Instr.storeAt t (a.eval y') (a.eval (.tmp m))).run P w2 = .ok () (w2.setRow b0 (cur.toList.take (base + p.off) ++ new.map GC.val ++ cur.toList.drop (base + p.off + new.length)).toArray) := fun w2 hw2 => by
            have hst := run_storeCells_at P b0 (base + p.off) e (new.map GC.val) 0 cur w2 (by rw [hw2]; exact k2) (by simp; omega) h1
            simp only [Nat.add_zero,List.length_map] at hst
            have hsz := run_sizeOf (P := P) ht w2
            simp only [Instr.storeAt,e4,Instr.sureAddr,Sem.run_bind,Sem.run_pure,Result.andThen_ok,storeVar,hsz,hcsz,d7]
            simp [hst]
          obtain ⟨w',f1,f2⟩ := store_place d1 ht hx hp1 d7 d3 d4 hw
          rw [key w rfl] at f1
          simp only [Result.ok.injEq,true_and] at f1
          subst f1
          refine ⟨b0,_,s1.write p new,y',hb0,⟨⟨t,_,ho⟩,hx⟩,⟨_,e4⟩,f2,fun w2 hw2 => ?_⟩
          simp only [execOp,ho]
          rw [Sem.run_bind,key w2 hw2]; rfl
        · cases h
      · cases h
    · cases h
  · cases hok
theorem stA_any {op : AOp} {x : Opd} (hx : op.stA = some x) (R : Rel N F S s st a w) (hok : okOp P N F.roots op o = true) (h : stepOp none op st = some (tv,st')) {p : Place} (hp : st.opd x = .plc p) :
    ∃ b row s' y',b ∈ s.fp p.root ∧ ((∃ t z,o.op = .store t y' z) ∧ okO N x y' = true) ∧ (∃ k,a.eval y' = .pointer (some ⟨b,k,none⟩)) ∧ Rel N F S s' st' a (w.setRow b row) ∧
      ∀ w2 : World,w2.heap[b]? = w.heap[b]? → (execOp a.eval o).run P w2 = .ok .skip (w2.setRow b row) := by
  cases op <;> simp only [AOp.stA,Option.some.injEq,reduceCtorEq] at hx
  · subst hx; exact store_any R hok h hp
  · subst hx; exact storeR_any R hok h hp
structure Lst (ops : Array Oper) (listed : Array Bool) (X : List Nat) : Prop where
  size : listed.size = ops.size
  mem : ∀ j : Nat,listed.getD j false = true ↔ j ∈ X
  lt : ∀ j ∈ X,j < ops.size
theorem Lst.ready {listed : Array Bool} {X : List Nat} (L : Lst ops listed X) {i : Nat} : i ∈ Region.ready .any ops listed ↔ i < ops.size ∧ i ∉ X ∧ ∀ j ∈ prd ops i,j ∈ X := by
  rw [mem_ready]
  constructor
  · rintro ⟨h0,o,ho,h⟩
    have hlt : i < ops.size := (Array.getElem?_eq_some_iff.1 ho).1
    refine ⟨hlt,fun hi => ?_,fun j hj => ?_⟩
    · have := (L.mem i).2 hi
      have hl : i < listed.size := by rw [L.size]; exact hlt
      simp only [Array.getD,hl,dif_pos] at h0 this
      rw [h0] at this; cases this
    · simp only [prd,ho,List.mem_map,List.mem_filter] at hj
      obtain ⟨e,⟨he,hb⟩,rfl⟩ := hj
      exact (L.mem _).1 (h e (by simpa using he) hb)
  · rintro ⟨hlt,hi,h⟩
    have hl : i < listed.size := by rw [L.size]; exact hlt
    refine ⟨?_,ops[i],Array.getElem?_eq_getElem hlt,fun e he hb => ?_⟩
    · have : ¬ listed.getD i false = true := fun h => hi ((L.mem i).1 h)
      simp only [Array.getD,hl,dif_pos] at this ⊢
      simpa using this
    · refine (L.mem _).2 (h e.on ?_)
      simp only [prd,Array.getElem?_eq_getElem hlt,List.mem_map,List.mem_filter]
      exact ⟨e,⟨by simpa using he,hb⟩,rfl⟩
theorem Lst.cons {listed : Array Bool} {X : List Nat} (L : Lst ops listed X) {i : Nat} (hi : i < ops.size) : Lst ops (listed.setIfInBounds i true) (i :: X) := by
  refine ⟨by simp [L.size],fun j => ?_,fun j hj => ?_⟩
  · by_cases h : i = j
    · subst h
      have hl : i < listed.size := by rw [L.size]; exact hi
      simp [hl]
    · rw [getD_set_ne false h,L.mem,List.mem_cons]
      exact ⟨.inr,fun h' => h'.resolve_left fun e => h e.symm⟩
  · rcases List.mem_cons.1 hj with rfl | hj
    · exact hi
    · exact L.lt j hj
theorem Lst.perm {listed : Array Bool} {X Y : List Nat} (L : Lst ops listed X) (h : ∀ j,j ∈ X ↔ j ∈ Y) : Lst ops listed Y :=
  ⟨L.size,fun j => by rw [L.mem,h],fun j hj => L.lt j ((h j).2 hj)⟩
def cnt (ops : Array Oper) (X : List Nat) : Nat := ((List.range ops.size).filter fun j => !X.contains j).length
theorem cnt_cons {X : List Nat} {i : Nat} (hi : i < ops.size) (hX : i ∉ X) : cnt ops (i :: X) < cnt ops X := by
  have h1 : ((List.range ops.size).filter fun j => !(i :: X).contains j) = ((List.range ops.size).filter fun j => !X.contains j).filter fun j => !(j == i) := by
    rw [List.filter_filter]
    congr 1
    funext j
    simp only [List.contains_cons,Bool.not_or]
  unfold cnt
  rw [h1,List.length_filter_lt_length_iff_exists]
  refine ⟨i,?_,by simp⟩
  rw [List.mem_filter]
  exact ⟨List.mem_range.2 hi,by simpa using hX⟩
theorem cnt_perm {X Y : List Nat} (h : ∀ j,j ∈ X ↔ j ∈ Y) : cnt ops X = cnt ops Y := by
  unfold cnt
  congr 2
  funext j
  have : X.contains j = Y.contains j := by rw [Bool.eq_iff_iff,List.contains_iff_mem,List.contains_iff_mem,h]
  rw [this]
structure HoistOk (ops : Array Oper) (base hs : List Nat) (bag : List (Nat × AO)) : Prop where
  pure : ∀ x ∈ bag,x.1 ∈ hs → x.2.op.pure = true
  apart : ∀ i ∈ hs,∀ oi,ops[i]? = some oi → ∀ j oj,ops[j]? = some oj → j ≠ i → j ∉ base → ¬ Anc ops j i → i ∉ prd ops j → oi.apart ops oj = true
  all : ∀ X : List Nat,(∀ j ∈ X,j ∈ bag.map (·.1)) → (∀ j,(j ∈ base ∨ j ∈ X) → ∀ i ∈ prd ops j,i ∈ base ∨ i ∈ X) → (∀ x ∈ bag,x.1 ∈ hs → x.1 ∉ X → ¬ ∀ i ∈ prd ops x.1,i ∈ base ∨ i ∈ X) →
    ∀ k,k < ops.size → k ∉ base → k ∉ bag.map (·.1) → (∀ i ∈ prd ops k,i ∈ base ∨ i ∈ X) → ∀ x ∈ bag,x.1 ∈ X
inductive PhsOk (P : Program) (N : Nm) (nt : Nat) (roots pins : List Nat) (ops : Array Oper) : List Nat → List Ph → Prop
  | nil {base : List Nat} (h : ∀ j,j < ops.size → j ∈ base) : PhsOk P N nt roots pins ops base []
  | one {base : List Nat} {i : Nat} {ao : AO} {r : List Ph} {o : Oper} (ho : ops[i]? = some o) (hok : okAO P N nt roots pins ops ao o = true) (hi : i ∉ base) (hp : ∀ j ∈ prd ops i,j ∈ base)
      (h1 : ∀ k,k < ops.size → k ∉ base → (∀ j ∈ prd ops k,j ∈ base) → k = i) (h : PhsOk P N nt roots pins ops (i :: base) r) : PhsOk P N nt roots pins ops base (.one i ao :: r)
  | pair {base : List Nat} {i j : Nat} {ao ao' : AO} {r : List Ph} {o o' : Oper} (ho : ops[i]? = some o) (ho' : ops[j]? = some o') (hok : okAO P N nt roots pins ops ao o = true) (hok' : okAO P N nt roots pins ops ao' o' = true) (hi : i ∉ base) (hj : j ∉ i :: base)
      (hp : ∀ k ∈ prd ops i,k ∈ base) (hp' : ∀ k ∈ prd ops j,k ∈ base) (h1 : ∀ k,k < ops.size → k ∉ base → (∀ x ∈ prd ops k,x ∈ base) → k = i ∨ k = j) (h2 : ∀ k,k < ops.size → k ∉ i :: base → (∀ x ∈ prd ops k,x ∈ i :: base) → k = j)
      (h3 : ∀ k,k < ops.size → k ∉ j :: base → (∀ x ∈ prd ops k,x ∈ j :: base) → k = i) (h : PhsOk P N nt roots pins ops (j :: i :: base) r) : PhsOk P N nt roots pins ops base (.pair i ao j ao' :: r)
  | bag {base : List Nat} {hu : Bool} {hs es : List Nat} {bag : List (Nat × AO)} {r : List Ph} (B : BagOk P N nt roots pins ops base es bag) (H : HoistOk ops base hs bag)
      (h : PhsOk P N nt roots pins ops (bag.map (·.1) ++ base) r) : PhsOk P N nt roots pins ops base (.bag hu hs es bag :: r)
  | bagS {base : List Nat} {ss hs es : List Nat} {bag : List (Nat × AO)} {r : List Ph} (B : BagOk P N nt roots pins ops base es bag) (H : HoistOk ops base hs bag)
      (h : PhsOk P N nt roots pins ops (bag.map (·.1) ++ base) r) : PhsOk P N nt roots pins ops base (.bagS ss hs es bag :: r)
theorem anc_listed {X : List Nat} (hcl : ∀ j ∈ X,∀ i ∈ prd ops j,i ∈ X) {i j : Nat} (h : Anc ops i j) (hj : ∀ k ∈ prd ops j,k ∈ X) : i ∈ X := h.closed (X := (· ∈ X)) hcl hj
theorem sim_bag {T : Tab} {n : Nat} {hu : Bool} {ss hs es : List Nat} {bag : List (Nat × AO)} {st0 st1 : St} {rc : Nat → Rc} {Q : Exit → Act → World → Prop} (hsel : Region.noSelect ops = true) (hQp : ∀ c a w,¬ Q (.panic c) a w)
    (Rc : Recs T n hu ss es bag st0 st1 rc) (B : BagOk P N F.nt F.roots F.pins ops base es bag) (H : HoistOk ops base hs bag) (h0 : Cm hu ss st0) (IH : Called P N T n) (S0 : Nat → Prop) (a0 : Act)
    (fin : ∀ fuel listed a w S s,Up F.pins S0 a0 S a → Lst ops listed (bag.map (·.1) ++ base) → cnt ops (bag.map (·.1) ++ base) ≤ fuel → Rel N F S s st1 a w → wpAny P .any ops Q fuel listed a w) :
    ∀ (fuel : Nat) (X : List Nat) (listed : Array Bool) (S : Nat → Prop) (s : GS) (a : Act) (w : World),Up F.pins S0 a0 S a → (∀ j ∈ X,j ∈ bag.map (·.1)) → (∀ j,(j ∈ base ∨ j ∈ X) → ∀ i ∈ prd ops j,i ∈ base ∨ i ∈ X) →
      Lst ops listed (X ++ base) → cnt ops (X ++ base) ≤ fuel → Rel N F S s (canon rc st0 X) a w → wpAny P .any ops Q fuel listed a w := by
  intro fuel
  induction fuel with
  | zero =>
    intro X listed S s a w hS0 hX hcl L hc R
    have hall : ∀ x ∈ bag,x.1 ∈ X := fun x hx => by
      apply Classical.byContradiction
      intro hn
      obtain ⟨o,ho,_⟩ := B.ok x hx
      have := cnt_cons (ops := ops) (X := X ++ base) (i := x.1) (Array.getElem?_eq_some_iff.1 ho).1 (by
        rw [List.mem_append]; rintro (h | h)
        · exact hn h
        · exact B.fresh x hx h)
      omega
    have hperm : ∀ j,j ∈ X ↔ j ∈ bag.map (·.1) := fun j => ⟨hX j,fun h => by obtain ⟨x,hx,rfl⟩ := List.mem_map.1 h; exact hall x hx⟩
    have hperm' : ∀ j,j ∈ X ++ base ↔ j ∈ bag.map (·.1) ++ base := fun j => by rw [List.mem_append,List.mem_append,hperm]
    rw [Rc.all B hperm] at R
    exact fin 0 listed a w S s hS0 (L.perm hperm') (by rw [← cnt_perm hperm']; exact hc) R
  | succ fuel ih =>
    intro X listed S s a w hS0 hX hcl L hc R
    by_cases hall : ∀ x ∈ bag,x.1 ∈ X
    · have hperm : ∀ j,j ∈ X ↔ j ∈ bag.map (·.1) := fun j => ⟨hX j,fun h => by obtain ⟨x,hx,rfl⟩ := List.mem_map.1 h; exact hall x hx⟩
      have hperm' : ∀ j,j ∈ X ++ base ↔ j ∈ bag.map (·.1) ++ base := fun j => by rw [List.mem_append,List.mem_append,hperm]
      rw [Rc.all B hperm] at R
      exact fin _ listed a w S s hS0 (L.perm hperm') (by rw [← cnt_perm hperm']; exact hc) R
    have hcl' : ∀ j ∈ X ++ base,∀ i ∈ prd ops j,i ∈ X ++ base := fun j hj i hi => by
      rw [List.mem_append] at hj ⊢
      exact (hcl j hj.symm i hi).symm
    -- one of the bag is listed
    have step : ∀ x ∈ bag,x.1 ∉ X → (∀ i ∈ prd ops x.1,i ∈ base ∨ i ∈ X) → (∀ j ∈ x.1 :: X,j ∈ bag.map (·.1)) ∧ (∀ j,(j ∈ base ∨ j ∈ x.1 :: X) → ∀ i ∈ prd ops j,i ∈ base ∨ i ∈ x.1 :: X) ∧
        Lst ops (listed.setIfInBounds x.1 true) ((x.1 :: X) ++ base) ∧ cnt ops ((x.1 :: X) ++ base) ≤ fuel ∧ runOp T n x.2 (canon rc st0 X) = some (canon rc st0 (x.1 :: X)) := fun x hx hxX hp => by
      obtain ⟨o,ho,_⟩ := B.ok x hx
      have hlt := (Array.getElem?_eq_some_iff.1 ho).1
      refine ⟨fun j hj => ?_,fun j hj i hi => ?_,L.cons hlt,?_,Rc.next B h0 hX hcl hx hxX hp⟩
      · rcases List.mem_cons.1 hj with rfl | hj
        · exact List.mem_map_of_mem (f := (·.1)) hx
        · exact hX j hj
      · have : i ∈ base ∨ i ∈ X := by
          rcases hj with hj | hj
          · exact hcl j (.inl hj) i hi
          · rcases List.mem_cons.1 hj with rfl | hj
            · exact hp i hi
            · exact hcl j (.inr hj) i hi
        exact this.imp id (List.mem_cons_of_mem _)
      · have := cnt_cons (ops := ops) (X := X ++ base) (i := x.1) hlt (by
          rw [List.mem_append]; rintro (h | h)
          · exact hxX h
          · exact B.fresh x hx h)
        show cnt ops (x.1 :: (X ++ base)) ≤ fuel
        omega
    by_cases hsat : ∀ x ∈ bag,x.1 ∈ hs → x.1 ∉ X → ¬ ∀ i ∈ prd ops x.1,i ∈ base ∨ i ∈ X
    · -- whichever comes
      refine ⟨fun hr => ?_,fun i hi => ?_⟩
      · -- none may come: not so,the first of the bag that is missing may
        exfalso
        have first : ∀ (q p : List (Nat × AO)),bag = p ++ q → (∀ y ∈ p,y.1 ∈ X) → ∀ y ∈ q,y.1 ∈ X := by
          intro q
          induction q with
          | nil => intro p _ _ y hy; cases hy
          | cons z q ihq =>
            intro p hb hp
            have hz : z.1 ∈ X := by
              apply Classical.byContradiction
              intro hzX
              obtain ⟨o,ho,_⟩ := B.ok z (by rw [hb]; simp)
              have hrd : z.1 ∈ Region.ready .any ops listed := L.ready.2 ⟨(Array.getElem?_eq_some_iff.1 ho).1,by
                rw [List.mem_append]; rintro (h | h)
                · exact hzX h
                · exact B.fresh z (by rw [hb]; simp) h,fun j hj => by
                rw [List.mem_append]
                rcases B.ord p z q hb j hj with h | h
                · exact .inr h
                · obtain ⟨y,hy,rfl⟩ := List.mem_map.1 h
                  exact .inl (hp y hy)⟩
              rw [hr] at hrd
              cases hrd
            intro y hy
            rcases List.mem_cons.1 hy with rfl | hy
            · exact hz
            · refine ihq (p ++ [z]) (by rw [hb]; simp) (fun y hy => ?_) y hy
              rcases List.mem_append.1 hy with hy | hy
              · exact hp y hy
              · rw [List.mem_singleton.1 hy]; exact hz
        exact hall fun x hx => first bag [] rfl (by simp) x hx
      · obtain ⟨hlt,hiX,hp⟩ := L.ready.1 hi
        rw [List.mem_append,not_or] at hiX
        have hp' : ∀ j ∈ prd ops i,j ∈ base ∨ j ∈ X := fun j hj => by have := hp j hj; rw [List.mem_append] at this; exact this.symm
        have hib : i ∈ bag.map (·.1) := by
          apply Classical.byContradiction
          intro hib
          exact hall (H.all X hX hcl hsat i hlt hiX.2 hib hp')
        obtain ⟨x,hx,rfl⟩ := List.mem_map.1 hib
        obtain ⟨o,ho,hok⟩ := B.ok x hx
        obtain ⟨k1,k2,k3,k4,k5⟩ := step x hx hiX.1 hp'
        exact sim_runOp R ho hok IH k5 fun a' w' S' s' hS R' => ih (x.1 :: X) _ S' s' a' w' (hS0.trans hS) k1 k2 k3 k4 R'
    · -- one that is taken now
      obtain ⟨x,hx,hxs,hxX,hp⟩ : ∃ x ∈ bag,x.1 ∈ hs ∧ x.1 ∉ X ∧ ∀ i ∈ prd ops x.1,i ∈ base ∨ i ∈ X := by
        apply Classical.byContradiction
        intro hn
        exact hsat fun x hx h1 h2 h3 => hn ⟨x,hx,h1,h2,h3⟩
      obtain ⟨o,ho,hok⟩ := B.ok x hx
      obtain ⟨k1,k2,k3,k4,k5⟩ := step x hx hxX (fun i hi => hp i hi)
      obtain ⟨v,S',s',y1,y2,y3⟩ := sim_runOp_pure R hok (H.pure x hx hxs) k5
      have hrd : x.1 ∈ Region.ready .any ops listed := L.ready.2 ⟨(Array.getElem?_eq_some_iff.1 ho).1,by
        rw [List.mem_append]; rintro (h | h)
        · exact hxX h
        · exact B.fresh x hx h,fun j hj => by rw [List.mem_append]; exact (hp j hj).symm⟩
      refine wpAny_first ho (Region.noSelect_spec hsel) (fun c a w h => absurd h (hQp c _ w)) fuel listed a w (fun j oj hoj hne hun hno => ?_) hrd y1 (ih (x.1 :: X) _ S' s' _ w (hS0.trans y2) k1 k2 k3 k4 y3)
      have hjX : j ∉ X ++ base := fun h => by
        have := (L.mem j).2 h
        have hl : j < listed.size := by rw [L.size]; exact (Array.getElem?_eq_some_iff.1 hoj).1
        simp only [Array.getD,hl,dif_pos] at this hun
        rw [hun] at this; cases this
      refine H.apart x.1 hxs o ho j oj hoj hne (fun h => hjX (List.mem_append_right _ h)) (fun hA => hjX (anc_listed hcl' hA fun k hk => by rw [List.mem_append]; exact (hp k hk).symm)) fun hm => ?_
      simp only [prd,hoj,List.mem_map,List.mem_filter] at hm
      obtain ⟨e,⟨he,hb⟩,heq⟩ := hm
      exact hno e (by simpa using he) hb heq
theorem wpOp_skip {Q : Exit → Act → World → Prop} {i : Nat} {K : Act → World → Prop} (ho : ops[i]? = some o) (hw : Region.wanted o (yielded ops a.tmps) = true) (hd : o.dst = none) (hr : (execOp a.eval o).run P w = .ok .skip w') (hK : K a w') : wpOp P ops Q i K a w := by
  unfold wpOp
  simp only [ho,hw,if_true]
  refine .inl ?_
  unfold Oper.wp
  rw [hr]
  simp only [Oper.upon,hd]
  exact hK
theorem pairOk_inv {ao ao' : AO} (h : pairOk st ao ao' = true) : ao.dst = none ∧ ao'.dst = none ∧ ao.guard = none ∧ ao'.guard = none ∧ ∃ x x' p q,ao.op.stA = some x ∧ ao'.op.stA = some x' ∧ st.opd x = .plc p ∧ st.opd x' = .plc q ∧ p.root ≠ q.root := by
  simp only [pairOk,Bool.and_eq_true,Option.isNone_iff_eq_none] at h
  obtain ⟨⟨⟨⟨h1,h2⟩,h3⟩,h4⟩,h5⟩ := h
  refine ⟨h1,h2,h3,h4,?_⟩
  split at h5
  · rename_i x x' e1 e2
    split at h5
    · rename_i p q e3 e4
      exact ⟨x,x',p,q,e1,e2,e3,e4,by simpa using h5⟩
    · cases h5
  · cases h5
theorem runOp_store {T : Tab} {n : Nat} {ao : AO} (h1 : ao.dst = none) (h2 : ao.guard = none) {x : Opd} (h3 : ao.op.stA = some x) (h : runOp T n ao st = some st') : ∃ v,stepOp none ao.op st = some (v,st') := by
  cases n with
  | zero => simp [runOp] at h
  | succ n =>
    rw [runOp] at h
    simp only [h1,h2,wanted] at h
    cases n with
    | zero => simp [stepC] at h
    | succ n =>
      revert h h3
      cases ao.op <;> intro h3 h <;> simp only [AOp.stA,reduceCtorEq] at h3
      all_goals
        simp only [stepC] at h
        split at h
        · rename_i v st1 e
          simp only [Option.some.injEq] at h
          subst h
          exact ⟨v,e⟩
        · cases h
theorem stepOp_store_plc {op : AOp} {x : Opd} (hx : op.stA = some x) (h : stepOp none op st = some (tv,st')) : ∃ p,st.opd x = .plc p := by
  cases op <;> simp only [AOp.stA,Option.some.injEq,reduceCtorEq] at hx
  all_goals
    subst hx
    simp only [stepOp] at h
    split at h
    · rename_i p hp; exact ⟨p,hp⟩
    · cases h
def calmG (ss : List Nat) : GT → GT
  | .ali v q cv => if ss.all (fun n => (TV.ali v q).still n) then .ali v q cv else .und cv
  | .plc p ad => if ss.all (fun n => (TV.plc p).still n) then .plc p ad else .und (.pointer (some ad))
  | .hd p l cv => if ss.all (fun n => (TV.hd p l).still n) then .hd p l cv else .und cv
  | t => t
def GS.calm (ss : List Nat) (s : GS) : GS := ⟨fun k => calmG ss (s.γ k),s.β⟩
theorem all_still {ss : List Nat} {t : TV} (h : ∀ n,t.still n = true) : (ss.all fun n => t.still n) = true := List.all_eq_true.2 fun n _ => h n
theorem calmG_tv (ss : List Nat) (t : GT) : (calmG ss t).tv = if ss.all (fun n => t.tv.still n) then t.tv else .und := by
  cases t with
  | ali v q cv => by_cases hb : (ss.all fun n => (TV.ali v q).still n) = true <;> simp only [calmG,GT.tv,hb,if_true,if_false,Bool.false_eq_true]
  | plc p ad => by_cases hb : (ss.all fun n => (TV.plc p).still n) = true <;> simp only [calmG,GT.tv,hb,if_true,if_false,Bool.false_eq_true]
  | hd p l cv => by_cases hb : (ss.all fun n => (TV.hd p l).still n) = true <;> simp only [calmG,GT.tv,hb,if_true,if_false,Bool.false_eq_true]
  | _ => rw [if_pos (all_still fun n => rfl)]; rfl
theorem calmG_val (ss : List Nat) (t : GT) : (calmG ss t).val = t.val := by
  cases t with
  | ali v q cv => by_cases hb : (ss.all fun n => (TV.ali v q).still n) = true <;> simp only [calmG,hb,if_true,if_false,Bool.false_eq_true] <;> rfl
  | plc p ad => by_cases hb : (ss.all fun n => (TV.plc p).still n) = true <;> simp only [calmG,hb,if_true,if_false,Bool.false_eq_true] <;> rfl
  | hd p l cv => by_cases hb : (ss.all fun n => (TV.hd p l).still n) = true <;> simp only [calmG,hb,if_true,if_false,Bool.false_eq_true] <;> rfl
  | _ => rfl
theorem calmG_blocks (ss : List Nat) (t : GT) : (calmG ss t).blocks = t.blocks := by
  cases t with
  | ali v q cv => by_cases hb : (ss.all fun n => (TV.ali v q).still n) = true <;> simp only [calmG,hb,if_true,if_false,Bool.false_eq_true] <;> rfl
  | plc p ad => by_cases hb : (ss.all fun n => (TV.plc p).still n) = true <;> simp only [calmG,hb,if_true,if_false,Bool.false_eq_true] <;> rfl
  | hd p l cv => by_cases hb : (ss.all fun n => (TV.hd p l).still n) = true <;> simp only [calmG,hb,if_true,if_false,Bool.false_eq_true] <;> rfl
  | _ => rfl
theorem calmG_place (ss : List Nat) (t : GT) (p : Place) (h : (calmG ss t).place? = some p) : t.place? = some p := by
  cases t with
  | ali v q cv => by_cases hb : (ss.all fun n => (TV.ali v q).still n) = true <;> simp only [calmG,hb,if_true,if_false,Bool.false_eq_true] at h <;> first | exact h | cases h
  | plc p ad => by_cases hb : (ss.all fun n => (TV.plc p).still n) = true <;> simp only [calmG,hb,if_true,if_false,Bool.false_eq_true] at h <;> first | exact h | cases h
  | hd p l cv => by_cases hb : (ss.all fun n => (TV.hd p l).still n) = true <;> simp only [calmG,hb,if_true,if_false,Bool.false_eq_true] at h <;> first | exact h | cases h
  | _ => exact h
theorem GS.calm_root (ss : List Nat) (s : GS) (q : Root) : (s.calm ss).root q = s.root q := by
  cases q with
  | box k => rfl
  | slot k =>
    simp only [GS.root,GS.calm]
    cases s.γ k with
    | ali v q cv => by_cases hb : (ss.all fun n => (TV.ali v q).still n) = true <;> simp only [calmG,hb,if_true,if_false,Bool.false_eq_true] <;> rfl
    | plc p ad => by_cases hb : (ss.all fun n => (TV.plc p).still n) = true <;> simp only [calmG,hb,if_true,if_false,Bool.false_eq_true] <;> rfl
    | hd p l cv => by_cases hb : (ss.all fun n => (TV.hd p l).still n) = true <;> simp only [calmG,hb,if_true,if_false,Bool.false_eq_true] <;> rfl
    | _ => rfl
theorem GS.calm_loc (ss : List Nat) (s : GS) (p : Place) : (s.calm ss).loc p = s.loc p := by simp only [GS.loc,s.calm_root]
theorem GS.calm_fp (ss : List Nat) (s : GS) (q : Root) : (s.calm ss).fp q = s.fp q := by
  cases q with
  | box k => rfl
  | slot k => exact calmG_blocks ss (s.γ k)
theorem Inv.calm (ss : List Nat) (I : Inv N F S s w) : Inv N F S (s.calm ss) w where
  slot k := by
    have h := I.slot k
    have h2 : (calmG ss (s.γ k)).ok N w S s := by
      generalize s.γ k = t at h
      cases t with
      | ali v q cv => by_cases hb : (ss.all fun n => (TV.ali v q).still n) = true <;> simp only [calmG,hb,if_true,if_false,Bool.false_eq_true] <;> first | exact h | trivial
      | plc p ad => by_cases hb : (ss.all fun n => (TV.plc p).still n) = true <;> simp only [calmG,hb,if_true,if_false,Bool.false_eq_true] <;> first | exact h | trivial
      | hd p l cv => by_cases hb : (ss.all fun n => (TV.hd p l).still n) = true <;> simp only [calmG,hb,if_true,if_false,Bool.false_eq_true] <;> first | exact h | trivial
      | _ => exact h
    exact GT.ok_of_loc h2 fun p _ => s.calm_loc ss p
  box := I.box
  nodup q := by rw [s.calm_fp]; exact I.nodup q
  apart q q' x hx hx' := by rw [s.calm_fp] at hx hx'; exact I.apart q q' x hx hx'
  mine q x hx := by rw [s.calm_fp] at hx; exact I.mine q x hx
  immB := I.immB
  glob := I.glob
  frm := I.frm
  rooted k p hp n hn := I.rooted k p (calmG_place ss _ p hp) n hn
theorem Rel.calm (ss : List Nat) (R : Rel N F S s st a w) : Rel N F S (s.calm ss) (st.calm ss) a w :=
  ⟨R.inv.calm ss,⟨fun k => by
    show _ = (if ss.all (fun n => (getE st.env k).still n) then getE st.env k else .und)
    rw [← R.er.env k]; exact calmG_tv ss _,R.er.box⟩,fun k => by rw [R.tmp k]; exact (calmG_val ss _).symm,R.size,R.dfr⟩
theorem hush_idem (st : St) : st.hush.hush = st.hush := by
  simp only [St.hush]
  congr 1
  funext k
  simp only [hushE]
  cases st.env k with
  | ali v p => cases p <;> rfl
  | _ => rfl
theorem ite_hush (b : Bool) (t : TV) (h : t.hush = t) : (if b = true then t else TV.und).hush = if b = true then t else TV.und := by
  cases b
  · rfl
  · exact h
theorem calm_hush (ss : List Nat) (st : St) : (st.hush.calm ss).hush = st.hush.calm ss := by
  have e : hushE (st.hush.calm ss).env = (st.hush.calm ss).env := by
    funext k
    exact ite_hush _ _ (congrFun (congrArg St.env (hush_idem st)) k)
  show (⟨hushE (st.hush.calm ss).env,(st.hush.calm ss).boxes⟩ : St) = _
  rw [e]
theorem calm_still (ss : List Nat) (st : St) : ∀ k,ss.all (fun n => ((st.calm ss).env k).still n) = true := by
  intro k
  simp only [St.calm]
  split
  · assumption
  · exact all_still fun n => rfl
set_option maxHeartbeats 1000000 in
theorem sim_phs {T : Tab} {Q : Exit → Act → World → Prop} (hsel : Region.noSelect ops = true) (hQp : ∀ c a w,¬ Q (.panic c) a w) :
    ∀ (n : Nat) (phs : List Ph) (base : List Nat) (S : Nat → Prop) (s : GS) (st st' : St) (a : Act) (w : World) (fuel : Nat) (listed : Array Bool),PhsOk P N F.nt F.roots F.pins ops base phs → (∀ j ∈ base,∀ i ∈ prd ops j,i ∈ base) →
      Lst ops listed base → cnt ops base ≤ fuel → Rel N F S s st a w → Called P N T n → runPhs T n phs st = some st' →
      (∀ a' w' S' s',Up F.pins S a S' a' → Rel N F S' s' st' a' w' → Q .normal a' w') → wpAny P .any ops Q fuel listed a w
  | 0,_,_,_,_,_,_,_,_,_,_,_,_,_,_,_,_,h,_ => by simp [runPhs] at h
  | n + 1,[],base,S,s,st,st',a,w,fuel,listed,ok,hcl,L,hc,R,IH,h,hQ => by
    simp only [runPhs,Option.some.injEq] at h
    subst h
    cases ok with
    | nil hall =>
      refine wpAny_done ?_ (hQ a w S s .refl R) fuel
      cases hr : Region.ready .any ops listed with
      | nil => rfl
      | cons i r =>
        have := (L.ready (i := i)).1 (by rw [hr]; simp)
        exact absurd (hall i this.1) this.2.1
  | n + 1,.one i ao :: r,base,S,s,st,st',a,w,fuel,listed,ok,hcl,L,hc,R,IH,h,hQ => by
    cases ok with
    | one ho hok hi hp h1 hr =>
      rw [runPhs] at h
      split at h
      · rename_i st1 hst
        have hlt := (Array.getElem?_eq_some_iff.1 ho).1
        have hcnt := cnt_cons (ops := ops) hlt hi
        cases fuel with
        | zero => omega
        | succ fuel =>
          refine wpAny_all (rs := Region.ready .any ops listed) rfl (fun hr0 => ?_) fun k hk => ?_
          · have := (L.ready (i := i)).2 ⟨hlt,hi,hp⟩
            rw [hr0] at this; cases this
          · have hk' := (L.ready (i := k)).1 hk
            obtain rfl := h1 k hk'.1 hk'.2.1 hk'.2.2
            refine sim_runOp R ho hok (IH.le (Nat.le_succ n)) hst fun a' w' S' s' hS R' => ?_
            refine sim_phs hsel hQp n r (k :: base) S' s' st1 st' a' w' fuel _ hr (fun j hj i hij => ?_) (L.cons hlt) (by omega) R' (IH.le (Nat.le_succ n)) h fun a2 w2 S2 s2 h2 R2 => hQ a2 w2 S2 s2 (hS.trans h2) R2
            rcases List.mem_cons.1 hj with rfl | hj
            · exact List.mem_cons_of_mem _ (hp i hij)
            · exact List.mem_cons_of_mem _ (hcl j hj i hij)
      · cases h
  | n + 1,.pair i ao j ao' :: r,base,S,s,st,st',a,w,fuel,listed,ok,hcl,L,hc,R,IH,h,hQ => by
    cases ok with
    | @pair _ _ _ _ _ _ o o' ho ho' hok hok' hi hj hp hp' h1 h2 h3 hr =>
      rw [runPhs] at h
      split at h
      · rename_i hpo
        split at h
        · rename_i st1 hst1
          split at h
          · rename_i st2 hst2
            obtain ⟨d1,d2,g1,g2,x1,x2,p,q,e1,e2,e3,e4,e5⟩ := pairOk_inv hpo
            obtain ⟨v1,hs1⟩ := runOp_store d1 g1 e1 hst1
            obtain ⟨v2,hs2⟩ := runOp_store d2 g2 e2 hst2
            simp only [okAO,Bool.and_eq_true,beq_iff_eq] at hok hok'
            obtain ⟨⟨⟨hdst,hg⟩,hd⟩,hop⟩ := hok
            obtain ⟨⟨⟨hdst',hg'⟩,hd'⟩,hop'⟩ := hok'
            have w1 : Region.wanted o (yielded ops a.tmps) = true := wanted_ok R hg (by rw [g1]; rfl)
            have w2 : Region.wanted o' (yielded ops a.tmps) = true := wanted_ok R hg' (by rw [g2]; rfl)
            rw [d1] at hdst
            rw [d2] at hdst'
            obtain ⟨q',hq'⟩ := stepOp_store_plc e2 hs2
            obtain ⟨b1,row1,s1,z1,m1,-,-,R1,any1⟩ := stA_any e1 R hop hs1 e3
            obtain ⟨b2,row2,s2,z2,-,⟨-,hz2⟩,⟨k2,t2⟩,R2,any2⟩ := stA_any e2 R1 hop' hs2 hq'
            obtain ⟨_,b0,base0,r0,_,_,f1,_,f2⟩ := R.opd_plc hz2 e4
            have hbb : b0 = b2 := by rw [f2] at t2; simp at t2; exact t2.1
            subst hbb
            have hne : b1 ≠ b0 := fun e => by subst e; exact e5 (R.inv.apart _ _ _ m1 (R.inv.loc_mem f1).2.2)
            have run1 := any1 w rfl
            have run2 := any2 (w.setRow b1 row1) rfl
            have run3 := any2 w (setRow_other w b1 b0 row1 (Ne.symm hne)).symm
            have run4 := any1 (w.setRow b0 row2) (setRow_other w b0 b1 row2 hne)
            rw [← setRow_comm w hne] at run4
            have hlt := (Array.getElem?_eq_some_iff.1 ho).1
            have hlt' := (Array.getElem?_eq_some_iff.1 ho').1
            have c1 := cnt_cons (ops := ops) hlt hi
            have c2 := cnt_cons (ops := ops) hlt' hj
            have hjb : j ∉ base := fun hm => hj (List.mem_cons_of_mem _ hm)
            have hij : i ∉ j :: base := fun hm => by
              rcases List.mem_cons.1 hm with e | hm
              · exact hj (by rw [e]; exact List.mem_cons_self)
              · exact hi hm
            have hcl2 : ∀ k ∈ j :: i :: base,∀ x ∈ prd ops k,x ∈ j :: i :: base := fun k hk x hx => by
              rcases List.mem_cons.1 hk with rfl | hk
              · exact List.mem_cons_of_mem _ (List.mem_cons_of_mem _ (hp' x hx))
              · rcases List.mem_cons.1 hk with rfl | hk
                · exact List.mem_cons_of_mem _ (List.mem_cons_of_mem _ (hp x hx))
                · exact List.mem_cons_of_mem _ (List.mem_cons_of_mem _ (hcl k hk x hx))
            cases fuel with
            | zero => omega
            | succ fuel =>
              cases fuel with
              | zero => omega
              | succ fuel =>
                refine wpAny_all (rs := Region.ready .any ops listed) rfl (fun hr0 => ?_) fun k hk => ?_
                · have := (L.ready (i := i)).2 ⟨hlt,hi,hp⟩
                  rw [hr0] at this; cases this
                · have hk' := (L.ready (i := k)).1 hk
                  rcases h1 k hk'.1 hk'.2.1 hk'.2.2 with rfl | rfl
                  · refine wpOp_skip ho w1 hdst.symm run1 ?_
                    have L1 := L.cons hlt
                    refine wpAny_all (rs := Region.ready .any ops _) rfl (fun hr0 => ?_) fun k' hk2 => ?_
                    · have := (L1.ready (i := j)).2 ⟨hlt',hj,fun x hx => List.mem_cons_of_mem _ (hp' x hx)⟩
                      rw [hr0] at this; cases this
                    · have hk3 := (L1.ready (i := k')).1 hk2
                      obtain rfl := h2 k' hk3.1 hk3.2.1 hk3.2.2
                      refine wpOp_skip ho' w2 hdst'.symm run2 ?_
                      exact sim_phs hsel hQp n r _ S s2 st2 st' a _ fuel _ hr hcl2 (L1.cons hlt') (by omega) R2 (IH.le (Nat.le_succ n)) h hQ
                  · refine wpOp_skip ho' w2 hdst'.symm run3 ?_
                    have L1 := L.cons hlt'
                    refine wpAny_all (rs := Region.ready .any ops _) rfl (fun hr0 => ?_) fun k' hk2 => ?_
                    · have := (L1.ready (i := i)).2 ⟨hlt,hij,fun x hx => List.mem_cons_of_mem _ (hp x hx)⟩
                      rw [hr0] at this; cases this
                    · have hk3 := (L1.ready (i := k')).1 hk2
                      obtain rfl := h3 k' hk3.1 hk3.2.1 hk3.2.2
                      refine wpOp_skip ho w1 hdst.symm run4 ?_
                      have L2 := (L1.cons hlt).perm (Y := k :: k' :: base) fun x => by simp only [List.mem_cons]; constructor <;> (rintro (e | e | e) <;> simp [e])
                      exact sim_phs hsel hQp n r _ S s2 st2 st' a _ fuel _ hr hcl2 L2 (by omega) R2 (IH.le (Nat.le_succ n)) h hQ
          · cases h
        · cases h
      · cases h
  | n + 1,.bag hu hs es bag :: r,base,S,s,st,st',a,w,fuel,listed,ok,hcl,L,hc,R,IH,h,hQ => by
    cases ok with
    | bag B H hr =>
      rw [runPhs] at h
      split at h
      · rename_i st1 hst
        have hh0 : Cm hu [] (if hu = true then st.hush else st) := ⟨fun e => by rw [if_pos e]; exact hush_idem st,fun h => absurd rfl h,fun _ => rfl⟩
        have hR0 : ∃ s0,Rel N F S s0 (if hu = true then st.hush else st) a w := by
          by_cases e : hu = true
          · rw [if_pos e]; exact ⟨_,R.hush⟩
          · rw [if_neg e]; exact ⟨_,R⟩
        obtain ⟨s0,R0⟩ := hR0
        obtain ⟨rc,hrc⟩ := bag_recs (n := n) B hh0 bag [] n (fun _ => default) rfl (Nat.le_refl _) (by simpa [canon_nil] using hst) (by simp) (by simp) (by simp) (by simp) (by simp)
        have hclB : ∀ j ∈ bag.map (·.1) ++ base,∀ i ∈ prd ops j,i ∈ bag.map (·.1) ++ base := fun j hj i hi => by
          rw [List.mem_append] at hj ⊢
          exact (B.pre_closed (p := bag) (q := []) (by simp) j hj.symm i hi).symm
        refine sim_bag hsel hQp hrc B H hh0 (IH.le (Nat.le_succ n)) S a (fun fuel listed a' w S' s' hS L' hc' R' => ?_) fuel [] listed S s0 a w .refl (by simp) (fun j hj i hi => ?_) L hc (by rw [canon_nil]; exact R0)
        · exact sim_phs hsel hQp n r _ S' s' st1 st' a' w fuel listed hr hclB L' hc' R' (IH.le (Nat.le_succ n)) h fun a2 w2 S2 s2 h2 R2 => hQ a2 w2 S2 s2 (hS.trans h2) R2
        · rcases hj with hj | hj
          · exact .inl (hcl j hj i hi)
          · cases hj
      · cases h
  | n + 1,.bagS ss hs es bag :: r,base,S,s,st,st',a,w,fuel,listed,ok,hcl,L,hc,R,IH,h,hQ => by
    cases ok with
    | bagS B H hr =>
      rw [runPhs] at h
      split at h
      · rename_i st1 hst
        have hh0 : Cm true ss (st.hush.calm ss) := ⟨fun _ => calm_hush ss st,fun _ => rfl,calm_still ss st.hush⟩
        have R0 := R.hush.calm ss
        obtain ⟨rc,hrc⟩ := bag_recs (n := n) B hh0 bag [] n (fun _ => default) rfl (Nat.le_refl _) (by simpa [canon_nil] using hst) (by simp) (by simp) (by simp) (by simp) (by simp)
        have hclB : ∀ j ∈ bag.map (·.1) ++ base,∀ i ∈ prd ops j,i ∈ bag.map (·.1) ++ base := fun j hj i hi => by
          rw [List.mem_append] at hj ⊢
          exact (B.pre_closed (p := bag) (q := []) (by simp) j hj.symm i hi).symm
        refine sim_bag hsel hQp hrc B H hh0 (IH.le (Nat.le_succ n)) S a (fun fuel listed a' w S' s' hS L' hc' R' => ?_) fuel [] listed S _ a w .refl (by simp) (fun j hj i hi => ?_) L hc (by rw [canon_nil]; exact R0)
        · exact sim_phs hsel hQp n r _ S' s' st1 st' a' w fuel listed hr hclB L' hc' R' (IH.le (Nat.le_succ n)) h fun a2 w2 S2 s2 h2 R2 => hQ a2 w2 S2 s2 (hS.trans h2) R2
        · rcases hj with hj | hj
          · exact .inl (hcl j hj i hi)
          · cases hj
      · cases h
theorem sim_dreg {T : Tab} {Q : Exit → Act → World → Prop} {id n : Nat} {phs : List Ph} (hm : P.follows .mixedOrders = true) (hsel : Region.noSelect ops = true) (hQp : ∀ c a w,¬ Q (.panic c) a w) (ok : PhsOk P N F.nt F.roots F.pins ops [] phs)
    (R : Rel N F S s st a w) (IH : Called P N T n) (h : runPhs T n phs st = some st') (hQ : ∀ a' w' S' s',Up F.pins S a S' a' → Rel N F S' s' st' a' w' → Q .normal a' w') : (Code.region id ops true).wp P Q a w := by
  refine wp_region_any hm ?_
  have hg : Grew w { w with drawn := w.drawn + 1 } := ⟨rfl,rfl,rfl,Nat.le_refl _,fun _ _ => rfl⟩
  refine sim_phs hsel hQp n phs [] S s st st' a _ ops.size _ ok (by simp) ⟨by simp,fun j => ?_,by simp⟩ ?_ (R.grew hg) IH h hQ
  · simp [Array.getD_eq_getD_getElem?,Array.getElem?_replicate]
    split <;> simp
  · unfold cnt
    exact Nat.le_trans (List.length_filter_le _ _) (by simp)
end
end Hm
/- errors.As at a variable of the call's own, as one piece of code. Conditions: the function's contract (AskOk). -/
namespace Hm
open Go
structure AskOk (P : Program) (N : Nm) (f tE tP : Nat) : Prop where
  enter : ∀ vs w,(callFunc (N.f f) vs).run P w = .ok (.enter (N.f f) vs) w
  miss : ∀ t w,Calls P (N.f f) #[.nilIface,t] w fun e w' => e = .returned (.bool false) ∧ w' = w
  hit : ∀ (S : Nat → Prop) (w : World) (xa : Addr) (b : Nat) (old : Value) (e : TypeId),(∀ x ∈ N.g,VR N w S x.1 x.2) → xa.spot = none → w.heap[b]? = some (.cells #[old] e (0,0)) →
    Calls P (N.f f) #[.iface (N.t tE) (.pointer (some xa)),.iface (N.t tP) (.pointer (some ⟨b,0,none⟩))] w fun ev w' =>
      ev = .returned (.bool true) ∧ Frm (· ∈ [b]) w w' ∧ w'.heap[b]? = some (.cells #[.pointer (some xa)] e (0,0))
def okAsk (P : Program) (N : Nm) (nt : Nat) (roots pins : List Nat) (f d d0 d1 tP e m : Nat) (ops : Array Oper) : Bool :=
  match ops.toList with
  | [o0,o1,o2] =>
    (o0.dst == some d0 && o0.guard.isNone && (match o0.op with | .move (.tmp x) => x == e | _ => false)) &&
    (o1.dst == some d1 && o1.guard.isNone && (match o1.op with
      | .makeInterface u (.tmp x) => u == N.t tP && x == m && (match P.underlying u with | some (.interface _) => false | some _ => true | none => false)
      | _ => false)) &&
    (o2.dst == some d && o2.guard.isNone && (match o2.op with
      | .call { callee := .value (.func g),args,.. } => g == N.f f && (match args.toList with | [.tmp x,.tmp y] => x == d0 && y == d1 | _ => false)
      | _ => false)) &&
    [d,d0,d1].all (fun x => decide (x < nt) && !pins.contains x && !roots.contains x) && (!(d0 == m) && !(d0 == d1) && !(d1 == m))
  | _ => false
theorem frm_ask (w : World) (o1 o2 o3 o4 : Obj) (b : Nat) (old v : Value) (e : TypeId) (hb : w.heap[b]? = some (.cells #[old] e (0,0))) :
    Frm (· ∈ [b]) w (((((w.alloc o1).alloc o2).alloc o3).alloc o4).setCell ⟨b,0,none⟩ v) ∧ (((((w.alloc o1).alloc o2).alloc o3).alloc o4).setCell ⟨b,0,none⟩ v).heap[b]? = some (.cells #[v] e (0,0)) := by
  have sz : ∀ (u : World) (o : Obj),(u.alloc o).heap.size = u.heap.size + 1 := fun u o => by show (u.heap.push o).size = _; simp
  have old4 : ∀ x,x < w.heap.size → ((((w.alloc o1).alloc o2).alloc o3).alloc o4).heap[x]? = w.heap[x]? := fun x hx => by
    rw [heap_alloc_old _ _ _ (by rw [sz,sz,sz]; omega),heap_alloc_old _ _ _ (by rw [sz,sz]; omega),heap_alloc_old _ _ _ (by rw [sz]; omega),heap_alloc_old _ _ _ hx]
  have hbl : b < w.heap.size := (Array.getElem?_eq_some_iff.1 hb).1
  refine ⟨⟨rfl,rfl,rfl,?_,fun x hx hX => ?_⟩,one_setCell ((old4 b hbl).trans hb)⟩
  · show w.heap.size ≤ (Array.modify _ _ _).size
    rw [Array.size_modify,sz,sz,sz,sz]; omega
  · rw [RowKit.Below.heap_setCell _ _ _ _ (by simpa using hX)]
    exact old4 x hx
section
variable {P : Program} {N : Nm} {F : Fx} {S : Nat → Prop} {s : GS} {st st' : St} {a : Act} {w w' : World}
theorem wpOp_go {ops : Array Oper} {Q : Exit → Act → World → Prop} {i : Nat} {o : Oper} {K : Act → World → Prop} (hi : ops[i]? = some o) (hg : o.guard.isNone = true) (h : o.wp P a w K Q) : wpOp P ops Q i K a w := by
  unfold wpOp
  simp only [hi]
  have : Region.wanted o (yielded ops a.tmps) = true := by
    unfold Region.wanted
    cases hog : o.guard with
    | none => rfl
    | some x => rw [hog] at hg; cases hg
  rw [this]
  simp only [if_true]
  exact .inl h
theorem sim_ask {f d d0 d1 tE tP e m id : Nat} {ops : Array Oper} (R : Rel N F S s st a w) (A : AskOk P N f tE tP) (hok : okAsk P N F.nt F.roots F.pins f d d0 d1 tP e m ops = true)
    (h : askSt d d0 d1 tE e m st = some st') {Q : Exit → Act → World → Prop}
    (hQ : ∀ a' w' S' s',Up F.pins S a S' a' → Rel N F S' s' st' a' w' → Q .normal a' w') : (Code.region id ops false).wp P Q a w := by
  unfold okAsk at hok
  split at hok
  rotate_left
  · cases hok
  rename_i o0 o1 o2 hops
  have hsz : ops = #[o0,o1,o2] := by rw [← Array.toArray_toList (xs := ops),hops]
  subst hsz
  simp only [Bool.and_eq_true,List.all_cons,List.all_nil,Bool.and_true,decide_eq_true_eq,Bool.not_eq_true',beq_iff_eq,beq_eq_false_iff_ne] at hok
  obtain ⟨⟨⟨⟨⟨⟨a1,ag⟩,a3⟩,⟨⟨b1,b2⟩,b3⟩⟩,⟨⟨c1,c2⟩,c3⟩⟩,⟨⟨⟨dn,dp⟩,dr⟩,⟨⟨d0n,d0p⟩,d0r⟩,⟨⟨d1n,d1p⟩,d1r⟩⟩⟩,⟨⟨n0,n1⟩,n2⟩⟩ := hok
  have dr : d ∉ F.roots := by simpa using dr
  have d0r : d0 ∉ F.roots := by simpa using d0r
  have d1r : d1 ∉ F.roots := by simpa using d1r
  split at a3
  rotate_left
  · cases a3
  rename_i x0 ho0
  simp only [beq_iff_eq] at a3
  subst a3
  split at b3
  rotate_left
  · cases b3
  rename_i u x1 ho1
  simp only [Bool.and_eq_true,beq_iff_eq] at b3
  obtain ⟨⟨rfl,rfl⟩,hu⟩ := b3
  split at c3
  rotate_left
  · cases c3
  rename_i g ars tys ho2
  simp only [Bool.and_eq_true,beq_iff_eq] at c3
  obtain ⟨rfl,c3⟩ := c3
  split at c3
  rotate_left
  · cases c3
  rename_i y0 y1 hars
  simp only [Bool.and_eq_true,beq_iff_eq] at c3
  obtain ⟨rfl,rfl⟩ := c3
  have hars : ars = #[.tmp y0,.tmp y1] := by rw [← Array.toArray_toList (xs := ars),hars]
  subst hars
  unfold askSt at h
  split at h
  rotate_left
  · cases h
  rename_i v hv
  split at h
  rotate_left
  · cases h
  rename_i k hm
  split at h
  rotate_left
  · cases h
  rename_i c0 hb
  have hγ := R.er.env x0
  rw [hv] at hγ
  obtain ⟨cv,hγ⟩ := GT.of_av hγ
  have hvr := R.inv.slot x0
  rw [hγ] at hvr
  have hcv : a.eval (.tmp x0) = cv := by
    have := R.tmp x0
    rw [hγ] at this
    exact this
  obtain ⟨m',b,base,r,hm',hγm,hloc,hle,hpv⟩ := R.opd_plc (x := .t x1) (y := .tmp x1) (by simp [okO]) hm
  have hβ : ∃ e gs,s.β k = some (b,e,gs) ∧ base = 0 ∧ r = gs := by
    simp only [GS.loc,GS.root] at hloc
    cases hk : s.β k with
    | none => simp [hk] at hloc
    | some y =>
      obtain ⟨b',e',gs⟩ := y
      simp only [hk,locRow,Option.map_some,Option.some.injEq,Prod.mk.injEq] at hloc
      obtain ⟨⟨rfl,rfl⟩,rfl⟩ := hloc
      exact ⟨e',gs,rfl,rfl,rfl⟩
  obtain ⟨ty,gs,hβ,rfl,rfl⟩ := hβ
  simp only [Nat.zero_add] at hpv
  -- the first operation
  have R1 : Rel N F S (s.put y0 (.av v cv)) (st.put y0 (.av v)) (a.put (some y0) cv) w := R.put d0n ⟨rfl,rfl,hvr,Free.nil,by simp [GT.place?],R.unrooted (dst := some y0) (fun d' e => by cases e; exact d0r) (by simp [GT.place?])⟩
  have hpv1 : (a.put (some y0) cv).eval (.tmp x1) = .pointer (some ⟨b,0,none⟩) := by
    rw [← hpv]
    simp [Act.eval,Act.put,Array.getD_eq_getD_getElem?,Array.getElem?_setIfInBounds,n0]
  have R2 : Rel N F S ((s.put y0 (.av v cv)).put y1 (.und (.iface (N.t tP) (.pointer (some ⟨b,0,none⟩))))) ((st.put y0 (.av v)).put y1 .und) ((a.put (some y0) cv).put (some y1) (.iface (N.t tP) (.pointer (some ⟨b,0,none⟩)))) w :=
    R1.put d1n ⟨rfl,rfl,trivial,Free.nil,by simp [GT.place?],R1.unrooted (dst := some y1) (fun d' e => by cases e; exact d1r) (by simp [GT.place?])⟩
  generalize hs2 : (s.put y0 (.av v cv)).put y1 (.und (.iface (N.t tP) (.pointer (some ⟨b,0,none⟩)))) = s2 at R2
  generalize ha2 : (a.put (some y0) cv).put (some y1) (.iface (N.t tP) (.pointer (some ⟨b,0,none⟩))) = a2 at R2
  have hβ2 : s2.β k = some (b,ty,r) := by rw [← hs2]; exact hβ
  have hup : Up F.pins S a S a2 := by rw [← ha2]; exact .trans (Up.put (fun _ h => h) (by simpa using d0p) cv) (Up.put (fun _ h => h) (by simpa using d1p) _)
  have e0 : a2.eval (.tmp y0) = cv := by
    have := R2.tmp y0
    rw [← hs2] at this
    simp only [GS.put_γ_ne _ _ n1,GS.put_γ,GT.val] at this
    exact this
  have e1 : a2.eval (.tmp y1) = .iface (N.t tP) (.pointer (some ⟨b,0,none⟩)) := by
    have := R2.tmp y1
    rw [← hs2] at this
    simp only [GS.put_γ,GT.val] at this
    exact this
  refine wp_region ?_
  simp only [List.size_toArray,List.length_cons,List.length_nil,Nat.zero_add,Nat.reduceAdd,show List.range 3 = [0,1,2] from rfl]
  rw [wpOps_cons]
  refine wpOp_go (o := o0) rfl ag ?_
  unfold Oper.wp
  rw [show (execOp a.eval o0).run P w = .ok (.value cv) w from by simp only [execOp,ho0,← hcv]; rfl,Oper.upon_value,a1,wpOps_cons]
  refine wpOp_go (o := o1) rfl b2 ?_
  unfold Oper.wp
  rw [show (execOp (a.put (some y0) cv).eval o1).run P w = .ok (.value (.iface (N.t tP) (.pointer (some ⟨b,0,none⟩)))) w from by
    simp only [execOp,ho1,hpv1]
    cases hu' : P.underlying (N.t tP) with
    | none => simp [hu'] at hu
    | some d => cases d <;> simp [hu'] at hu <;> simp [Instr.makeInterface,run_underlying hu'],Oper.upon_value,b1,ha2,wpOps_cons]
  refine wpOp_go (o := o2) rfl c2 ?_
  unfold Oper.wp
  rw [run_call (f := f) ho2 (fs := #[]) (vs := #[]) (by rfl) A.enter,Oper.upon_enter]
  simp only [List.map_toArray,List.map_cons,List.map_nil,e0,e1,Array.empty_append,Array.append_empty]
  cases v with
  | nili =>
    simp only [Option.some.injEq] at h
    subst h
    cases hvr
    refine (A.miss _ w).mono fun ev w' hev => ?_
    obtain ⟨rfl,rfl⟩ := hev
    simp only [c1]
    exact hQ _ _ S _ (hup.trans (Up.put (fun _ h => h) (by simpa using dp) _)) (R2.put (g := .av (.bool false) (.bool false)) dn ⟨rfl,rfl,.bool _,Free.nil,by simp [GT.place?],R2.unrooted (dst := some d) (fun d' e => by cases e; exact dr) (by simp [GT.place?])⟩)
  | iface t v' =>
    cases v' with
    | vptr cs =>
      simp only at h
      split at h
      rotate_left
      · cases h
      rename_i ht
      subst ht
      split at h
      rotate_left
      · cases h
      rename_i st1 hw
      simp only [Option.some.injEq] at h
      subst h
      obtain ⟨m2,b2',base2,r2,_,_,hloc2,_,_⟩ := R2.opd_plc (x := .t x1) (y := .tmp x1) (p := ⟨.box k,[],0⟩) (by simp [okO]) (by
        show getE ((st.put y0 _).put y1 .und).env x1 = _
        rw [getE_put,if_neg n2,getE_put,if_neg n0]
        exact hm)
      have e2 : s2.loc ⟨.box k,[],0⟩ = some (some (b,0),r) := by simp [GS.loc,GS.root,hβ2,locRow]
      have hr1 : ∃ c1,r = [c1] := by
        have := R.er.box k
        rw [hb,hβ] at this
        simp only [Option.some.injEq] at this
        cases r with
        | nil => simp [cellRow] at this
        | cons c1 r => cases r with
          | nil => exact ⟨c1,rfl⟩
          | cons c2 r => simp [cellRow] at this
      obtain ⟨g1,rfl⟩ := hr1
      have hmem := (R2.inv.box k b ty _ hβ2).1
      have W := WriteH.dead (F := F) R2.inv e2 (n := 1) (by simp)
      obtain ⟨R3,_⟩ := R2.write W (by simpa [cellRow,GC.cell] using hw)
      have hβ3 : (s2.write ⟨.box k,[],0⟩ ((([g1].drop 0).take 1).map fun c => GC.dead c.val)).β k = some (b,ty,[GC.dead g1.val]) := by
        rw [GS.write_box rfl hβ2]
        simp [upd_same,setRowG]
      cases hvr with
      | iface _ _ cv' hvp =>
        cases hvp with
        | vptr _ xa cvf hS hsp hcell h1 hvv =>
          refine (A.hit S w xa b g1.val ty R2.inv.glob hsp (by simpa using hmem)).mono fun ev w' hev => ?_
          obtain ⟨rfl,frm,hb'⟩ := hev
          simp only [c1]
          have hbfp : b ∈ s2.fp (.box k) := by simp [GS.fp,hβ2]
          have hnS : ¬ S b := (R2.inv.mine _ _ hbfp).1
          have hSw : ∀ x,S x → w'.heap[x]? = w.heap[x]? := fun x hx => frm.block x (R2.inv.imm x hx) fun h => by
            simp only [List.mem_singleton] at h
            subst h
            exact hnS hx
          have hpt : VR N w' S (.vptr cs) (.pointer (some xa)) := (VR.vptr cs xa cvf hS hsp hcell h1 hvv).mono hSw fun _ h => h
          have R4 := R3.back (gs := [.av (.vptr cs) (.pointer (some xa))]) (e := ty) hβ3 (by simp) rfl Free.nil frm (S' := S) (fun _ h => h) (fun x h => .inl h) (fun x h => Nat.lt_of_lt_of_le (R2.inv.imm x h) frm.size) hb'
            (fun c hc => by simp only [List.mem_singleton] at hc; subst hc; exact .av _ _ hpt rfl) (by simp [blocksRow,GC.blocks]) (fun x hx => by
              simp only [blocksRow,GC.blocks,List.append_nil,List.mem_singleton] at hx
              subst hx
              exact ⟨hnS,.inr (by simp)⟩)
          exact hQ _ _ S _ (hup.trans (Up.put (fun _ h => h) (by simpa using dp) _)) (R4.put (g := .av (.bool true) (.bool true)) dn ⟨rfl,rfl,.bool _,Free.nil,by simp [GT.place?],R4.unrooted (dst := some d) (fun d' e => by cases e; exact dr) (by simp [GT.place?])⟩)
    | _ => cases h
  | _ => cases h
end
end Hm
/- Code. Conditions: none (plain lemmas). -/
namespace Hm
open Go
def Ex.out : Ex → Exit
  | .norm => .normal
  | .exit id => .exit id
  | .ret => .ret
inductive CodeOk (P : Program) (N : Nm) (nt : Nat) (roots pins : List Nat) : AC → Code → Prop
  | skip : CodeOk P N nt roots pins .skip .skip
  | reg {aos : List AO} {K : List Nat} {id : Nat} {ops : Array Oper} (hl : aos.length = ops.size) (h : ∀ (j : Nat) (ao : AO) (o : Oper),aos[j]? = some ao → ops[j]? = some o → okAO P N nt roots pins ops ao o = true) :
      CodeOk P N nt roots pins (.reg aos K) (.region id ops false)
  | dreg {phs : List Ph} {K : List Nat} {id : Nat} {ops : Array Oper} (hsel : Region.noSelect ops = true) (h : PhsOk P N nt roots pins ops [] phs) : CodeOk P N nt roots pins (.dreg phs K) (.region id ops true)
  | seq {a b : AC} {c d : Code} (h1 : CodeOk P N nt roots pins a c) (h2 : CodeOk P N nt roots pins b d) : CodeOk P N nt roots pins (.seq a b) (.seq c d)
  | cond {x : Opd} {y : Operand} {a b : AC} {c d : Code} (hx : okO N x y = true) (h1 : CodeOk P N nt roots pins a c) (h2 : CodeOk P N nt roots pins b d) : CodeOk P N nt roots pins (.cond x a b) (.cond y c d)
  | block {id : Nat} {a : AC} {c : Code} (h : CodeOk P N nt roots pins a c) : CodeOk P N nt roots pins (.block id a) (.block id c)
  | loop {K : List Nat} {a : AC} {c : Code} (h : CodeOk P N nt roots pins a c) : CodeOk P N nt roots pins (.loop K a) (.loop c)
  | exit {id : Nat} : CodeOk P N nt roots pins (.exit id) (.exit id)
  | ret : CodeOk P N nt roots pins .ret .ret
  | ask {f d d0 d1 tE tP e m : Nat} {K : List Nat} {id : Nat} {ops : Array Oper} (h : okAsk P N nt roots pins f d d0 d1 tP e m ops = true) : CodeOk P N nt roots pins (.ask f d d0 d1 tE tP e m K) (.region id ops false)
  | fail {c : Code} : CodeOk P N nt roots pins .fail c
def Asks (P : Program) (N : Nm) (T : Tab) : Prop := ∀ f tE tP,T.ask f tE tP = true → AskOk P N f tE tP
section
variable {P : Program} {N : Nm} {F : Fx}
theorem sim_exec {T : Tab} (hm : P.follows .mixedOrders = true) (HA : Asks P N T) : ∀ (n : Nat) (ac : AC) (c : Code) (S : Nat → Prop) (s : GS) (st st' : St) (a : Act) (w : World) (e : Ex) (Q : Exit → Act → World → Prop),CodeOk P N F.nt F.roots F.pins ac c → Rel N F S s st a w → Called P N T n →
    exec T n ac st = some (e,st') → (∀ c a w,¬ Q (.panic c) a w) → (∀ a' w' S' s',Up F.pins S a S' a' → Rel N F S' s' st' a' w' → Q e.out a' w') → c.wp P Q a w := by
  intro n
  induction n using Nat.strongRecOn with
  | _ n ih =>
    intro ac c S s st st' a w e Q hc R IH h hQp hQ
    cases n with
    | zero => simp [exec] at h
    | succ n =>
      cases hc with
      | skip =>
        rw [exec] at h
        simp only [Option.some.injEq,Prod.mk.injEq] at h
        obtain ⟨rfl,rfl⟩ := h
        exact wp_skip (hQ a w S s .refl R)
      | @reg aos K id ops hl hok =>
        rw [exec] at h
        split at h
        · rename_i st1 h1
          simp only [Option.some.injEq,Prod.mk.injEq] at h
          obtain ⟨rfl,rfl⟩ := h
          refine wp_region (sim_ops n aos (List.range ops.size) R (by simpa using hl) (fun j ao i hj hi => ?_) (IH.le (Nat.le_succ n)) h1 fun a' w' S' s' hS R' => hQ a' w' S' _ hS (R'.keep K))
          have hi' := List.getElem?_eq_some_iff.1 hi
          obtain ⟨hlt,hi'⟩ := hi'
          simp only [List.getElem_range] at hi'
          subst hi'
          simp only [List.length_range] at hlt
          exact ⟨ops[j],Array.getElem?_eq_getElem hlt,hok j ao _ hj (Array.getElem?_eq_getElem hlt)⟩
        · cases h
      | @dreg phs K id ops hsel hok =>
        rw [exec] at h
        split at h
        · rename_i st1 h1
          simp only [Option.some.injEq,Prod.mk.injEq] at h
          obtain ⟨rfl,rfl⟩ := h
          exact sim_dreg hm hsel hQp hok R (IH.le (Nat.le_succ n)) h1 fun a' w' S' s' hS R' => hQ a' w' S' _ hS (R'.keep K)
        · cases h
      | @seq a1 b1 c1 d1 hc1 hc2 =>
        rw [exec] at h
        refine wp_seq ?_
        split at h
        · rename_i st1 h1
          refine ih n (Nat.lt_succ_self n) a1 c1 S s st st1 a w .norm _ hc1 R (IH.le (Nat.le_succ n)) h1 (fun c a w => hQp c a w) fun a' w' S' s' hS R' => ?_
          exact ih n (Nat.lt_succ_self n) b1 d1 S' s' st1 st' a' w' e Q hc2 R' (IH.le (Nat.le_succ n)) h hQp fun a2 w2 S2 s2 h2 R2 => hQ a2 w2 S2 s2 (hS.trans h2) R2
        · rename_i hne
          refine ih n (Nat.lt_succ_self n) a1 c1 S s st st' a w e _ hc1 R (IH.le (Nat.le_succ n)) h (fun c a w => hQp c a w) fun a' w' S' s' hS R' => ?_
          cases e with
          | norm => exact absurd h (hne _)
          | exit id => exact hQ a' w' S' s' hS R'
          | ret => exact hQ a' w' S' s' hS R'
      | @cond x y a1 b1 c1 d1 hx hc1 hc2 =>
        rw [exec] at h
        split at h
        · rename_i t hx'
          have hv := R.opd_av hx hx'
          generalize hy : a.eval y = cv at hv
          cases hv with
          | bool _ =>
            refine wp_cond hy ?_
            cases t with
            | true => exact ih n (Nat.lt_succ_self n) a1 c1 S s st st' a w e Q hc1 R (IH.le (Nat.le_succ n)) h hQp hQ
            | false => exact ih n (Nat.lt_succ_self n) b1 d1 S s st st' a w e Q hc2 R (IH.le (Nat.le_succ n)) h hQp hQ
        · cases h
      | @block id a1 c1 hc1 =>
        rw [exec] at h
        refine wp_block ?_
        split at h
        · rename_i j st1 h1
          refine ih n (Nat.lt_succ_self n) a1 c1 S s st st1 a w (.exit j) _ hc1 R (IH.le (Nat.le_succ n)) h1 (fun c a w => hQp c a w) fun a' w' S' s' hS R' => ?_
          simp only [Ex.out,Exit.inBlock]
          by_cases hj : j = id
          · rw [if_pos hj] at h ⊢
            simp only [Option.some.injEq,Prod.mk.injEq] at h
            obtain ⟨rfl,rfl⟩ := h
            exact hQ a' w' S' s' hS R'
          · rw [if_neg hj] at h ⊢
            simp only [Option.some.injEq,Prod.mk.injEq] at h
            obtain ⟨rfl,rfl⟩ := h
            exact hQ a' w' S' s' hS R'
        · rename_i hne
          refine ih n (Nat.lt_succ_self n) a1 c1 S s st st' a w e _ hc1 R (IH.le (Nat.le_succ n)) h (fun c a w => hQp c a w) fun a' w' S' s' hS R' => ?_
          cases e with
          | exit id => exact absurd h (hne _ _)
          | norm => exact hQ a' w' S' s' hS R'
          | ret => exact hQ a' w' S' s' hS R'
      | @loop K a1 c1 hc1 =>
        have key : ∀ (m : Nat) (st0 : St) (a0 : Act) (w0 : World) (S0 : Nat → Prop) (s0 : GS),m ≤ n + 1 → Up F.pins S a S0 a0 → Rel N F S0 s0 st0 a0 w0 → exec T m (.loop K a1) st0 = some (e,st') → Code.rounds P c1 Q m a0 w0 := by
          intro m
          induction m with
          | zero => intro st0 a0 w0 S0 s0 _ _ _ h; simp [exec] at h
          | succ m ihm =>
            intro st0 a0 w0 S0 s0 hm' hS0 R0 h
            rw [rounds_succ]
            rw [exec] at h
            split at h
            · rename_i st1 h1
              refine ih m (by omega) a1 c1 S0 _ _ st1 a0 w0 .norm _ hc1 (R0.keep K) (IH.le (by omega)) h1 (fun c a w => hQp c a w) fun a' w' S' s' hS R' => ?_
              exact ihm st1 a' w' S' s' (by omega) (hS0.trans hS) R' h
            · rename_i hne
              refine ih m (by omega) a1 c1 S0 _ _ st' a0 w0 e _ hc1 (R0.keep K) (IH.le (by omega)) h (fun c a w => hQp c a w) fun a' w' S' s' hS R' => ?_
              cases e with
              | norm => exact absurd h (hne _)
              | exit id => exact hQ a' w' S' s' (hS0.trans hS) R'
              | ret => exact hQ a' w' S' s' (hS0.trans hS) R'
        exact wp_loop_rounds (n + 1) (key (n + 1) st a w S s (Nat.le_refl _) .refl R h)
      | exit =>
        rw [exec] at h
        simp only [Option.some.injEq,Prod.mk.injEq] at h
        obtain ⟨rfl,rfl⟩ := h
        exact wp_exit (hQ a w S s .refl R)
      | ret =>
        rw [exec] at h
        simp only [Option.some.injEq,Prod.mk.injEq] at h
        obtain ⟨rfl,rfl⟩ := h
        exact wp_ret (hQ a w S s .refl R)
      | ask hok =>
        rw [exec] at h
        split at h
        · rename_i hT
          split at h
          · rename_i st1 h1
            simp only [Option.some.injEq,Prod.mk.injEq] at h
            obtain ⟨rfl,rfl⟩ := h
            exact sim_ask R (HA _ _ _ hT) hok h1 fun a' w' S' s' hS R' => hQ a' w' S' _ hS (R'.keep _)
          · cases h
        · cases h
      | fail => rw [exec] at h; cases h
end
end Hm
/- How a call begins. Conditions: none (plain lemmas). -/
namespace Hm
open Go
section
variable {P : Program} {N : Nm} {S : Nat → Prop} {w : World}
structure Ent (N : Nm) (w : World) (S : Nat → Prop) (i : Nat) (as : List Arg) (vs : List Value) (lx : List Nat) (s : GS) : Prop where
  tv : ∀ k,(s.γ k).tv = lstE (entry i as).1 k
  box : ∀ k,(match s.β k with | some (_,_,gs) => some (cellRow gs) | none => none) = lstB (entry i as).2 k
  val : ∀ k,(s.γ k).val = if k < i then undef else vs.getD (k - i) undef
  ok : ∀ k,(s.γ k).ok N w S s
  mem : ∀ k b e gs,s.β k = some (b,e,gs) → w.heap[b]? = some (.cells (gs.map GC.val).toArray e (0,0)) ∧ AllOk N w S gs
  nodup : ∀ r,(s.fp r).Nodup ∧ ∀ x ∈ s.fp r,x ∈ lx
  apart : ∀ r r' x,x ∈ s.fp r → x ∈ s.fp r' → r = r'
  place : ∀ k p,(s.γ k).place? = some p → p.root = .box k
  low : ∀ k,k < i → s.γ k = .und undef ∧ s.β k = none
theorem Ent.of_cons {i : Nat} {a : Arg} {as : List Arg} {v : Value} {vs : List Value} {l lx : List Nat} {s : GS} (E : Ent N w S (i + 1) as vs lx s) {g : GT} {bx : Option (Nat × TypeId × List GC)} {tv : TV}
    (he1 : (entry i (a :: as)).1 = (i,tv) :: (entry (i + 1) as).1) (htv : g.tv = tv)
    (hbx : ∀ k,lstB (entry i (a :: as)).2 k = if k = i then (match bx with | some (_,_,gs) => some (cellRow gs) | none => none) else lstB (entry (i + 1) as).2 k)
    (hval : g.val = v) (hok : ∀ s' : GS,s'.β i = bx → g.ok N w S s') (hmem : ∀ b e gs,bx = some (b,e,gs) → w.heap[b]? = some (.cells (gs.map GC.val).toArray e (0,0)) ∧ AllOk N w S gs)
    (hpl : ∀ p,g.place? = some p → p.root = .box i) (hblk : ∀ x,x ∈ g.blocks → x ∈ l) (hbb : ∀ b e gs x,bx = some (b,e,gs) → x ∈ b :: blocksRow gs → x ∈ l) (hg : g.blocks.Nodup) (hbn : ∀ b e gs,bx = some (b,e,gs) → (b :: blocksRow gs).Nodup)
    (hone : bx = none ∨ g.blocks = []) (hl : (l ++ lx).Nodup) : Ent N w S i (a :: as) (v :: vs) (l ++ lx) ⟨upd s.γ i g,upd s.β i bx⟩ := by
  have hlow := E.low i (Nat.lt_succ_self i)
  have hfp : ∀ r,r ≠ .slot i → r ≠ .box i → (⟨upd s.γ i g,upd s.β i bx⟩ : GS).fp r = s.fp r := fun r h1 h2 => by
    cases r with
    | box k => simp only [GS.fp,upd_ne _ _ (show k ≠ i from fun e => h2 (by rw [e]))]
    | slot k => simp only [GS.fp,upd_ne _ _ (show k ≠ i from fun e => h1 (by rw [e]))]
  have hfs : (⟨upd s.γ i g,upd s.β i bx⟩ : GS).fp (.slot i) = g.blocks := by simp [GS.fp]
  have hfb : (⟨upd s.γ i g,upd s.β i bx⟩ : GS).fp (.box i) = match bx with | some (b,_,gs) => b :: blocksRow gs | none => [] := by cases bx <;> simp [GS.fp]
  have hdis : ∀ x,x ∈ l → x ∉ lx := fun x h1 h2 => (List.nodup_append.1 hl).2.2 x h1 x h2 rfl
  have hin : ∀ r x,x ∈ (⟨upd s.γ i g,upd s.β i bx⟩ : GS).fp r → (x ∈ l ∧ (r = .slot i ∨ r = .box i)) ∨ (x ∈ lx ∧ r ≠ .slot i ∧ r ≠ .box i ∧ x ∈ s.fp r) := fun r x hx => by
    by_cases h1 : r = .slot i
    · subst h1; rw [hfs] at hx; exact .inl ⟨hblk x hx,.inl rfl⟩
    · by_cases h2 : r = .box i
      · subst h2
        rw [hfb] at hx
        cases bx with
        | none => cases hx
        | some y => obtain ⟨b,e,gs⟩ := y
                    exact .inl ⟨hbb b e gs x rfl hx,.inr rfl⟩
      · rw [hfp r h1 h2] at hx; exact .inr ⟨(E.nodup r).2 x hx,h1,h2,hx⟩
  have hroot : ∀ k,k ≠ i → (⟨upd s.γ i g,upd s.β i bx⟩ : GS).root (.box k) = s.root (.box k) := fun k hk => by
    simp only [GS.root,upd_ne _ _ hk]
  refine ⟨fun k => ?_,fun k => ?_,fun k => ?_,fun k => ?_,fun k b e gs hb => ?_,fun r => ⟨?_,fun x hx => ?_⟩,fun r r' x hx hx' => ?_,fun k p hp => ?_,fun k hk => ?_⟩
  · rw [he1]
    simp only [lstE]
    by_cases h : k = i
    · subst h; simp [htv]
    · simp only [upd_ne _ _ h,h,if_false]; exact E.tv k
  · rw [hbx]
    by_cases h : k = i
    · subst h; simp
    · simp only [upd_ne _ _ h,h,if_false]; exact E.box k
  · by_cases h : k = i
    · subst h; simp [hval]
    · simp only [upd_ne _ _ h,E.val k]
      by_cases h' : k < i
      · rw [if_pos h',if_pos (by omega)]
      · rw [if_neg h',if_neg (by omega)]
        have : k - i = (k - (i + 1)) + 1 := by omega
        rw [this,List.getD_cons_succ]
  · by_cases h : k = i
    · subst h; simp only [upd_same]; exact hok _ (by simp)
    · simp only [upd_ne _ _ h]
      refine GT.ok_of_loc (E.ok k) fun p hp => ?_
      have := E.place k p hp
      simp only [GS.loc,this,hroot k h]
  · by_cases h : k = i
    · subst h; simp only [upd_same] at hb; exact hmem b e gs hb
    · simp only [upd_ne _ _ h] at hb; exact E.mem k b e gs hb
  · by_cases h1 : r = .slot i
    · subst h1; rw [hfs]; exact hg
    · by_cases h2 : r = .box i
      · subst h2
        rw [hfb]
        cases bx with
        | none => exact List.nodup_nil
        | some y => obtain ⟨b,e,gs⟩ := y
                    exact hbn b e gs rfl
      · rw [hfp r h1 h2]; exact (E.nodup r).1
  · rcases hin r x hx with ⟨h,_⟩ | ⟨h,_⟩
    · exact List.mem_append_left _ h
    · exact List.mem_append_right _ h
  · rcases hin r x hx with ⟨h1,h2⟩ | ⟨h1,h2,h3,h4⟩
    · rcases hin r' x hx' with ⟨h1',h2'⟩ | ⟨h1',_⟩
      · rcases h2 with rfl | rfl
        · rcases h2' with rfl | rfl
          · rfl
          · exfalso
            rw [hfs] at hx
            rw [hfb] at hx'
            rcases hone with h | h
            · rw [h] at hx'; cases hx'
            · rw [h] at hx; cases hx
        · rcases h2' with rfl | rfl
          · exfalso
            rw [hfs] at hx'
            rw [hfb] at hx
            rcases hone with h | h
            · rw [h] at hx; cases hx
            · rw [h] at hx'; cases hx'
          · rfl
      · exact absurd h1' (hdis x h1)
    · rcases hin r' x hx' with ⟨h1',_⟩ | ⟨_,h2',h3',h4'⟩
      · exact absurd h1 (hdis x h1')
      · exact E.apart r r' x h4 h4'
  · by_cases h : k = i
    · subst h; simp only [upd_same] at hp; exact hpl p hp
    · simp only [upd_ne _ _ h] at hp; exact E.place k p hp
  · have hne : k ≠ i := by omega
    simp only [upd_ne _ _ hne]
    exact E.low k (by omega)
theorem entry_ok {as : List Arg} {vs : List Value} {lx : List Nat} (h : ArgsOk N w S as vs lx) (hl : lx.Nodup) : ∀ i,∃ s,Ent N w S i as vs lx s := by
  induction h with
  | nil =>
    intro i
    refine ⟨⟨fun _ => .und undef,fun _ => none⟩,fun k => rfl,fun k => rfl,fun k => ?_,fun k => trivial,(fun k b e gs h => nomatch h),fun r => ?_,fun r r' x hx => ?_,(fun k p h => by simp [GT.place?] at h),fun k _ => ⟨rfl,rfl⟩⟩
    · simp [GT.val]
    · cases r <;> simp [GS.fp,GT.blocks]
    · cases r <;> simp [GS.fp,GT.blocks] at hx
  | @cons a v l as vs lx ha _ ih =>
    intro i
    obtain ⟨s,E⟩ := ih (List.nodup_append.1 hl).2.1 (i + 1)
    have hnone : lstB (entry (i + 1) as).2 i = none := by rw [← E.box i,(E.low i (Nat.lt_succ_self i)).2]
    cases ha with
    | val av _ hv =>
      refine ⟨_,E.of_cons (l := []) (g := .av av v) (bx := none) rfl rfl (fun k => ?_) rfl (fun _ _ => hv) (by simp) (by simp [GT.place?]) (by simp [GT.blocks]) (by simp) (by simp [GT.blocks]) (by simp) (.inl rfl) hl⟩
      by_cases h : k = i
      · subst h; simp only [if_true]; exact hnone
      · simp only [h,if_false]; rfl
    | mv gs g hok hg =>
      have hb : ∀ k,lstB (entry i (.mv (cellRow gs) g :: as)).2 k = if k = i then none else lstB (entry (i + 1) as).2 k := fun k => by
        by_cases h : k = i
        · subst h; simp only [if_true]; exact hnone
        · simp only [h,if_false]; rfl
      cases hv : allAv (cellRow gs) with
      | some vs' =>
        have hvr := cval_av hv hok hg
        refine ⟨_,E.of_cons (l := blocksRow gs) (g := .av (mkV g vs') (cval g gs)) (bx := none) (tv := TV.ofCells g (cellRow gs)) rfl (by simp [GT.tv,TV.ofCells,hv]) hb rfl (fun _ _ => hvr) (by simp) (by simp [GT.place?]) (by simp [GT.blocks]) (by simp) (by simp [GT.blocks])
          (by simp) (.inl rfl) hl⟩
      | none =>
        refine ⟨_,E.of_cons (l := blocksRow gs) (g := .own gs g) (bx := none) (tv := TV.ofCells g (cellRow gs)) rfl (by simp [GT.tv,TV.ofCells,hv]) hb rfl (fun _ _ => ⟨hok,hg⟩) (by simp) (by simp [GT.place?]) (by simp [GT.blocks]) (by simp) (List.nodup_append.1 hl).1
          (by simp) (.inl rfl) hl⟩
    | io gs b e hb hok =>
      refine ⟨_,E.of_cons (l := b :: blocksRow gs) (g := .plc ⟨.box i,[],0⟩ ⟨b,0,none⟩) (bx := some (b,e,gs)) (tv := .plc ⟨.box i,[],0⟩) rfl rfl (fun k => ?_) rfl (fun s' hs' => ⟨b,0,gs,?_,Nat.zero_le _,rfl⟩) (fun b' e' gs' h => ?_) (by simp [GT.place?])
        (by simp [GT.blocks]) (fun b' e' gs' x h hx => ?_) (by simp [GT.blocks]) (fun b' e' gs' h => ?_) (.inr rfl) hl⟩
      · simp only [entry,lstB]
      · simp [GS.loc,GS.root,hs',locRow]
      · cases h; exact ⟨hb,hok⟩
      · cases h; exact hx
      · cases h; exact (List.nodup_append.1 hl).1
end
end Hm
/- How a call ends. Conditions: none (plain lemmas). -/
namespace Hm
open Go
def okRes (P : Program) : ARes → ResultVar → Bool
  | .tmp t,.tmp t' => t == t'
  | .cell a n g,.cell a' t => a == a' && tyIs P t n g
  | _,_ => false
def okRess (P : Program) : List ARes → List ResultVar → Bool
  | [],[] => true
  | x :: r,y :: s => okRes P x y && okRess P r s
  | _,_ => false
def ARes.root : ARes → Root
  | .tmp t => .slot t
  | .cell a _ _ => .box a
section
variable {P : Program} {N : Nm} {F : Fx} {S : Nat → Prop} {s : GS} {st : St} {a : Act} {w : World}
def resRun (tmps : Array Value) : ResultVar → Sem Value
  | .tmp t => pure (tmps.getD t undef)
  | .cell a t => do loadVar t (← asAddr (tmps.getD a undef))
theorem resultOk (R : Rel N F S s st a w) : ∀ {rs : List ARes} {rvs : List ResultVar} {l : List (List Cell × Bool)},results st rs = some l → okRess P rs rvs = true → (rs.map ARes.root).Nodup →
    ∃ L : List (List GC × Bool),l = L.map (fun x => (cellRow x.1,x.2)) ∧ (∀ x ∈ L,AllOk N w S x.1 ∧ (x.2 = false → ∃ c,x.1 = [c])) ∧ (rvs.mapM (resRun a.tmps)).run P w = .ok (L.map fun x => cval x.2 x.1) w ∧
      (resBlocks L).Nodup ∧ ∀ x ∈ resBlocks L,∃ r ∈ rs.map ARes.root,x ∈ s.fp r
  | [],[],l,h,_,_ => by
    simp only [results,Option.some.injEq] at h
    subst h
    exact ⟨[],rfl,by simp,by simp,by simp [resBlocks],by simp [resBlocks]⟩
  | [],_ :: _,_,_,h,_ => by simp [okRess] at h
  | _ :: _,[],_,_,h,_ => by simp [okRess] at h
  | x :: rs,y :: rvs,l,h,hok,hn => by
    simp only [okRess,Bool.and_eq_true] at hok
    obtain ⟨hxy,hok⟩ := hok
    simp only [List.map_cons,List.nodup_cons] at hn
    -- what one result gives
    have fin : ∀ {l1 : List (List Cell × Bool)} {gs : List GC} {g : Bool},results st rs = some l1 → l = (cellRow gs,g) :: l1 → AllOk N w S gs → (g = false → ∃ c,gs = [c]) → (resRun a.tmps y).run P w = .ok (cval g gs) w →
        (blocksRow gs).Nodup → (∀ z ∈ blocksRow gs,z ∈ s.fp x.root) →
        ∃ L : List (List GC × Bool),l = L.map (fun x => (cellRow x.1,x.2)) ∧ (∀ x ∈ L,AllOk N w S x.1 ∧ (x.2 = false → ∃ c,x.1 = [c])) ∧ ((y :: rvs).mapM (resRun a.tmps)).run P w = .ok (L.map fun x => cval x.2 x.1) w ∧
          (resBlocks L).Nodup ∧ ∀ z ∈ resBlocks L,∃ r ∈ (x :: rs).map ARes.root,z ∈ s.fp r := by
      intro l1 gs g h1 h2 h3 h4 h5 h6 h7
      obtain ⟨L,e1,e2,e3,e4,e5⟩ := resultOk R h1 hok hn.2
      refine ⟨(gs,g) :: L,by rw [h2,e1]; rfl,fun z hz => ?_,?_,?_,fun z hz => ?_⟩
      · rcases List.mem_cons.1 hz with rfl | hz
        · exact ⟨h3,h4⟩
        · exact e2 z hz
      · simp [List.mapM_cons,h5,e3]
      · simp only [resBlocks,List.flatMap_cons] at e4 ⊢
        refine List.nodup_append.2 ⟨h6,e4,fun z hz z' hz' e => ?_⟩
        subst e
        obtain ⟨r,hr,hzr⟩ := e5 z hz'
        have := R.inv.apart _ _ z (h7 z hz) hzr
        exact hn.1 (this ▸ hr)
      · simp only [resBlocks,List.flatMap_cons,List.mem_append] at hz
        rcases hz with hz | hz
        · exact ⟨x.root,by simp,h7 z hz⟩
        · obtain ⟨r,hr,hzr⟩ := e5 z hz
          exact ⟨r,List.mem_cons_of_mem _ hr,hzr⟩
    cases x with
    | tmp t =>
      cases y with
      | cell _ _ => simp [okRes] at hxy
      | tmp t' =>
        simp only [okRes,beq_iff_eq] at hxy
        subst hxy
        have hrun : (resRun a.tmps (.tmp t)).run P w = .ok (s.γ t).val w := by simp only [resRun,R.tmp t]; rfl
        have he := R.er.env t
        have hsl := R.inv.slot t
        simp only [results] at h
        split at h
        · cases h
        · rename_i v l1 hne hv h1
          simp only [Option.some.injEq] at h
          rw [hv] at he
          obtain ⟨cv,e⟩ := GT.of_av he
          rw [e] at hsl hrun
          obtain ⟨gs,g1,g2,g3,g4,_,g6⟩ := VR.cells (show VR N w S v cv from hsl) (fun e => hne e)
          exact fin h1 (by rw [← h,g1]) g2 g6 (by rw [hrun,← g4]; rfl) (by rw [g3]; exact List.nodup_nil) (by rw [g3]; simp)
        · rename_i cs g l1 hv h1
          simp only [Option.some.injEq] at h
          rw [hv] at he
          obtain ⟨gs,e,rfl⟩ := GT.of_own he
          rw [e] at hsl hrun
          have hfp : s.fp (.slot t) = blocksRow gs := by simp [GS.fp,e,GT.blocks]
          exact fin h1 h.symm hsl.1 hsl.2 hrun (by rw [← hfp]; exact R.inv.nodup _) (fun z hz => by rw [ARes.root,hfp]; exact hz)
        · rename_i v p l1 hv h1
          split at h
          · rename_i hsc
            simp only [Option.some.injEq] at h
            have hvr := R.opd_rd (x := .t t) (y := .tmp t) (by simp [okO]) (v := v) (by simp only [St.opd,hv]; rfl)
            have hvr' : VR N w S v (s.γ t).val := by
              have e : a.eval (.tmp t) = (s.γ t).val := R.tmp t
              rw [e] at hvr
              generalize (s.γ t).val = cv at hvr
              cases hvr <;> simp [AV.scalar] at hsc
              · exact .int _ _
              · exact .bool _
              · exact .str _
              · exact .nilp
              · exact .nilf
              · exact .nili
            obtain ⟨gs,g1,g2,g3,g4,_,g6⟩ := VR.cells hvr' (fun e => by subst e; simp [AV.scalar] at hsc)
            exact fin h1 (by rw [← h,g1]) g2 g6 (by rw [hrun,← g4]) (by rw [g3]; exact List.nodup_nil) (by rw [g3]; simp)
          · cases h
        · cases h
    | cell b n g =>
      cases y with
      | tmp _ => simp [okRes] at hxy
      | cell b' t =>
        simp only [okRes,Bool.and_eq_true,beq_iff_eq] at hxy
        obtain ⟨rfl,ht⟩ := hxy
        simp only [results] at h
        split at h
        · rename_i k l1 hp h1
          split at h
          · rename_i hk
            subst hk
            split at h
            · rename_i cs hb
              split at h
              · rename_i hl
                simp only [Option.some.injEq] at h
                have hc : st.cells ⟨.box k,[],0⟩ n = some cs := by
                  simp only [St.cells,St.root,hb,getRow]
                  rw [if_pos (by omega)]
                  simp [← hl]
                obtain ⟨hh,r,e1,e2,e3,e4,e5⟩ := load_place R ht (x := .t k) (y := .tmp k) (by simp [okO]) hp hc
                have hbox := R.er.box k
                rw [hb] at hbox
                cases hβ : s.β k with
                | none => rw [hβ] at hbox; cases hbox
                | some z =>
                  obtain ⟨b0,e0,gs⟩ := z
                  rw [hβ] at hbox
                  simp only [Option.some.injEq] at hbox
                  simp only [GS.loc,GS.root,hβ,locRow,Option.map_some,Option.some.injEq,Prod.mk.injEq] at e1
                  obtain ⟨_,rfl⟩ := e1
                  have hgl : gs.length = n := by rw [← hl,← hbox,cellRow_length]
                  have htk : (gs.drop 0).take n = gs := by rw [List.drop_zero,← hgl,List.take_length]
                  rw [htk] at e4 e5
                  have hfp : s.fp (.box k) = b0 :: blocksRow gs := by simp [GS.fp,hβ]
                  refine fin h1 (by rw [← h,hbox]) e4 (fun hg => ?_) ?_ ?_ (fun z hz => by rw [ARes.root,hfp]; exact List.mem_cons_of_mem _ hz)
                  · have := tyIs_one ht hg
                    rw [← hgl] at this
                    exact List.length_eq_one_iff.1 this
                  · obtain ⟨_,bb,base,r0,_,_,_,_,hev⟩ := R.opd_plc (x := .t k) (y := .tmp k) (by simp [okO]) hp
                    simp only [Act.eval] at hev
                    simp only [Instr.loadAt,Act.eval,hev] at e5
                    simp only [resRun,hev]
                    simpa [Instr.sureAddr,asAddr] using e5
                  · have := R.inv.nodup (.box k)
                    rw [hfp] at this
                    exact (List.nodup_cons.1 this).2
              · cases h
            · cases h
          · cases h
        · cases h
end
end Hm
/- What the abstract machine answers, the model answers. Conditions: the program is linked to the table (Linked). -/
namespace Hm
open Go
def ioIdx : Nat → List PMode → List Nat
  | _,[] => []
  | i,.io _ :: r => i :: ioIdx (i + 1) r
  | i,_ :: r => ioIdx (i + 1) r
theorem ioIdx_le : ∀ {i : Nat} {ms : List PMode} {k : Nat},k ∈ ioIdx i ms → i ≤ k
  | i,[],k,h => by cases h
  | i,m :: r,k,h => by
    cases m with
    | io n =>
      rcases List.mem_cons.1 h with rfl | h
      · exact Nat.le_refl _
      · exact Nat.le_of_succ_le (ioIdx_le h)
    | val => exact Nat.le_of_succ_le (ioIdx_le h)
    | mv => exact Nat.le_of_succ_le (ioIdx_le h)
theorem fits_length : ∀ {ms : List PMode} {as : List Arg},fits ms as = true → as.length = ms.length
  | [],[],_ => rfl
  | [],_ :: _,h => by simp [fits] at h
  | m :: ms,[],h => by cases m <;> simp [fits] at h
  | m :: ms,a :: as,h => by
    have : fits ms as = true := by cases m <;> cases a <;> first | exact h | simp [fits] at h
    simp [fits_length this]
structure FunOk (P : Program) (N : Nm) (fn : AFun) (func : Func) (c : Code) : Prop where
  ntmps : fn.params.length ≤ func.ntmps
  code : CodeOk P N func.ntmps fn.roots (ioIdx 0 fn.params) fn.body c
  res : okRess P fn.results func.results.toList = true
  nd : (fn.results.map ARes.root).Nodup
  sep : ∀ r ∈ fn.results.map ARes.root,∀ i ∈ ioIdx 0 fn.params,r ≠ .box i
structure Linked (P : Program) (N : Nm) (T : Tab) : Prop where
  mixed : P.follows .mixedOrders = true
  ask : Asks P N T
  prim : ∀ f p,T.prim f = some p → ∀ as cr,p as = some cr → Meets P N f as cr
  fn : ∀ f fn,T.prim f = none → T.fn f = some fn → ∃ func c,P.funcs[N.f f]? = some func ∧ func.body = some c ∧ FunOk P N fn func c
  enter : ∀ f,(T.prim f).isSome ∨ (T.fn f).isSome → ∀ vs w,(callFunc (N.f f) vs).run P w = .ok (.enter (N.f f) vs) w
section
variable {P : Program} {N : Nm} {F : Fx} {S S0 : Nat → Prop} {s : GS} {st : St} {a : Act} {w w0 : World}
theorem outs_ok (R : Rel N F S s st a w) : ∀ {as : List Arg} {vs : List Value} {lx : List Nat} {i : Nat} {ms : List PMode} {os : List (List Cell)},ArgsOk N w0 S0 as vs lx → fits ms as = true →
    (∀ k ∈ ioIdx i ms,a.tmps.getD k undef = vs.getD (k - i) undef) → outs st i as = some os →
    ∃ lo,OutsOk N w S as vs os lo ∧ lo.Nodup ∧ ∀ x ∈ lo,∃ k ∈ ioIdx i ms,x ∈ s.fp (.box k)
  | _,_,_,i,ms,os,.nil,hf,hv,h => by
    simp only [outs,Option.some.injEq] at h
    subst h
    exact ⟨[],.nil,List.nodup_nil,by simp⟩
  | _,_,_,i,[],os,.cons _ _,hf,_,_ => by simp [fits] at hf
  | _,_,_,i,m :: ms,os,.cons (x := x) (v := v) (xs := xs) (vs := vs) hx hxs,hf,hv,h => by
    have hf' : fits ms xs = true := by cases m <;> cases x <;> first | exact hf | simp [fits] at hf
    have hvr : ∀ k ∈ ioIdx (i + 1) ms,a.tmps.getD k undef = (v :: vs).getD (k - i) undef → a.tmps.getD k undef = vs.getD (k - (i + 1)) undef := fun k hk e => by
      have := ioIdx_le hk
      have e2 : k - i = (k - (i + 1)) + 1 := by omega
      rw [e2,List.getD_cons_succ] at e
      exact e
    cases hx with
    | val av _ hvr0 =>
      have hm : ioIdx i (m :: ms) = ioIdx (i + 1) ms := by cases m <;> first | rfl | simp [fits] at hf
      rw [hm] at hv ⊢
      simp only [outs] at h
      obtain ⟨lo,h1,h2,h3⟩ := outs_ok R hxs hf' (fun k hk => hvr k hk (hv k hk)) h
      exact ⟨lo,.val h1,h2,h3⟩
    | mv gs g _ _ =>
      have hm : ioIdx i (m :: ms) = ioIdx (i + 1) ms := by cases m <;> first | rfl | simp [fits] at hf
      rw [hm] at hv ⊢
      simp only [outs] at h
      obtain ⟨lo,h1,h2,h3⟩ := outs_ok R hxs hf' (fun k hk => hvr k hk (hv k hk)) h
      exact ⟨lo,.mv h1,h2,h3⟩
    | io gs0 b e0 hb0 hok0 =>
      have hm : ∃ n,m = .io n := by cases m <;> first | exact ⟨_,rfl⟩ | simp [fits] at hf
      obtain ⟨n,rfl⟩ := hm
      simp only [ioIdx] at hv ⊢
      simp only [outs] at h
      split at h
      · rename_i k cs l hp hbx hl
        split at h
        · rename_i hk
          obtain ⟨rfl,hlen⟩ := hk
          simp only [Option.some.injEq] at h
          subst h
          obtain ⟨lo,h1,h2,h3⟩ := outs_ok R hxs hf' (fun j hj => hvr j hj (hv j (List.mem_cons_of_mem _ hj))) hl
          have hbox := R.er.box k
          rw [hbx] at hbox
          cases hβ : s.β k with
          | none => rw [hβ] at hbox; cases hbox
          | some z =>
            obtain ⟨b',e',gs⟩ := z
            rw [hβ] at hbox
            simp only [Option.some.injEq] at hbox
            obtain ⟨m1,bb,base,r0,_,g1,g2,_,g4⟩ := R.opd_plc (x := .t k) (y := .tmp k) (by simp [okO]) hp
            have hev : a.tmps.getD k undef = .pointer (some ⟨b,0,none⟩) := by
              rw [hv k (by simp)]; simp
            simp only [Act.eval] at g4
            rw [g4] at hev
            simp only [GS.loc,GS.root,hβ,locRow,Option.map_some,Option.some.injEq,Prod.mk.injEq] at g2
            obtain ⟨⟨rfl,rfl⟩,rfl⟩ := g2
            simp only [Value.pointer.injEq,Option.some.injEq,Addr.mk.injEq,and_true] at hev
            obtain ⟨rfl,_⟩ := hev
            obtain ⟨k1,k2⟩ := R.inv.box k b e' gs hβ
            have hfp : s.fp (.box k) = b :: blocksRow gs := by simp [GS.fp,hβ]
            refine ⟨b :: blocksRow gs ++ lo,by rw [← hbox]; exact .io gs e' k1 k2 (by rw [← hlen,← hbox,cellRow_length]) h1,?_,fun x hx => ?_⟩
            · refine List.nodup_append.2 ⟨by rw [← hfp]; exact R.inv.nodup _,h2,fun x hx y hy e => ?_⟩
              subst e
              obtain ⟨j,hj,hxj⟩ := h3 x hy
              have := R.inv.apart (.box k) (.box j) x (by rw [hfp]; exact hx) hxj
              simp only [Root.box.injEq] at this
              have := ioIdx_le hj
              omega
            · rcases List.mem_append.1 hx with hx | hx
              · exact ⟨k,by simp,by rw [hfp]; exact hx⟩
              · obtain ⟨j,hj,hxj⟩ := h3 x hx
                exact ⟨j,List.mem_cons_of_mem _ hj,hxj⟩
        · cases h
      · cases h
theorem results_eq (func : Func) (tmps : Array Value) : Go.results func tmps = (do
    let vs ← func.results.mapM (resRun tmps)
    pure (if h : vs.size = 1 then vs[0] else .tuple vs)) := by
  unfold Go.results
  rfl
theorem resultsRun {func : Func} {tmps : Array Value} {L : List (List GC × Bool)} (h : (func.results.toList.mapM (resRun tmps)).run P w = .ok (L.map fun x => cval x.2 x.1) w) :
    (Go.results func tmps).run P w = .ok (resVal L) w := by
  rw [results_eq,Array.mapM_eq_mapM_toList]
  simp only [Sem.run_bind,Sem.run_map,h]
  simp only [Result.andThen_ok,Sem.run_pure]
  cases L with
  | nil => rfl
  | cons x L => cases L with
    | nil => rfl
    | cons y L => simp [resVal]
theorem ArgsOk.length {S : Nat → Prop} {as : List Arg} {vs : List Value} {lx : List Nat} (h : ArgsOk N w S as vs lx) : vs.length = as.length := by
  induction h with
  | nil => rfl
  | cons _ _ ih => simp [ih]
theorem frm_refl (X : Nat → Prop) (w : World) : Frm X w w := ⟨rfl,rfl,rfl,Nat.le_refl _,fun _ _ _ => rfl⟩
theorem sim_callF {T : Tab} (K : Linked P N T) : ∀ n,Called P N T n := by
  intro n
  induction n with
  | zero => intro g as cr h; simp [callF] at h
  | succ n IH =>
    intro f as cr h
    refine ⟨?_,K.enter f ?_⟩
    rotate_left
    · rw [callF] at h
      cases hp : T.prim f with
      | some p => exact .inl rfl
      | none =>
        rw [hp] at h
        simp only at h
        cases hf : T.fn f with
        | none => rw [hf] at h; cases h
        | some fn => exact .inr rfl
    rw [callF] at h
    cases hp : T.prim f with
    | some p =>
      rw [hp] at h
      exact K.prim f p hp as cr h
    | none =>
      rw [hp] at h
      simp only at h
      cases hf : T.fn f with
      | none => rw [hf] at h; cases h
      | some fn =>
        rw [hf] at h
        simp only at h
        obtain ⟨func,c,hfu,hbo,ok⟩ := K.fn f fn hp hf
        split at h
        · cases h
        · rename_i hfit
          have hfit : fits fn.params as = true := by simpa using hfit
          have hlen := fits_length hfit
          -- both ways to end
          have key : ∀ (e : Ex) (st : St),(e = .norm ∨ e = .ret) → exec T n fn.body ⟨lstE (entry 0 as).1,lstB (entry 0 as).2⟩ = some (e,st) →
              (match results st fn.results,outs st 0 as with | some l,some o => some ⟨l,o⟩ | _,_ => none) = some cr → Meets P N f as cr := by
            intro e st he hex hres w S vs lx A hnd hfree hlt hglob
            split at hres
            · rename_i l os hr ho
              simp only [Option.some.injEq] at hres
              subst hres
              have hvl : vs.length = as.length := A.length
              obtain ⟨s,E⟩ := entry_ok A hnd 0
              have htm : ∀ k,(vs.toArray ++ Array.replicate (func.ntmps - vs.toArray.size) undef).getD k undef = vs.getD k undef := fun k => by
                simp only [Array.getD_eq_getD_getElem?,Array.getElem?_append,List.size_toArray,List.getElem?_toArray,Array.getElem?_replicate,List.getD_eq_getElem?_getD]
                by_cases hk : k < vs.length
                · rw [if_pos hk]
                · rw [if_neg hk,List.getElem?_eq_none (Nat.le_of_not_lt hk)]
                  split <;> rfl
              refine calls_of_wp (fn := func) (c := c) hfu hbo ?_
              let F : Fx := ⟨w,(· ∈ lx),S,fn.roots,ioIdx 0 fn.params,func.ntmps⟩
              have R : Rel N F S s ⟨lstE (entry 0 as).1,lstB (entry 0 as).2⟩ { tmps := vs.toArray ++ Array.replicate (func.ntmps - vs.toArray.size) undef,defers := [] } w := by
                refine ⟨⟨E.ok,E.mem,fun r => (E.nodup r).1,E.apart,fun r x hx => ⟨hfree x ((E.nodup r).2 x hx),.inr ((E.nodup r).2 x hx)⟩,fun x hx => ⟨hlt x hx,.inl hx⟩,frm_refl _ _,fun k p hp n hn => ?_,hglob⟩,
                  ⟨E.tv,E.box⟩,fun k => ?_,?_,rfl⟩
                · rw [E.place k p hp] at hn; cases hn
                · rw [E.val k,if_neg (Nat.not_lt_zero k),Nat.sub_zero]; exact htm k
                · have := ok.ntmps
                  simp
                  show _ = func.ntmps
                  omega
              refine sim_exec K.mixed K.ask n fn.body c S s _ st _ w e _ ok.code R IH hex (fun ch a' w' => ?_) fun a' w' S' s' hU R' => ?_
              · rintro ⟨_,v,S',L,lo,hv,_⟩
                cases hv
              obtain ⟨L,e1,e2,e3,e4,e5⟩ := resultOk R' hr ok.res ok.nd
              obtain ⟨lo,o1,o2,o3⟩ := outs_ok R' (i := 0) (ms := fn.params) A hfit (fun k hk => by
                rw [hU.pin k hk,Nat.sub_zero]; exact htm k) ho
              have hmine : ∀ x,(∃ r,x ∈ s'.fp r) → ¬ S' x ∧ (w.heap.size ≤ x ∨ x ∈ lx) := fun x ⟨r,hx⟩ => R'.inv.mine r x hx
              have hpost : a'.defers = [] ∧ ∃ v,(Go.results func a'.tmps).run P w' = .ok v w' ∧ ∃ v1 S1 L1 lo1,Ending.returned v = .returned v1 ∧ Left N w S as vs lx ⟨l,os⟩ v1 w' S1 L1 lo1 := by
                refine ⟨R'.dfr,resVal L,resultsRun e3,resVal L,S',L,lo,rfl,⟨hU.sub,fun x hx => ?_,R'.inv.imm,R'.inv.frm,e1,e2,rfl,o1,?_,fun x hx => ?_⟩⟩
                · exact (R'.inv.immB x hx).2
                · refine List.nodup_append.2 ⟨e4,o2,fun x hx y hy hxy => ?_⟩
                  subst hxy
                  obtain ⟨r,hr',hxr⟩ := e5 x hx
                  obtain ⟨k,hk,hxk⟩ := o3 x hy
                  exact ok.sep r hr' k hk (R'.inv.apart r (.box k) x hxr hxk)
                · rcases List.mem_append.1 hx with hx | hx
                  · obtain ⟨r,_,hxr⟩ := e5 x hx
                    exact hmine x ⟨r,hxr⟩
                  · obtain ⟨k,_,hxk⟩ := o3 x hx
                    exact hmine x ⟨_,hxk⟩
              rcases he with rfl | rfl
              · exact hpost
              · exact hpost
            · cases hres
          split at h
          · rename_i st hex; exact key .norm st (.inl rfl) hex h
          · rename_i st hex; exact key .ret st (.inr rfl) hex h
          · cases h
end
end Hm
/- The tie of cleaned code to a program, decided by the kernel. Conditions: none (definitions and plain lemmas). -/
namespace Hm
open Go
def subB (l X : List Nat) : Bool := l.all X.contains
theorem subB_ok {l X : List Nat} (h : subB l X = true) : ∀ i ∈ l,i ∈ X := fun i hi => by
  have := List.all_eq_true.1 h i hi
  simpa using this
def ndB : List Nat → Bool
  | [] => true
  | x :: r => !r.contains x && ndB r
theorem ndB_ok : ∀ {l : List Nat},ndB l = true → l.Nodup
  | [],_ => List.nodup_nil
  | x :: r,h => by
    simp only [ndB,Bool.and_eq_true,Bool.not_eq_true'] at h
    exact List.nodup_cons.2 ⟨by simpa using h.1,ndB_ok h.2⟩
def ancRow (ops : Array Oper) (A : List Nat) (i : Nat) : Nat := (prd ops i).foldl (fun m l => m ||| 2 ^ l ||| A.getD l 0) 0
def ancs (ops : Array Oper) : Nat → List Nat
  | 0 => []
  | n + 1 => let A := ancs ops n; A ++ [ancRow ops A n]
theorem foldl_bit (A : List Nat) (j : Nat) : ∀ (l : List Nat) (m : Nat),(l.foldl (fun m l => m ||| 2 ^ l ||| A.getD l 0) m).testBit j = true → m.testBit j = true ∨ ∃ k ∈ l,j = k ∨ (A.getD k 0).testBit j = true
  | [],m,h => .inl h
  | k :: l,m,h => by
    rcases foldl_bit A j l _ h with h | ⟨k',hk',h⟩
    · simp only [Nat.testBit_or,Bool.or_eq_true] at h
      rcases h with (h | h) | h
      · exact .inl h
      · rw [Nat.testBit_two_pow] at h
        exact .inr ⟨k,by simp,.inl (by simpa using h : k = j).symm⟩
      · exact .inr ⟨k,by simp,.inr h⟩
    · exact .inr ⟨k',List.mem_cons_of_mem _ hk',h⟩
theorem ancs_length (ops : Array Oper) : ∀ n,(ancs ops n).length = n
  | 0 => rfl
  | n + 1 => by simp [ancs,ancs_length ops n]
theorem ancs_ok (ops : Array Oper) : ∀ (n i j : Nat),((ancs ops n).getD i 0).testBit j = true → Anc ops j i
  | 0,i,j,h => by simp [ancs] at h
  | n + 1,i,j,h => by
    simp only [ancs,List.getD_eq_getElem?_getD] at h
    by_cases hi : i < n
    · rw [List.getElem?_append_left (by rw [ancs_length]; exact hi)] at h
      exact ancs_ok ops n i j (by rw [List.getD_eq_getElem?_getD]; exact h)
    · by_cases hn : i = n
      · subst hn
        rw [List.getElem?_append_right (by rw [ancs_length]; exact Nat.le_refl _),ancs_length,Nat.sub_self] at h
        simp only [List.getElem?_cons_zero,Option.getD_some,ancRow] at h
        rcases foldl_bit _ _ _ _ h with h | ⟨k,hk,h⟩
        · simp at h
        · rcases h with rfl | h
          · exact .one hk
          · exact .more (ancs_ok ops i k j h) hk
      · rw [List.getElem?_eq_none (by simp [ancs_length]; omega)] at h
        simp at h
def ancB (A : List Nat) (j i : Nat) : Bool := (A.getD i 0).testBit j
def ordB (ops : Array Oper) : List Nat → List (Nat × AO) → Bool
  | _,[] => true
  | X,x :: q => subB (prd ops x.1) X && ordB ops (x.1 :: X) q
def okBag (P : Program) (N : Nm) (nt : Nat) (roots pins : List Nat) (ops : Array Oper) (A base es : List Nat) (bag : List (Nat × AO)) : Bool :=
  ndB (bag.map (·.1)) && bag.all (fun x => !base.contains x.1) && bag.all (fun x => match ops[x.1]? with | some o => okAO P N nt roots pins ops x.2 o | none => false) &&
  bag.all (fun x => match x.2.dst with | some d => !x.2.slots.contains d | none => x.2.guard.isNone && x.2.sbx.isSome) && bag.all (fun x => bag.all fun y => x.1 == y.1 || x.2.dst.isNone || x.2.dst != y.2.dst) &&
  bag.all (fun x => bag.all fun y => x.1 == y.1 || x.2.sbx.isNone || x.2.sbx != y.2.sbx) && bag.all (fun x => bag.all fun y => x.2.dst.isNone || y.2.sbx.isNone || x.2.dst != y.2.sbx || ancB A x.1 y.1) &&
  bag.all (fun x => match x.2.dst with
    | some d => bag.all fun y => x.1 == y.1 || !y.2.slots.contains d || ancB A x.1 y.1 || (ancB A y.1 x.1 && !es.contains d)
    | none => true) &&
  es.all (fun k => let r := bag.filter fun x => x.2.slots.contains k; r.all fun x => r.all fun y => x.1 == y.1) && ordB ops base bag
theorem ordB_ok {ops : Array Oper} : ∀ {X : List Nat} {l : List (Nat × AO)},ordB ops X l = true → ∀ p x q,l = p ++ x :: q → ∀ i ∈ prd ops x.1,i ∈ X ∨ i ∈ p.map (·.1)
  | X,[],_,p,x,q,h => by simp at h
  | X,y :: l,h,p,x,q,e => by
    simp only [ordB,Bool.and_eq_true] at h
    intro i hi
    cases p with
    | nil =>
      simp only [List.nil_append,List.cons.injEq] at e
      obtain ⟨rfl,rfl⟩ := e
      exact .inl (subB_ok h.1 i hi)
    | cons z p =>
      simp only [List.cons_append,List.cons.injEq] at e
      obtain ⟨rfl,rfl⟩ := e
      rcases ordB_ok h.2 p x q rfl i hi with h' | h'
      · rcases List.mem_cons.1 h' with rfl | h'
        · exact .inr (by simp)
        · exact .inl h'
      · exact .inr (by simp only [List.map_cons,List.mem_cons]; exact .inr h')
section
variable {P : Program} {N : Nm} {nt : Nat} {roots pins : List Nat} {ops : Array Oper} {base es hs : List Nat} {bag : List (Nat × AO)} {n : Nat}
theorem okBag_ok (h : okBag P N nt roots pins ops (ancs ops n) base es bag = true) (hcl : ∀ j ∈ base,∀ i ∈ prd ops j,i ∈ base) : BagOk P N nt roots pins ops base es bag := by
  simp only [okBag,Bool.and_eq_true,List.all_eq_true] at h
  obtain ⟨⟨⟨⟨⟨⟨⟨⟨⟨h1,h2⟩,h3⟩,h4⟩,h5⟩,h5a⟩,h5b⟩,h6⟩,h7⟩,h8⟩ := h
  refine ⟨ndB_ok h1,fun x hx => by simpa using h2 x hx,fun x hx => ?_,fun x hx => ?_,fun x hx y hy d e e' => ?_,fun x hx y hy d e e' => ?_,fun x hx y hy d e e' => ?_,fun x hx y hy hne d hd hs => ?_,fun x hx y hy hne k hk hkx hky => ?_,ordB_ok h8,hcl⟩
  · have := h3 x hx
    split at this
    · rename_i o ho; exact ⟨o,ho,this⟩
    · cases this
  · have := h4 x hx
    split at this
    · rename_i d hd; exact .inl ⟨d,hd,by simpa using this⟩
    · rename_i hd
      simp only [Bool.and_eq_true,Option.isNone_iff_eq_none] at this
      exact .inr ⟨hd,this.1,Option.isSome_iff_exists.1 this.2⟩
  · have := h5 x hx y hy
    simp only [e,e',Option.isNone_some,Bool.or_eq_true,beq_iff_eq,bne_iff_ne,Bool.or_false] at this
    exact this.resolve_right fun h => h rfl
  · have := h5a x hx y hy
    simp only [e,e',Option.isNone_some,Bool.or_eq_true,beq_iff_eq,bne_iff_ne,Bool.or_false] at this
    exact this.resolve_right fun h => h rfl
  · have := h5b x hx y hy
    simp only [e,e',Option.isNone_some,Bool.or_eq_true,bne_iff_ne,Bool.or_false,Bool.false_or] at this
    exact ancs_ok ops n _ _ (this.resolve_left fun h => h rfl)
  · have := h6 x hx
    rw [hd] at this
    simp only [List.all_eq_true] at this
    have := this y hy
    simp only [Bool.or_eq_true,beq_iff_eq,Bool.and_eq_true,Bool.not_eq_true'] at this
    rcases this with ((h | h) | h) | h
    · exact absurd h hne
    · rw [← List.contains_iff_mem,h] at hs; cases hs
    · exact .inl (ancs_ok ops n _ _ h)
    · exact .inr ⟨ancs_ok ops n _ _ h.1,by simpa using h.2⟩
  · have := h7 k hk x (List.mem_filter.2 ⟨hx,by simpa using hkx⟩) y (List.mem_filter.2 ⟨hy,by simpa using hky⟩)
    exact hne (by simpa using this)
def grow1 (ops : Array Oper) (base hs : List Nat) (bag : List (Nat × AO)) (K : List Nat) : List Nat :=
  (bag.filter fun x => !K.contains x.1 && (K.any (fun j => (prd ops j).contains x.1) || (hs.contains x.1 && (prd ops x.1).all fun i => base.contains i || K.contains i))).map (·.1) ++ K
def growN (ops : Array Oper) (base hs : List Nat) (bag : List (Nat × AO)) : Nat → List Nat → List Nat
  | 0,K => K
  | m + 1,K => growN ops base hs bag m (grow1 ops base hs bag K)
def okHoist (ops : Array Oper) (A base hs : List Nat) (bag : List (Nat × AO)) : Bool :=
  bag.all (fun x => !hs.contains x.1 || x.2.op.pure) &&
  hs.all (fun i => match ops[i]? with
    | some oi => (List.range ops.size).all fun j => j == i || base.contains j || ancB A j i || (prd ops j).contains i || (match ops[j]? with | some oj => oi.apart ops oj | none => true)
    | none => true) &&
  (List.range ops.size).all (fun k => base.contains k || bag.any (fun x => x.1 == k) || bag.all (fun x => ancB A x.1 k) ||
    (let K := growN ops base hs bag bag.length ((bag.filter fun x => ancB A x.1 k).map (·.1)); bag.all fun x => K.contains x.1))
theorem okHoist_ok (h : okHoist ops (ancs ops n) base hs bag = true) (hf : ∀ x ∈ bag,x.1 ∉ base) : HoistOk ops base hs bag := by
  simp only [okHoist,Bool.and_eq_true,List.all_eq_true] at h
  obtain ⟨⟨h1,h2⟩,h3⟩ := h
  refine ⟨fun x hx hs' => ?_,fun i hi oi hoi j oj hoj hne hb ha hp => ?_,fun X hX hcl hsat k hk hkb hkn hkp x hx => ?_⟩
  · have := h1 x hx
    simp only [Bool.or_eq_true,Bool.not_eq_true'] at this
    exact this.resolve_left fun h => by rw [← List.contains_iff_mem,h] at hs'; cases hs'
  · have := h2 i hi
    rw [hoi] at this
    simp only [List.all_eq_true] at this
    have := this j (List.mem_range.2 (Array.getElem?_eq_some_iff.1 hoj).1)
    rw [hoj] at this
    simp only [Bool.or_eq_true,beq_iff_eq] at this
    rcases this with (((h | h) | h) | h) | h
    · exact absurd h hne
    · exact absurd (by simpa using h) hb
    · exact absurd (ancs_ok ops n _ _ h) ha
    · exact absurd (by simpa using h) hp
    · exact h
  · have hanc : ∀ x ∈ bag,ancB (ancs ops n) x.1 k = true → x.1 ∈ X := fun x hx ha =>
      ((ancs_ok ops n _ _ ha).closed (X := fun j => j ∈ base ∨ j ∈ X) hcl hkp).resolve_left (hf x hx)
    have := h3 k (List.mem_range.2 hk)
    simp only [Bool.or_eq_true,List.all_eq_true,List.any_eq_true,beq_iff_eq] at this
    rcases this with ((h | ⟨y,hy,rfl⟩) | h) | h
    · exact absurd (by simpa using h) hkb
    · exact absurd (List.mem_map_of_mem (f := (·.1)) hy) hkn
    · exact hanc x hx (h x hx)
    · have step : ∀ m K,(∀ i ∈ K,i ∈ X) → ∀ i ∈ growN ops base hs bag m K,i ∈ X := by
        intro m
        induction m with
        | zero => intro K hK i hi; exact hK i hi
        | succ m ih =>
          intro K hK
          refine ih _ fun i hi => ?_
          simp only [grow1,List.mem_append,List.mem_map,List.mem_filter,Bool.and_eq_true,Bool.or_eq_true,List.any_eq_true,List.all_eq_true] at hi
          rcases hi with ⟨y,⟨hy,_,hyk⟩,rfl⟩ | hi
          · rcases hyk with ⟨j,hj,hjy⟩ | ⟨hys,hyp⟩
            · exact (hcl j (.inr (hK j hj)) y.1 (by simpa using hjy)).resolve_left (hf y hy)
            · apply Classical.byContradiction
              intro hyX
              refine hsat y hy (by simpa using hys) hyX fun i hi => ?_
              rcases hyp i hi with h' | h'
              · exact .inl (by simpa using h')
              · exact .inr (hK i (by simpa using h'))
          · exact hK i hi
      refine step _ _ (fun i hi => ?_) x.1 (by simpa using h x hx)
      simp only [List.mem_map,List.mem_filter] at hi
      obtain ⟨y,⟨hy,ha⟩,rfl⟩ := hi
      exact hanc y hy ha
def oneB (ops : Array Oper) (base : List Nat) (i j : Nat) : Bool := (List.range ops.size).all fun k => base.contains k || k == i || k == j || !subB (prd ops k) base
theorem oneB_ok {ops : Array Oper} {base : List Nat} {i j : Nat} (h : oneB ops base i j = true) : ∀ k,k < ops.size → k ∉ base → (∀ x ∈ prd ops k,x ∈ base) → k = i ∨ k = j := by
  intro k hk hkb hkp
  simp only [oneB,List.all_eq_true] at h
  have := h k (List.mem_range.2 hk)
  simp only [Bool.or_eq_true,beq_iff_eq,Bool.not_eq_true'] at this
  rcases this with ((h | h) | h) | h
  · exact absurd (by simpa using h) hkb
  · exact .inl h
  · exact .inr h
  · exfalso
    have : subB (prd ops k) base = true := by
      rw [subB,List.all_eq_true]
      exact fun x hx => by simpa using hkp x hx
    rw [this] at h; cases h
def okPhs (P : Program) (N : Nm) (nt : Nat) (roots pins : List Nat) (ops : Array Oper) (A : List Nat) : List Nat → List Ph → Bool
  | base,[] => (List.range ops.size).all base.contains
  | base,.one i ao :: r => !base.contains i && (match ops[i]? with | some o => okAO P N nt roots pins ops ao o | none => false) && subB (prd ops i) base &&
      (List.range ops.size).all (fun k => base.contains k || k == i || !subB (prd ops k) base) && okPhs P N nt roots pins ops A (i :: base) r
  | base,.pair i ao j ao' :: r => !base.contains i && !(i :: base).contains j && (match ops[i]?,ops[j]? with | some o,some o' => okAO P N nt roots pins ops ao o && okAO P N nt roots pins ops ao' o' | _,_ => false) && subB (prd ops i) base && subB (prd ops j) base &&
      oneB ops base i j && oneB ops (i :: base) j j && oneB ops (j :: base) i i && okPhs P N nt roots pins ops A (j :: i :: base) r
  | base,.bag _ hs es bag :: r => okBag P N nt roots pins ops A base es bag && okHoist ops A base hs bag && okPhs P N nt roots pins ops A (bag.map (·.1) ++ base) r
  | base,.bagS _ hs es bag :: r => okBag P N nt roots pins ops A base es bag && okHoist ops A base hs bag && okPhs P N nt roots pins ops A (bag.map (·.1) ++ base) r
theorem okPhs_ok : ∀ {phs : List Ph} {base : List Nat},okPhs P N nt roots pins ops (ancs ops n) base phs = true → (∀ j ∈ base,∀ i ∈ prd ops j,i ∈ base) → PhsOk P N nt roots pins ops base phs
  | [],base,h,_ => .nil fun j hj => by
    simp only [okPhs,List.all_eq_true] at h
    simpa using h j (List.mem_range.2 hj)
  | .one i ao :: r,base,h,hcl => by
    simp only [okPhs,Bool.and_eq_true,Bool.not_eq_true',List.all_eq_true] at h
    obtain ⟨⟨⟨⟨h1,h2⟩,h3⟩,h4⟩,h5⟩ := h
    split at h2
    · rename_i o ho
      refine .one ho h2 (by simpa using h1) (subB_ok h3) (fun k hk hkb hkp => ?_) (okPhs_ok h5 fun j hj i' hi => ?_)
      · have := h4 k (List.mem_range.2 hk)
        simp only [Bool.or_eq_true,beq_iff_eq,Bool.not_eq_true'] at this
        rcases this with (h | h) | h
        · exact absurd (by simpa using h) hkb
        · exact h
        · exfalso
          have : subB (prd ops k) base = true := by
            rw [subB,List.all_eq_true]
            exact fun x hx => by simpa using hkp x hx
          rw [this] at h; cases h
      · rcases List.mem_cons.1 hj with rfl | hj
        · exact List.mem_cons_of_mem _ (subB_ok h3 i' hi)
        · exact List.mem_cons_of_mem _ (hcl j hj i' hi)
    · cases h2
  | .pair i ao j ao' :: r,base,h,hcl => by
    simp only [okPhs,Bool.and_eq_true,Bool.not_eq_true'] at h
    obtain ⟨⟨⟨⟨⟨⟨⟨⟨h1,h2⟩,h3⟩,h4⟩,h5⟩,h6⟩,h7⟩,h8⟩,h9⟩ := h
    split at h3
    · rename_i o o' ho ho'
      simp only [Bool.and_eq_true] at h3
      refine .pair ho ho' h3.1 h3.2 (by simpa using h1) (by simpa using h2) (subB_ok h4) (subB_ok h5) (oneB_ok h6) (fun k a b c => (oneB_ok h7 k a b c).elim id id) (fun k a b c => (oneB_ok h8 k a b c).elim id id) (okPhs_ok h9 fun k hk x hx => ?_)
      rcases List.mem_cons.1 hk with rfl | hk
      · exact List.mem_cons_of_mem _ (List.mem_cons_of_mem _ (subB_ok h5 x hx))
      · rcases List.mem_cons.1 hk with rfl | hk
        · exact List.mem_cons_of_mem _ (List.mem_cons_of_mem _ (subB_ok h4 x hx))
        · exact List.mem_cons_of_mem _ (List.mem_cons_of_mem _ (hcl k hk x hx))
    · cases h3
  | .bag hu hs es bag :: r,base,h,hcl => by
    simp only [okPhs,Bool.and_eq_true] at h
    obtain ⟨⟨h1,h2⟩,h3⟩ := h
    have B := okBag_ok h1 hcl
    refine .bag B (okHoist_ok h2 B.fresh) (okPhs_ok h3 fun j hj i hi => ?_)
    rw [List.mem_append] at hj ⊢
    exact (B.pre_closed (p := bag) (q := []) (by simp) j hj.symm i hi).symm
  | .bagS ss hs es bag :: r,base,h,hcl => by
    simp only [okPhs,Bool.and_eq_true] at h
    obtain ⟨⟨h1,h2⟩,h3⟩ := h
    have B := okBag_ok h1 hcl
    refine .bagS B (okHoist_ok h2 B.fresh) (okPhs_ok h3 fun j hj i hi => ?_)
    rw [List.mem_append] at hj ⊢
    exact (B.pre_closed (p := bag) (q := []) (by simp) j hj.symm i hi).symm
def okAOs (P : Program) (N : Nm) (nt : Nat) (roots pins : List Nat) (ops : Array Oper) : List AO → List Oper → Bool
  | [],[] => true
  | x :: r,y :: s => okAO P N nt roots pins ops x y && okAOs P N nt roots pins ops r s
  | _,_ => false
theorem okAOs_ok : ∀ {aos : List AO} {l : List Oper},okAOs P N nt roots pins ops aos l = true → aos.length = l.length ∧ ∀ (j : Nat) (ao : AO) (o : Oper),aos[j]? = some ao → l[j]? = some o → okAO P N nt roots pins ops ao o = true
  | [],[],_ => ⟨rfl,by simp⟩
  | [],_ :: _,h => by simp [okAOs] at h
  | _ :: _,[],h => by simp [okAOs] at h
  | x :: r,y :: s,h => by
    simp only [okAOs,Bool.and_eq_true] at h
    obtain ⟨h1,h2⟩ := okAOs_ok h.2
    refine ⟨by simp [h1],fun j ao o hj ho => ?_⟩
    cases j with
    | zero => simp only [List.getElem?_cons_zero,Option.some.injEq] at hj ho; subst hj; subst ho; exact h.1
    | succ j => exact h2 j ao o (by simpa using hj) (by simpa using ho)
def okCode (P : Program) (N : Nm) (nt : Nat) (roots pins : List Nat) : AC → Code → Bool
  | .skip,.skip => true
  | .reg aos _,.region _ ops false => okAOs P N nt roots pins ops aos ops.toList
  | .dreg phs _,.region _ ops true => Region.noSelect ops && okPhs P N nt roots pins ops (ancs ops ops.size) [] phs
  | .seq a b,.seq c d => okCode P N nt roots pins a c && okCode P N nt roots pins b d
  | .cond x a b,.cond y c d => okO N x y && okCode P N nt roots pins a c && okCode P N nt roots pins b d
  | .block i a,.block j c => i == j && okCode P N nt roots pins a c
  | .loop _ a,.loop c => okCode P N nt roots pins a c
  | .exit i,.exit j => i == j
  | .ret,.ret => true
  | .ask f d d0 d1 _ tP e m _,.region _ ops false => okAsk P N nt roots pins f d d0 d1 tP e m ops
  | .fail,_ => true
  | _,_ => false
theorem okCode_ok : ∀ {a : AC} {c : Code},okCode P N nt roots pins a c = true → CodeOk P N nt roots pins a c := by
  intro a
  induction a with
  | skip => intro c h; cases c <;> simp [okCode] at h; exact .skip
  | reg aos K =>
    intro c h
    cases c with
    | region id ops d =>
      cases d with
      | false =>
        simp only [okCode] at h
        obtain ⟨h1,h2⟩ := okAOs_ok h
        exact .reg (by simpa using h1) fun j ao o hj ho => h2 j ao o hj (by simpa using ho)
      | true => simp [okCode] at h
    | _ => simp [okCode] at h
  | dreg phs K =>
    intro c h
    cases c with
    | region id ops d =>
      cases d with
      | true =>
        simp only [okCode,Bool.and_eq_true] at h
        exact .dreg h.1 (okPhs_ok h.2 (by simp))
      | false => simp [okCode] at h
    | _ => simp [okCode] at h
  | seq a b iha ihb =>
    intro c h
    cases c with
    | seq c d =>
      simp only [okCode,Bool.and_eq_true] at h
      exact .seq (iha h.1) (ihb h.2)
    | _ => simp [okCode] at h
  | cond x a b iha ihb =>
    intro c h
    cases c with
    | cond y c d =>
      simp only [okCode,Bool.and_eq_true] at h
      exact .cond h.1.1 (iha h.1.2) (ihb h.2)
    | _ => simp [okCode] at h
  | block i a iha =>
    intro c h
    cases c with
    | block j c =>
      simp only [okCode,Bool.and_eq_true,beq_iff_eq] at h
      obtain ⟨rfl,h⟩ := h
      exact .block (iha h)
    | _ => simp [okCode] at h
  | loop K a iha =>
    intro c h
    cases c with
    | loop c => simp only [okCode] at h; exact .loop (iha h)
    | _ => simp [okCode] at h
  | exit i =>
    intro c h
    cases c with
    | exit j => simp only [okCode,beq_iff_eq] at h; subst h; exact .exit
    | _ => simp [okCode] at h
  | ret => intro c h; cases c <;> simp [okCode] at h; exact .ret
  | ask f d d0 d1 tE tP e m K =>
    intro c h
    cases c with
    | region id ops dr =>
      cases dr with
      | false => exact .ask h
      | true => simp [okCode] at h
    | _ => simp [okCode] at h
  | fail => intro c h; exact .fail
def Root.eqB : Root → Root → Bool
  | .box a,.box b => a == b
  | .slot a,.slot b => a == b
  | _,_ => false
theorem Root.eqB_iff (a b : Root) : Root.eqB a b = true ↔ a = b := by cases a <;> cases b <;> simp [Root.eqB]
def ndR : List Root → Bool
  | [] => true
  | x :: r => !r.any (Root.eqB x) && ndR r
theorem ndR_ok : ∀ {l : List Root},ndR l = true → l.Nodup
  | [],_ => List.nodup_nil
  | x :: r,h => by
    simp only [ndR,Bool.and_eq_true,Bool.not_eq_true',List.any_eq_false] at h
    exact List.nodup_cons.2 ⟨fun hx => h.1 x hx ((Root.eqB_iff x x).2 rfl),ndR_ok h.2⟩
def okFun (P : Program) (N : Nm) (fn : AFun) (func : Func) : Bool :=
  decide (fn.params.length ≤ func.ntmps) && okRess P fn.results func.results.toList && ndR (fn.results.map ARes.root) && (ioIdx 0 fn.params).all (fun i => !(fn.results.map ARes.root).any (Root.eqB (.box i))) &&
  (match func.body with
  | some c => okCode P N func.ntmps fn.roots (ioIdx 0 fn.params) fn.body c
  | none => false)
theorem okFun_ok {fn : AFun} {func : Func} (h : okFun P N fn func = true) : ∃ c,func.body = some c ∧ FunOk P N fn func c := by
  simp only [okFun,Bool.and_eq_true,decide_eq_true_eq] at h
  obtain ⟨⟨⟨⟨h1,h2⟩,h3⟩,h4⟩,h5⟩ := h
  split at h5
  · rename_i c hc
    refine ⟨c,hc,h1,okCode_ok h5,h2,ndR_ok h3,fun r hr i hi e => ?_⟩
    have := List.all_eq_true.1 h4 i hi
    simp only [Bool.not_eq_true',List.any_eq_false] at this
    exact this r hr ((Root.eqB_iff _ _).2 e.symm)
  · cases h5
def look {α : Type} : List (Nat × α) → Nat → Option α
  | [],_ => none
  | (j,v) :: r,k => if j = k then some v else look r k
theorem look_mem {α : Type} : ∀ {l : List (Nat × α)} {k : Nat} {v : α},look l k = some v → (k,v) ∈ l
  | [],_,_,h => by simp [look] at h
  | (j,u) :: r,k,v,h => by
    simp only [look] at h
    split at h
    · rename_i e
      simp only [Option.some.injEq] at h
      subst e; subst h; simp
    · exact List.mem_cons_of_mem _ (look_mem h)
def tabOf (fns : List (Nat × AFun)) (prims : List (Nat × (List PMode × (List Arg → Option CR)))) : Tab :=
  ⟨look fns,fun f => (look prims f).map (·.2),fun f => match look fns f with
    | some fn => fn.params
    | none => match look prims f with
      | some p => p.1
      | none => [],fun _ _ _ => false⟩
def tabA (fns : List (Nat × AFun)) (prims : List (Nat × (List PMode × (List Arg → Option CR)))) (f tE tP : Nat) : Tab :=
  { tabOf fns prims with ask := fun g t u => g == f && t == tE && u == tP }
def okFns (P : Program) (N : Nm) (fns : List (Nat × AFun)) : Bool :=
  fns.all fun x => match P.funcs[N.f x.1]? with
    | some func => !(func.name == "runtime.NumGoroutine") && okFun P N x.2 func
    | none => false
theorem run_callFunc {f : Nat} {func : Func} (h : P.funcs[f]? = some func) (hb : func.body.isNone = false) (hn : (func.name == "runtime.NumGoroutine") = false) (vs : Array Value) (w : World) : (callFunc f vs).run P w = .ok (.enter f vs) w := by
  have hn' : ¬ func.name = "runtime.NumGoroutine" := by simpa using hn
  have hb' : ¬ func.body = none := fun e => by rw [e] at hb; cases hb
  simp [callFunc,go_sem,h,hb',hn']
theorem linked {fns : List (Nat × AFun)} {prims : List (Nat × (List PMode × (List Arg → Option CR)))} (hm : P.follows .mixedOrders = true) (h : okFns P N fns = true)
    (hp : ∀ x ∈ prims, (∃ func, P.funcs[N.f x.1]? = some func ∧ func.body.isNone = false ∧ (func.name == "runtime.NumGoroutine") = false) ∧ ∀ as cr, x.2.2 as = some cr → Meets P N x.1 as cr) : Linked P N (tabOf fns prims) := by
  have hf : ∀ f fn, look fns f = some fn → ∃ func c, P.funcs[N.f f]? = some func ∧ (func.name == "runtime.NumGoroutine") = false ∧ func.body = some c ∧ FunOk P N fn func c := fun f fn hl => by
    have := List.all_eq_true.1 h _ (look_mem hl)
    simp only at this
    split at this
    · rename_i func hfu
      simp only [Bool.and_eq_true,Bool.not_eq_true'] at this
      obtain ⟨c,hc,ok⟩ := okFun_ok this.2
      exact ⟨func,c,hfu,this.1,hc,ok⟩
    · cases this
  refine ⟨hm,fun f tE tP ht => by simp [tabOf] at ht,fun f p hl => ?_,fun f fn _ hl => ?_,fun f he vs w => ?_⟩
  · simp only [tabOf,Option.map_eq_some_iff] at hl
    obtain ⟨q,hq,rfl⟩ := hl
    exact (hp (f,q) (look_mem hq)).2
  · obtain ⟨func,c,h1,_,h2⟩ := hf f fn hl
    exact ⟨func,c,h1,h2⟩
  · rcases he with he | he
    · simp only [tabOf,Option.isSome_map] at he
      obtain ⟨q,hq⟩ := Option.isSome_iff_exists.1 he
      obtain ⟨func,h1,h2,h3⟩ := (hp (f,q) (look_mem hq)).1
      exact run_callFunc h1 h2 h3 vs w
    · simp only [tabOf] at he
      obtain ⟨fn,hq⟩ := Option.isSome_iff_exists.1 he
      obtain ⟨func,c,h1,hn,h2,_⟩ := hf f fn hq
      exact run_callFunc h1 (by rw [h2]; rfl) hn vs w
theorem linkedA {fns : List (Nat × AFun)} {prims : List (Nat × (List PMode × (List Arg → Option CR)))} {f tE tP : Nat} (hm : P.follows .mixedOrders = true) (h : okFns P N fns = true) (ha : AskOk P N f tE tP)
    (hp : ∀ x ∈ prims, (∃ func, P.funcs[N.f x.1]? = some func ∧ func.body.isNone = false ∧ (func.name == "runtime.NumGoroutine") = false) ∧ ∀ as cr, x.2.2 as = some cr → Meets P N x.1 as cr) : Linked P N (tabA fns prims f tE tP) := by
  have L := linked hm h hp
  refine ⟨hm,fun g t u ht => ?_,L.prim,L.fn,L.enter⟩
  simp only [tabA,Bool.and_eq_true,beq_iff_eq] at ht
  obtain ⟨⟨rfl,rfl⟩,rfl⟩ := ht
  exact ha
end
end Hm
/- Functions of the library that are not run as code, and what they answer. Conditions: see each theorem. -/
namespace Hm
open Go
section
variable {P : Program} {N : Nm}
theorem ArgsOk.vals_inv {w : World} {S : Nat → Prop} {x : AV} {xs : List Arg} {vs : List Value} {lx : List Nat} (h : ArgsOk N w S (.val x :: xs) vs lx) : ∃ cv us,vs = cv :: us ∧ VR N w S x cv ∧ ArgsOk N w S xs us lx := by
  cases h with
  | cons h hs =>
    cases h with
    | val v cv hv => exact ⟨_,_,rfl,hv,by simpa using hs⟩
theorem ArgsOk.nil_inv {w : World} {S : Nat → Prop} {vs : List Value} {lx : List Nat} (h : ArgsOk N w S [] vs lx) : vs = [] ∧ lx = [] := by cases h; exact ⟨rfl,rfl⟩
theorem meets_clone {f k : Nat} {fn : AFun} (K : Linked P N (tabOf [(f,fn)] []))
    (h1 : ∀ rows : List (List AV),rows ≠ [] → rows.length ≤ limit → Ret (tabOf [(f,fn)] []) f [.val (.lst k rows)] ⟨[([.own k (rows.map (·.map .av))],false)],[]⟩)
    (h2 : ∀ nn : Bool,Ret (tabOf [(f,fn)] []) f [.val (.emp k nn)] ⟨[([.own k []],false)],[]⟩) :
    ∀ as cr,pClone k as = some cr → Meets P N f as cr := by
  intro as cr hp
  unfold pClone at hp
  split at hp
  · rename_i k' rows
    split at hp
    · rename_i hk
      obtain ⟨rfl,hlim⟩ := hk
      simp only [Option.some.injEq] at hp
      subst hp
      by_cases hr : rows = []
      · subst hr
        intro w S vs lx A hnd hfree hlt hglob
        obtain ⟨c1,us,rfl,v1,A⟩ := A.vals_inv
        obtain ⟨rfl,rfl⟩ := A.nil_inv
        cases v1 with
        | lstNil _ a c hc ha =>
          obtain ⟨n,hn⟩ := (h2 a.isSome).out
          refine ((sim_callF K n f _ _ hn).1 w S [.slice a 0 c] [] (.cons (l := []) (.val _ _ (.emp k' a c hc ha)) .nil) hnd hfree hlt hglob).mono fun e w' ⟨v,S',L,lo,he,LF⟩ => ?_
          refine ⟨v,S',L,lo,he,LF.more,LF.bound,LF.lt,LF.frm,LF.res,LF.ok,LF.val,?_,LF.nodup,LF.free⟩
          have ho := LF.outs
          generalize hl : lo = lo' at ho ⊢
          cases ho with
          | val h => cases h; exact .val .nil
        | lst _ a c _ cv h0 => exact absurd rfl h0
      · obtain ⟨n,hn⟩ := (h1 rows hr hlim).out
        exact (sim_callF K n f _ _ hn).1
    · cases hp
  · cases hp
end
end Hm
/- What a reading of the arguments gives: values of the abstract machine. Conditions: none (plain lemmas). -/
namespace Hm
open Go
inductive TD where
  | bool
  | int (k : IntKind)
  | str
  | slice (e : Nat)
  | struct (fs : List Nat)
  deriving Inhabited
structure TS where
  td : Nat → Option TD
  sz : Nat → Nat
inductive Has (σ : TS) : Nat → List AV → Prop
  | bool {i : Nat} (h : σ.td i = some .bool) (b : Bool) : Has σ i [.bool b]
  | int {i : Nat} {k : IntKind} (h : σ.td i = some (.int k)) (n : Int) (hw : (Lit.int k n).wf = true) : Has σ i [.int k n]
  | str {i : Nat} (h : σ.td i = some .str) (s : List UInt8) : Has σ i [.str s]
  | slice {i e : Nat} (h : σ.td i = some (.slice e)) (rows : List (List AV)) (hr : ∀ (j : Nat) (r : List AV),rows[j]? = some r → Has σ e r) : Has σ i [.lst (σ.sz e) rows]
  | struct {i : Nat} {fs : List Nat} (h : σ.td i = some (.struct fs)) (cs : List (List AV)) (hl : cs.length = fs.length) (hc : ∀ (j f : Nat) (c : List AV),fs[j]? = some f → cs[j]? = some c → Has σ f c) : Has σ i cs.flatten
mutual
def bkA : AV → Nat
  | .str s => s.length + 1
  | .lst _ rows => bkRows rows + 1
  | .agg cs => bkRow cs
  | _ => 1
def bkRow : List AV → Nat
  | [] => 0
  | v :: r => bkA v + bkRow r
def bkRows : List (List AV) → Nat
  | [] => 0
  | r :: rs => bkRow r + bkRows rs
end
theorem bkRow_append (a b : List AV) : bkRow (a ++ b) = bkRow a + bkRow b := by
  induction a with
  | nil => simp [bkRow]
  | cons x a ih => simp only [List.cons_append,bkRow,ih]; omega
-- The bulk of a reading,as the seats' Rows texts count it.
mutual
def bulkD {H : Type} : DataW H → Nat
  | .lit (.string bytes) => bytes.length + 1
  | .lit _ => 1
  | .nil => 1
  | .ptr d => bulkD d + 1
  | .slice elems spare => bulkAll elems + bulkAll spare + 1
  | .agg parts => bulkAll parts + 1
  | .iface _ d => bulkD d + 1
  | .map entries => bulkEntries entries + 1
  | .held _ => 1
def bulkAll {H : Type} : List (DataW H) → Nat
  | [] => 0
  | d :: r => bulkD d + bulkAll r
def bulkEntries {H : Type} : List (Lit × DataW H) → Nat
  | [] => 0
  | x :: r => bulkEntry x + bulkEntries r
def bulkEntry {H : Type} : Lit × DataW H → Nat
  | (.string bytes,d) => bytes.length + bulkD d + 1
  | (_,d) => bulkD d + 1
end
def okFields (P : Program) (τ : Nat → TypeId) (σ : TS) : Nat → List Nat → List Field → Bool
  | _,[],[] => true
  | off,j :: js,f :: fs => f.type == τ j && f.offset == off && P.cellsOf f.type == σ.sz j && okFields P τ σ (off + σ.sz j) js fs
  | _,_,_ => false
def okTy (P : Program) (τ : Nat → TypeId) (σ : TS) (i : Nat) : Bool :=
  match σ.td i,P.underlying (τ i) with
  | some .bool,some .bool => true
  | some (.int k),some (.int k') => decide (k = k')
  | some .str,some .string => true
  | some (.slice e),some (.slice t) => t == τ e && P.cellsOf t == σ.sz e && decide (0 < σ.sz e)
  | some (.struct fs),some (.struct fields) => okFields P τ σ 0 fs fields.toList && P.cellsOf (τ i) == (fs.map σ.sz).sum
  | none,_ => true
  | _,_ => false
section
variable {H : Type} {enc : TypeId × Value → H} {P : Program} {N : Nm} {w : World} {sp : Nat → Bool} {held : Bool} {σ : TS} {τ : Nat → TypeId}
def VRs (N : Nm) (w : World) (avs : List AV) (cs : List Value) : Prop :=
  avs.length = cs.length ∧ ∀ (j : Nat) (x : AV) (v : Value),avs[j]? = some x → cs[j]? = some v → VR N w (fun b => b < w.heap.size) x v ∧ v.oneCell' = true
theorem VRs.one {x : AV} {v : Value} (h : VR N w (fun b => b < w.heap.size) x v) (h1 : v.oneCell' = true) : VRs N w [x] [v] := by
  refine ⟨rfl,fun j y u hy hu => ?_⟩
  cases j with
  | zero => simp only [List.getElem?_cons_zero,Option.some.injEq] at hy hu; subst hy; subst hu; exact ⟨h,h1⟩
  | succ j => simp at hy
theorem VRs.app {a b : List AV} {c d : List Value} (h : VRs N w a c) (h' : VRs N w b d) : VRs N w (a ++ b) (c ++ d) := by
  refine ⟨by simp [h.1,h'.1],fun j x v hx hv => ?_⟩
  by_cases hj : j < a.length
  · rw [List.getElem?_append_left hj] at hx
    rw [List.getElem?_append_left (by rw [← h.1]; exact hj)] at hv
    exact h.2 j x v hx hv
  · rw [List.getElem?_append_right (Nat.le_of_not_lt hj)] at hx
    rw [List.getElem?_append_right (by rw [← h.1]; exact Nat.le_of_not_lt hj)] at hv
    rw [h.1] at hx
    exact h'.2 _ x v hx hv
theorem cells?_get {b n : Nat} {a : Addr} {cs : List Value} (h : w.cells? b a n = some cs) : cs.length = n ∧ ∀ i,i < n → w.cell? (a.add i) = cs[i]? := by
  unfold World.cells? at h
  split at h
  · have h1 := mapM_some_length h
    refine ⟨by simpa using h1,fun i hi => ?_⟩
    have := mapM_some_get h i i (by simp [hi])
    exact this
  · cases h
theorem rows_of {n : Nat} {G : Nat → List AV → DataW H × List MemPlace → Prop} {elems : List (DataW H × List MemPlace)} (hl : elems.length = n) (h : ∀ i,i < n → ∃ r x,elems[i]? = some x ∧ G i r x ∧ bkRow r ≤ bulkD x.1) :
    ∃ rows : List (List AV),rows.length = n ∧ bkRows rows ≤ bulkAll (elems.map (·.1)) ∧ ∀ (i : Nat) (r : List AV),rows[i]? = some r → ∃ x,elems[i]? = some x ∧ G i r x := by
  induction elems generalizing n G with
  | nil =>
    simp only [List.length_nil] at hl
    subst hl
    exact ⟨[],rfl,by simp [bkRows],by simp⟩
  | cons y elems ih =>
    simp only [List.length_cons] at hl
    subst hl
    obtain ⟨r0,x0,e0,g0,b0⟩ := h 0 (by omega)
    simp only [List.getElem?_cons_zero,Option.some.injEq] at e0
    subst e0
    obtain ⟨rows,h1,h2,h3⟩ := ih (n := elems.length) (G := fun i => G (i + 1)) rfl fun i hi => by
      obtain ⟨r,x,e,g,b⟩ := h (i + 1) (by omega)
      exact ⟨r,x,by simpa using e,g,b⟩
    refine ⟨r0 :: rows,by simp [h1],by simp only [bkRows,List.map_cons,bulkAll]; omega,fun i r hr => ?_⟩
    cases i with
    | zero => simp only [List.getElem?_cons_zero,Option.some.injEq] at hr; subst hr; exact ⟨y,rfl,g0⟩
    | succ i =>
      simp only [List.getElem?_cons_succ] at hr
      obtain ⟨x,e,g⟩ := h3 i r hr
      exact ⟨x,by simpa using e,g⟩
theorem trod_has (hσ : ∀ i,okTy P τ σ i = true) : ∀ (fuel : Nat) (i : Nat) (cs : List Value) (x : DataW H × List MemPlace),(σ.td i).isSome = true → DataW.trod enc P w 0 sp held fuel (τ i) cs = some x →
    (∀ i fs,σ.td i = some (.struct fs) → ∀ f ∈ fs,(σ.td f).isSome = true) → (∀ i e,σ.td i = some (.slice e) → (σ.td e).isSome = true) → ∃ avs,Has σ i avs ∧ VRs N w avs cs ∧ bkRow avs ≤ bulkD x.1 := by
  intro fuel
  induction fuel with
  | zero => intro i cs x _ h; simp [DataW.trod] at h
  | succ n ih =>
    intro i cs x hi h hfs hse
    have ht := hσ i
    unfold okTy at ht
    split at ht
    · rename_i h1 h2
      obtain ⟨b,rfl,rfl⟩ := DataW.trod_bool h2 h
      exact ⟨_,.bool h1 b,.one (.bool b) rfl,by simp [bkRow,bkA,bulkD]⟩
    · rename_i k k' h1 h2
      simp only [decide_eq_true_eq] at ht
      subst ht
      obtain ⟨m,rfl,rfl,hw⟩ := DataW.trod_int h2 h
      exact ⟨_,.int h1 m hw,.one (.int _ m) rfl,by simp [bkRow,bkA,bulkD]⟩
    · rename_i h1 h2
      obtain ⟨s,rfl,rfl,hs⟩ := DataW.trod_string h2 h
      exact ⟨_,.str h1 _,.one (.str s) rfl,by simp [bkRow,bkA,bulkD]⟩
    · rename_i e t h1 h2
      simp only [Bool.and_eq_true,beq_iff_eq,decide_eq_true_eq] at ht
      obtain ⟨⟨rfl,hsz⟩,hpos⟩ := ht
      rcases DataW.trod_slice h2 h with ⟨rfl,rfl⟩ | ⟨a,len,cap,elems,rest,m,hm,rfl,rfl,hb,hlc,hcm,hel,hget,_,_⟩
      · exact ⟨[.lst (σ.sz e) []],.slice h1 [] (by simp),.one (.lstNil _ _ _ (Nat.zero_le _) fun _ => rfl) rfl,by simp [bkRow,bkA,bkRows,bulkD]⟩
      · simp only [Nat.add_right_cancel_iff] at hm
        subst hm
        have each : ∀ j,j < len → ∃ r y,elems[j]? = some y ∧ (Has σ e r ∧ ∃ cs',VRs N w r cs' ∧ w.cells? 0 (a.add (j * P.cellsOf (τ e))) (P.cellsOf (τ e)) = some cs') ∧ bkRow r ≤ bulkD y.1 := fun j hj => by
          have hj' := hget j hj
          have hlt : j < elems.length := by omega
          rw [List.getElem?_eq_getElem hlt] at hj'
          simp only [Option.bind_eq_some_iff] at hj'
          obtain ⟨cs',hc,hd⟩ := hj'
          obtain ⟨r,r1,r2,r3⟩ := ih e cs' _ (hse i e h1) hd hfs hse
          exact ⟨r,_,List.getElem?_eq_getElem hlt,⟨r1,cs',r2,hc⟩,r3⟩
        obtain ⟨rows,g1,g2,g3⟩ := rows_of hel each
        have hnone : rows ≠ [] → a.spot = none := fun hne => by
          cases rows with
          | nil => exact absurd rfl hne
          | cons r rs =>
            obtain ⟨y,_,_,cs',hv,hc⟩ := g3 0 r rfl
            obtain ⟨c1,c2⟩ := cells?_get hc
            have := c2 0 (by rw [hsz]; exact hpos)
            have hsome : cs'[0]?.isSome = true := by simp; rw [c1,hsz]; exact hpos
            rw [← this] at hsome
            cases hsp : a.spot with
            | none => rfl
            | some z =>
              simp only [World.cell?,Addr.add] at hsome
              split at hsome
              · split at hsome <;> simp_all
              · simp at hsome
        have haS : rows ≠ [] → a.block < w.heap.size := fun hne => by
          cases rows with
          | nil => exact absurd rfl hne
          | cons r rs =>
            obtain ⟨y,_,_,cs',hv,hc⟩ := g3 0 r rfl
            obtain ⟨c1,c2⟩ := cells?_get hc
            have := c2 0 (by rw [hsz]; exact hpos)
            have hlt : 0 < cs'.length := by rw [c1,hsz]; exact hpos
            rw [List.getElem?_eq_getElem hlt] at this
            have hb := World.block_lt_of_cell? w _ this
            have hbk : ((a.add (0 * P.cellsOf (τ e))).add 0).block = a.block := by
              unfold Addr.add; (repeat' split) <;> rfl
            rw [hbk] at hb
            exact hb
        refine ⟨[.lst (σ.sz e) rows],.slice h1 rows fun j r hr => (g3 j r hr).choose_spec.2.1,?_,by simp only [bkRow,bkA,bulkD]; omega⟩
        by_cases h0 : rows = []
        · subst h0
          simp only [List.length_nil] at g1
          subst g1
          exact .one (.lstNil _ _ _ hcm (by simp)) rfl
        · have hsp := hnone h0
          have ha : a = ⟨a.block,a.off,none⟩ := by cases a; simp at hsp; simp [hsp]
          have cell : ∀ (j : Nat) (r : List AV) (q : Nat) (y : AV),rows[j]? = some r → r[q]? = some y → ∃ v,w.cell? ⟨a.block,a.off + (j * σ.sz e + q),none⟩ = some v ∧ VR N w (fun b => b < w.heap.size) y v ∧ v.oneCell' = true := fun j r q y hr hy => by
            obtain ⟨_,_,_,cs',hv,hc⟩ := g3 j r hr
            obtain ⟨c1,c2⟩ := cells?_get hc
            have hq : q < r.length := (List.getElem?_eq_some_iff.1 hy).1
            have hq' : q < cs'.length := by rw [← hv.1]; exact hq
            have := c2 q (by rw [← c1]; exact hq')
            rw [ha,add_addr,add_addr,hsz,List.getElem?_eq_getElem hq'] at this
            exact ⟨_,by rw [← Nat.add_assoc]; exact this,hv.2 q y _ hy (List.getElem?_eq_getElem hq')⟩
          rw [← g1]
          refine .one (.lst rows a cap (σ.sz e) (fun j q => ((w.cell? ⟨a.block,a.off + (j * σ.sz e + q),none⟩).getD undef)) h0 (haS h0) hsp (by omega) hcm hpos (fun j r hr => ?_) (fun j r q y hr hy => ?_) (fun j r q y hr hy => ?_) fun j r q y hr hy => ?_) rfl
          · obtain ⟨_,_,_,cs',hv,hc⟩ := g3 j r hr
            rw [hv.1,(cells?_get hc).1,hsz]
          · obtain ⟨v,h1,_⟩ := cell j r q y hr hy
            rw [h1]; rfl
          · obtain ⟨v,h1,_,h3⟩ := cell j r q y hr hy
            rw [h1]; exact h3
          · obtain ⟨v,h1,h2,_⟩ := cell j r q y hr hy
            rw [h1]; exact h2
    · rename_i fs fields h1 h2
      simp only [Bool.and_eq_true,beq_iff_eq] at ht
      obtain ⟨hf,hsum⟩ := ht
      obtain ⟨xs,m,hm,rfl,hcl,hxl,hget⟩ := DataW.trod_struct h2 h
      simp only [Nat.add_right_cancel_iff] at hm
      subst hm
      -- field by field
      have key : ∀ (js : List Nat) (fl : List Field) (ys : List (DataW H × List MemPlace)) (off : Nat),okFields P τ σ off js fl = true → (∀ f ∈ js,(σ.td f).isSome = true) → ys.length = fl.length →
          (∀ (k : Nat) (f : Field),fl[k]? = some f → DataW.trod enc P w 0 sp held n f.type ((cs.drop f.offset).take (P.cellsOf f.type)) = ys[k]?) → cs.length = off + (js.map σ.sz).sum →
          ∃ css : List (List AV),css.length = js.length ∧ (∀ (j f : Nat) (c : List AV),js[j]? = some f → css[j]? = some c → Has σ f c) ∧ VRs N w css.flatten (cs.drop off) ∧ bkRow css.flatten ≤ bulkAll (ys.map (·.1)) := by
        intro js
        induction js with
        | nil =>
          intro fl ys off hok _ hyl hg hlen
          cases fl with
          | cons _ _ => simp [okFields] at hok
          | nil =>
            refine ⟨[],rfl,by simp,?_,by simp [bkRow]⟩
            simp only [List.map_nil,List.sum_nil,Nat.add_zero] at hlen
            rw [List.drop_eq_nil_of_le (by omega)]
            exact ⟨rfl,by simp⟩
        | cons j js ihj =>
          intro fl ys off hok hjs hyl hg hlen
          cases fl with
          | nil => simp [okFields] at hok
          | cons f fl =>
            simp only [okFields,Bool.and_eq_true,beq_iff_eq] at hok
            obtain ⟨⟨⟨ht,ho⟩,hc⟩,hok⟩ := hok
            cases ys with
            | nil => simp at hyl
            | cons y ys =>
              have h0 := hg 0 f rfl
              simp only [List.getElem?_cons_zero,ho,hc] at h0
              rw [ht] at h0
              simp only [List.map_cons,List.sum_cons] at hlen
              obtain ⟨c,c1,c2,c3⟩ := ih j _ _ (hjs j (by simp)) h0 hfs hse
              obtain ⟨css,d1,d2,d3,d4⟩ := ihj fl ys (off + σ.sz j) hok (fun f hf => hjs f (List.mem_cons_of_mem _ hf)) (by simpa using hyl) (fun k f hk => by simpa using hg (k + 1) f (by simpa using hk)) (by omega)
              refine ⟨c :: css,by simp [d1],fun k f' c' hk hk' => ?_,?_,?_⟩
              · cases k with
                | zero => simp only [List.getElem?_cons_zero,Option.some.injEq] at hk hk'; subst hk; subst hk'; exact c1
                | succ k => exact d2 k f' c' (by simpa using hk) (by simpa using hk')
              · have e : cs.drop off = (cs.drop off).take (σ.sz j) ++ cs.drop (off + σ.sz j) := by
                  rw [← List.drop_drop,List.take_append_drop]
                rw [List.flatten_cons,e]
                exact c2.app d3
              · rw [List.flatten_cons,bkRow_append]
                simp only [List.map_cons,bulkAll]
                omega
      obtain ⟨css,d1,d2,d3,d4⟩ := key fs fields.toList xs 0 hf (hfs i fs h1) (by simpa using hxl) (fun k f hk => hget k f (by simpa using hk)) (by rw [hcl,hsum]; simp)
      exact ⟨css.flatten,.struct h1 css d1 d2,by simpa using d3,by simp only [bulkD]; omega⟩
    · simp_all
    · cases ht
end
end Hm
/- From a call of a law on the abstract machine to the statement's contract. Conditions: none (plain lemmas). -/
namespace Hm
open Go Go.RowKit
inductive HasA (σ : TS) : Nat → AV → Prop
  | agg {i : Nat} {fs : List Nat} (h : σ.td i = some (.struct fs)) {cs : List AV} (hc : Has σ i cs) : HasA σ i (.agg cs)
  | one {i : Nat} (h : ∀ fs,σ.td i ≠ some (.struct fs)) {v : AV} (hc : Has σ i [v]) : HasA σ i v
inductive HasAs (σ : TS) : List Nat → List AV → Prop
  | nil : HasAs σ [] []
  | cons {i : Nat} {is : List Nat} {v : AV} {vs : List AV} (h : HasA σ i v) (hs : HasAs σ is vs) : HasAs σ (i :: is) (v :: vs)
section
variable {H : Type} {enc : TypeId × Value → H} {P : Program} {N : Nm} {w : World} {sp : Nat → Bool} {held : Bool} {σ : TS} {τ : Nat → TypeId}
theorem okWide_agg {r : Reach} {b : Nat} {t : TypeId} {cs : Array Value} (h : Value.okWide P w r b t (.agg cs)) : (∃ fs,P.underlying t = some (.struct fs)) ∨ ∃ n e,P.underlying t = some (.array n e) := by
  unfold Value.okWide at h
  split at h
  · rename_i fs e; exact .inl ⟨fs,e⟩
  · rename_i n e he; exact .inr ⟨n,e,he⟩
  · exfalso
    unfold Cell.okWide at h
    split at h <;> first | (rename_i h1 h2; cases h2) | skip
    unfold Cell.ok at h
    split at h <;> first | (rename_i h1 h2; cases h2) | cases h
theorem arg_has (hσ : ∀ i,okTy P τ σ i = true) (hfs : ∀ i fs,σ.td i = some (.struct fs) → ∀ f ∈ fs,(σ.td f).isSome = true) (hse : ∀ i e,σ.td i = some (.slice e) → (σ.td e).isSome = true)
    {i : Nat} (hi : (σ.td i).isSome = true) {r : Reach} {b : Nat} {v : Value} {d : DataW H} {ps : List MemPlace} (hok : Value.okWide P w r b (τ i) v) (h : DataW.Trod enc P w 0 sp held (τ i) v d ps) :
    ∃ a,HasA σ i a ∧ VR N w (fun b => b < w.heap.size) a v ∧ bkA a ≤ bulkD d := by
  obtain ⟨fuel,hf⟩ := h
  obtain ⟨avs,h1,h2,h3⟩ := trod_has (N := N) hσ fuel i _ _ hi hf hfs hse
  have hty := hσ i
  by_cases hs : ∃ fs,σ.td i = some (.struct fs)
  · obtain ⟨fs,hs⟩ := hs
    have hst : ∃ fields,P.underlying (τ i) = some (.struct fields) := by
      unfold okTy at hty
      rw [hs] at hty
      cases hu : P.underlying (τ i) with
      | none => rw [hu] at hty; cases hty
      | some u => cases u <;> rw [hu] at hty <;> first | exact ⟨_,rfl⟩ | cases hty
    obtain ⟨fields,hst⟩ := hst
    unfold Value.okWide at hok
    rw [hst] at hok
    obtain ⟨cs,rfl,_,_⟩ := hok
    refine ⟨.agg avs,.agg hs h1,.agg avs cs ?_ (fun j u hu => ?_) (fun j x u hx hu => ?_),h3⟩
    · have := h2.1; simpa [Value.cells] using this
    · have hj : j < avs.length := by
        rw [h2.1]; simp only [Value.cells,Array.length_toList]; exact (Array.getElem?_eq_some_iff.1 hu).1
      exact (h2.2 j avs[j] u (List.getElem?_eq_getElem hj) (by simpa [Value.cells] using hu)).2
    · exact (h2.2 j x u hx (by simpa [Value.cells] using hu)).1
  · have hne : ∀ fs,σ.td i ≠ some (.struct fs) := fun fs e => hs ⟨fs,e⟩
    have hna : ∀ cs,v ≠ .agg cs := fun cs e => by
      subst e
      rcases okWide_agg hok with ⟨fs,hu⟩ | ⟨n,e,hu⟩
      · unfold okTy at hty
        rw [hu] at hty
        cases ht : σ.td i with
        | none => rw [ht] at hi; cases hi
        | some t => cases t with
          | struct fs' => exact hne fs' ht
          | _ => rw [ht] at hty; cases hty
      · unfold okTy at hty
        rw [hu] at hty
        cases ht : σ.td i with
        | none => rw [ht] at hi; cases hi
        | some t => cases t with
          | struct fs' => exact hne fs' ht
          | _ => rw [ht] at hty; cases hty
    have hcells : v.cells.toList = [v] := by cases v <;> first | rfl | exact absurd rfl (hna _)
    rw [hcells] at h2
    obtain ⟨x,rfl⟩ := List.length_eq_one_iff.1 (show avs.length = 1 from h2.1)
    exact ⟨x,.one hne h1,(h2.2 0 x v rfl rfl).1,by simpa [bkRow] using h3⟩
theorem args_has (hσ : ∀ i,okTy P τ σ i = true) (hfs : ∀ i fs,σ.td i = some (.struct fs) → ∀ f ∈ fs,(σ.td f).isSome = true) (hse : ∀ i e,σ.td i = some (.slice e) → (σ.td e).isSome = true) {r : Reach} {b : Nat} :
    ∀ {is : List Nat} {vs : List Value} {ds : List (DataW H)} {ps : List MemPlace},(∀ i ∈ is,(σ.td i).isSome = true) → (∀ (j : Nat) (t : TypeId) (v : Value),(is.map τ)[j]? = some t → vs[j]? = some v → Value.okWide P w r b t v) →
      DataW.TrodAll enc P w 0 sp held (is.map τ) vs ds ps → ∃ as,HasAs σ is as ∧ ArgsOk N w (fun b => b < w.heap.size) (as.map .val) vs [] ∧ bkRow as ≤ bulkAll ds
  | [],[],[],_,_,_,_ => ⟨[],.nil,.nil,by simp [bkRow]⟩
  | [],_ :: _,_,_,_,_,h => h.elim
  | [],[],_ :: _,_,_,_,h => h.elim
  | _ :: _,[],_,_,_,_,h => h.elim
  | _ :: _,_ :: _,[],_,_,_,h => h.elim
  | i :: is,v :: vs,d :: ds,ps,hi,hok,h => by
    obtain ⟨p,q,h1,h2,_⟩ := h
    obtain ⟨a,a1,a2,a3⟩ := arg_has (N := N) hσ hfs hse (hi i (by simp)) (hok 0 _ v rfl rfl) h1
    obtain ⟨as,b1,b2,b3⟩ := args_has hσ hfs hse (fun i h => hi i (List.mem_cons_of_mem _ h)) (fun j t v ht hv => hok (j + 1) t v (by simpa using ht) (by simpa using hv)) h2
    refine ⟨a :: as,.cons a1 b1,?_,by simp only [bkRow,bulkAll]; omega⟩
    rw [List.map_cons]
    have := ArgsOk.cons (ArgOk.val a v a2) b2
    simpa using this
theorem trodAll_len {w : World} {base : Nat} {sp : Nat → Bool} : ∀ {ts : List TypeId} {vs : List Value} {ds : List (DataW H)} {ps : List MemPlace},DataW.TrodAll enc P w base sp held ts vs ds ps → ds.length = ts.length
  | [],[],[],_,_ => rfl
  | [],_ :: _,_,_,h => h.elim
  | [],[],_ :: _,_,h => h.elim
  | _ :: _,[],_,_,h => h.elim
  | _ :: _,_ :: _,[],_,h => h.elim
  | t :: ts,v :: vs,d :: ds,ps,h => by
    obtain ⟨p,q,_,h2,_⟩ := h
    simp [trodAll_len h2]
theorem law_call {T : Tab} (K : Linked P N T) {f n : Nat} {as : List AV} {args : Array Value} (hcall : callF T n f (as.map .val) = some ⟨[([.av (.bool true)],false)],[]⟩)
    (A : ArgsOk N w (fun b => b < w.heap.size) (as.map .val) args.toList []) (hg : ∀ x ∈ N.g,VR N w (fun b => b < w.heap.size) x.1 x.2) :
    Calls P (N.f f) args w fun e w' => e = .returned (.bool true) ∧ Below w.heap.size w w' := by
  have hm := (sim_callF K n f _ _ hcall).1 w (fun b => b < w.heap.size) args.toList [] A List.nodup_nil (by simp) (fun x h => h) hg
  simp only [Array.toArray_toList] at hm
  refine hm.mono fun e w' ⟨v,S',L,lo,he,LF⟩ => ?_
  have hres := LF.res
  cases L with
  | nil => simp at hres
  | cons x L =>
    cases L with
    | cons y L => simp at hres
    | nil =>
      obtain ⟨gs,g⟩ := x
      simp only [List.map_cons,List.map_nil,List.cons.injEq,Prod.mk.injEq,and_true] at hres
      obtain ⟨h1,rfl⟩ := hres
      obtain ⟨k1,k2⟩ := LF.ok (gs,false) (by simp)
      obtain ⟨c,rfl⟩ := k2 rfl
      simp only [cellRow,List.cons.injEq,and_true] at h1
      cases c with
      | av av cv =>
        simp only [GC.cell,Cell.av.injEq] at h1
        subst h1
        have := k1 (.av (.bool true) cv) (List.mem_singleton.2 rfl)
        cases this with
        | av _ _ hv _ =>
          cases hv with
          | bool _ =>
            refine ⟨by rw [he,LF.val]; rfl,LF.frm.os,LF.frm.tape,LF.frm.output,LF.frm.size,fun k hk => LF.frm.block k hk (by simp)⟩
      | _ => simp [GC.cell] at h1
theorem law_post {f : Func} {s : ChangeSpec} {apart fresh handsOn again : Bool} {W W' : World} {args : Array Value} {ds gs : List (DataW H)} {before : List MemPlace} {tb : TypeId}
    (hl : laidOutB P = true) (hr : ∀ t ∈ f.params.toList,P.readableRec t = true ∧ t < P.types.size) (htb : P.underlying tb = some .bool) (hrt : f.resultTypes = #[tb]) (hvars : s.vars = [])
    (hW : DataW.Whole enc P f.params.toList s.vars apart W args.toList ds gs before) (hfn : s.fn H (ds ++ gs) = { results := [.lit (.bool true)],args := ds }) (hb : Below W.heap.size W W') :
    s.post enc P f apart fresh handsOn again W args (.bool true) W' := by
  have hlt : ∀ p ∈ before,p.block < W.heap.size := fun p hp => hW.lt p hp
  have hW0 := hW
  obtain ⟨p,q,hA,hV,rfl,hz,hn⟩ := hW
  have hvq : gs = [] ∧ q = [] := by
    rw [hvars] at hV
    cases gs with
    | nil => exact ⟨rfl,hV⟩
    | cons _ _ => exact hV.elim
  obtain ⟨rfl,rfl⟩ := hvq
  have stay : ∀ (sp : Nat → Bool),(∀ x ∈ p,sp x.block = true) → ∀ {ts : List TypeId} {vs : List Value} {ds : List (DataW H)} {ps : List MemPlace},(∀ t ∈ ts,P.readableRec t = true ∧ t < P.types.size) → (∀ x ∈ ps,x ∈ p) →
      DataW.TrodAll enc P W 0 (fun _ => true) true ts vs ds ps → DataW.TrodAll enc P W' 0 sp true ts vs ds ps := by
    intro sp hsp ts
    induction ts with
    | nil => intro vs ds ps _ _ h; cases vs <;> cases ds <;> first | exact h | exact h.elim
    | cons t ts ih =>
      intro vs ds ps ht hps h
      cases vs with
      | nil => exact h.elim
      | cons v vs =>
        cases ds with
        | nil => exact h.elim
        | cons d ds =>
          obtain ⟨p1,q1,h1,h2,rfl⟩ := h
          refine ⟨p1,q1,WideElems.Trod_stays hl (ht t (by simp)).1 (ht t (by simp)).2 h1 (fun x hx => ?_) (fun x hx => hsp x (hps x (List.mem_append_left _ hx))),ih (fun t h => ht t (List.mem_cons_of_mem _ h)) (fun x hx => hps x (List.mem_append_right _ hx)) h2,rfl⟩
          exact hb.same (hlt x (by simpa using hps x (List.mem_append_left _ hx)))
  have hres : ∀ (b : Nat) (sp : Nat → Bool) (hd : Bool),DataW.TrodAll enc P W' b sp hd f.resultTypes.toList ((Value.bool true).resultList f.resultTypes.size) [.lit (.bool true)] [] := fun b sp hd => by
    rw [hrt]
    exact ⟨[],[],shut_bool htb _,rfl,rfl⟩
  have hargs : ∀ sp : Nat → Bool,(∀ x ∈ p,sp x.block = true) → DataW.TrodAll enc P W' 0 sp true f.params.toList args.toList ds p := fun sp hsp => stay sp hsp hr (fun x h => h) hA
  have hv0 : ∀ sp,DataW.TrodVars enc P W' sp s.vars ([] : List (DataW H)) [] := fun sp => by rw [hvars]; rfl
  refine ⟨ds,[],p ++ [],[],p,[],hW0,by rw [hfn]; exact hres _ _ _,by rw [hfn]; exact hargs _ fun x hx => by simpa using hlt x (by simpa using hx),by rw [hfn]; exact hv0 _,World.keptBut_mono (fun x hx => ⟨hx,.inr (.inl (by simpa using hx))⟩) (hb.frame (· ∈ p ++ [])),fun _ => ⟨?_,?_⟩⟩
  · intro j t' r hj hv
    rw [hrt] at hj hv
    cases j with
    | zero =>
      simp [Value.resultList] at hj hv
      subst hj; subst hv
      simp [Value.okWide,htb,Cell.okWide,Cell.ok]
    | succ j => simp at hj
  · refine ⟨[.lit (.bool true)] ++ ds,[],([] ++ p) ++ [],⟨[] ++ p,[],ChangeShapes.trodAll_append (hargs _ fun _ _ => rfl) (hres _ _ _),hv0 _,rfl,?_,?_⟩,?_⟩
    · intro b off hp
      have hin : MemPlace.cell b off ∈ p ++ [] := by simpa using hp
      rw [hb.frozen (hlt _ hin)]
      exact hz b off hin
    · intro ha
      simpa using hn ha
    · intro x hx _
      simpa using hx
end
end Hm
/- Types out of lists. Conditions: none (plain lemmas). -/
namespace Hm
open Go
def tsOf (l : List (TD × Nat)) : TS := ⟨fun i => (l[i]?).map (·.1),fun i => ((l[i]?).map (·.2)).getD 0⟩
def tauOf (l : List Nat) : Nat → TypeId := fun i => l.getD i 0
def refsOk (n : Nat) : TD → Bool
  | .slice e => decide (e < n)
  | .struct fs => fs.all fun f => decide (f < n)
  | _ => true
theorem okTy_all {P : Program} {l : List (TD × Nat)} {t : List Nat} (h : ((List.range l.length).all fun i => okTy P (tauOf t) (tsOf l) i) = true) : ∀ i,okTy P (tauOf t) (tsOf l) i = true := by
  intro i
  by_cases hi : i < l.length
  · exact List.all_eq_true.1 h i (List.mem_range.2 hi)
  · have : (tsOf l).td i = none := by simp [tsOf,List.getElem?_eq_none (Nat.le_of_not_lt hi)]
    unfold okTy
    rw [this]
theorem refs_struct {l : List (TD × Nat)} (h : (l.all fun x => refsOk l.length x.1) = true) : ∀ i fs,(tsOf l).td i = some (.struct fs) → ∀ f ∈ fs,((tsOf l).td f).isSome = true := by
  intro i fs hi f hf
  simp only [tsOf,Option.map_eq_some_iff] at hi
  obtain ⟨x,hx,e⟩ := hi
  have := List.all_eq_true.1 h x (List.mem_of_getElem? hx)
  rw [e] at this
  simp only [refsOk,List.all_eq_true,decide_eq_true_eq] at this
  simp [tsOf,List.getElem?_eq_getElem (this f hf)]
theorem refs_slice {l : List (TD × Nat)} (h : (l.all fun x => refsOk l.length x.1) = true) : ∀ i e,(tsOf l).td i = some (.slice e) → ((tsOf l).td e).isSome = true := by
  intro i e hi
  simp only [tsOf,Option.map_eq_some_iff] at hi
  obtain ⟨x,hx,e'⟩ := hi
  have := List.all_eq_true.1 h x (List.mem_of_getElem? hx)
  rw [e'] at this
  simp only [refsOk,decide_eq_true_eq] at this
  simp [tsOf,List.getElem?_eq_getElem this]
theorem HasA.int_inv {σ : TS} {i : Nat} {k : IntKind} {v : AV} (h : HasA σ i v) (hi : σ.td i = some (.int k)) : ∃ n,v = .int k n ∧ (Lit.int k n).wf = true := by
  cases h with
  | agg h _ => rw [hi] at h; cases h
  | one _ hc =>
    generalize hv : [v] = l at hc
    cases hc with
    | int h n hw => rw [hi] at h; cases h; cases hv; exact ⟨n,rfl,hw⟩
    | bool h b => rw [hi] at h; cases h
    | str h s => rw [hi] at h; cases h
    | slice h rows hr => rw [hi] at h; cases h
    | struct h cs _ _ => rw [hi] at h; cases h
theorem HasA.struct_inv {σ : TS} {i : Nat} {fs : List Nat} {v : AV} (h : HasA σ i v) (hi : σ.td i = some (.struct fs)) : ∃ cs,v = .agg cs ∧ Has σ i cs := by
  cases h with
  | agg h hc => exact ⟨_,rfl,hc⟩
  | one h _ => exact absurd hi (h fs)
theorem Has.int_inv {σ : TS} {i : Nat} {k : IntKind} {cs : List AV} (h : Has σ i cs) (hi : σ.td i = some (.int k)) : ∃ n,cs = [.int k n] ∧ (Lit.int k n).wf = true := by
  cases h with
  | int h n hw => rw [hi] at h; cases h; exact ⟨n,rfl,hw⟩
  | bool h b => rw [hi] at h; cases h
  | str h s => rw [hi] at h; cases h
  | slice h rows hr => rw [hi] at h; cases h
  | struct h cs _ _ => rw [hi] at h; cases h
theorem Has.bool_inv {σ : TS} {i : Nat} {cs : List AV} (h : Has σ i cs) (hi : σ.td i = some .bool) : ∃ b,cs = [.bool b] := by
  cases h with
  | bool h b => exact ⟨b,rfl⟩
  | int h b => rw [hi] at h; cases h
  | str h s => rw [hi] at h; cases h
  | slice h rows hr => rw [hi] at h; cases h
  | struct h cs _ _ => rw [hi] at h; cases h
theorem Has.str_inv {σ : TS} {i : Nat} {cs : List AV} (h : Has σ i cs) (hi : σ.td i = some .str) : ∃ s,cs = [.str s] := by
  cases h with
  | str h s => exact ⟨s,rfl⟩
  | int h b => rw [hi] at h; cases h
  | bool h s => rw [hi] at h; cases h
  | slice h rows hr => rw [hi] at h; cases h
  | struct h cs _ _ => rw [hi] at h; cases h
theorem Has.slice_inv {σ : TS} {i e : Nat} {cs : List AV} (h : Has σ i cs) (hi : σ.td i = some (.slice e)) : ∃ rows,cs = [.lst (σ.sz e) rows] ∧ ∀ r ∈ rows,Has σ e r := by
  cases h with
  | slice h rows hr =>
    rw [hi] at h; cases h
    exact ⟨rows,rfl,fun r hr' => by obtain ⟨j,hj⟩ := List.mem_iff_getElem?.1 hr'; exact hr j r hj⟩
  | int h b => rw [hi] at h; cases h
  | bool h s => rw [hi] at h; cases h
  | str h s => rw [hi] at h; cases h
  | struct h cs _ _ => rw [hi] at h; cases h
inductive Flds (σ : TS) : List Nat → List AV → Prop
  | nil : Flds σ [] []
  | cons {f : Nat} {fs : List Nat} {c r : List AV} (h : Has σ f c) (hs : Flds σ fs r) : Flds σ (f :: fs) (c ++ r)
theorem flds_of {σ : TS} : ∀ {fs : List Nat} {cs : List (List AV)},cs.length = fs.length → (∀ (j f : Nat) (c : List AV),fs[j]? = some f → cs[j]? = some c → Has σ f c) → Flds σ fs cs.flatten
  | [],[],_,_ => .nil
  | [],_ :: _,h,_ => by simp at h
  | _ :: _,[],h,_ => by simp at h
  | f :: fs,c :: cs,hl,h => by
    rw [List.flatten_cons]
    exact .cons (h 0 f c rfl rfl) (flds_of (by simpa using hl) fun j f c hf hc => h (j + 1) f c (by simpa using hf) (by simpa using hc))
theorem Has.struct_inv {σ : TS} {i : Nat} {fs : List Nat} {cs : List AV} (h : Has σ i cs) (hi : σ.td i = some (.struct fs)) : Flds σ fs cs := by
  cases h with
  | struct h cs hl hc => rw [hi] at h; cases h; exact flds_of hl hc
  | int h b => rw [hi] at h; cases h
  | bool h s => rw [hi] at h; cases h
  | str h s => rw [hi] at h; cases h
  | slice h rows hr => rw [hi] at h; cases h
theorem Flds.inv {σ : TS} {f : Nat} {fs : List Nat} {cs : List AV} (h : Flds σ (f :: fs) cs) : ∃ c r,cs = c ++ r ∧ Has σ f c ∧ Flds σ fs r := by
  cases h with
  | cons h hs => exact ⟨_,_,rfl,h,hs⟩
theorem Flds.nil_inv {σ : TS} {cs : List AV} (h : Flds σ [] cs) : cs = [] := by cases h; rfl
theorem HasAs.inv {σ : TS} {i : Nat} {is : List Nat} {as : List AV} (h : HasAs σ (i :: is) as) : ∃ a r,as = a :: r ∧ HasA σ i a ∧ HasAs σ is r := by
  cases h with
  | cons h hs => exact ⟨_,_,rfl,h,hs⟩
theorem HasAs.nil_inv {σ : TS} {as : List AV} (h : HasAs σ [] as) : as = [] := by cases h; rfl
end Hm
/- Package variables that nobody writes, out of a row's list. Conditions: see each theorem. -/
namespace Hm
open Go
mutual
def flatD : DataW Unit → Option (List Int)
  | .lit (.int .u8 n) => some [n]
  | .agg ds => flatDs ds
  | _ => none
def flatDs : List (DataW Unit) → Option (List Int)
  | [] => some []
  | d :: r => match flatD d,flatDs r with
    | some a,some b => some (a ++ b)
    | _,_ => none
end
def zcells (zs : List Int) : List Value := zs.map fun z => .int .u8 z
def FlatTy (P : Program) (t : TypeId) : Prop := ∀ (w : World) (base : Nat) (sp : Nat → Bool) (held : Bool) (fuel : Nat) (cs : List Value) (d : DataW Unit) (p : List MemPlace) (zs : List Int),
  DataW.trod (fun _ => ()) P w base sp held fuel t cs = some (d,p) → flatD d = some zs → cs = zcells zs
theorem FlatTy.int {P : Program} {t : TypeId} (ht : P.underlying t = some (.int .u8)) : FlatTy P t := by
  intro w base sp held fuel cs d p zs h hz
  cases fuel with
  | zero => simp [DataW.trod] at h
  | succ fuel =>
    obtain ⟨z,rfl,h2,_⟩ := DataW.trod_int ht h
    simp only [Prod.mk.injEq] at h2
    obtain ⟨rfl,rfl⟩ := h2
    simp only [flatD,Option.some.injEq] at hz
    subst hz; rfl
theorem flatDs_cons {d : DataW Unit} {r : List (DataW Unit)} {zs : List Int} (h : flatDs (d :: r) = some zs) : ∃ a b,flatD d = some a ∧ flatDs r = some b ∧ zs = a ++ b := by
  rw [flatDs] at h
  split at h
  · rename_i a b h1 h2
    simp only [Option.some.injEq] at h
    exact ⟨a,b,h1,h2,h.symm⟩
  · cases h
def pairB (P : Program) (t e : TypeId) : Bool :=
  match P.underlying t with
  | some (.struct fs) => (match fs.toList with
    | [f0,f1] => f0.offset == 0 && f1.offset == 1 && f0.type == e && f1.type == e
    | _ => false)
  | _ => false
theorem FlatTy.pair {P : Program} {t e : TypeId} (hp : pairB P t e = true) (hc : P.cellsOf t = 2) (he : P.cellsOf e = 1) (hfl : FlatTy P e) : FlatTy P t := by
  obtain ⟨fs,f0,f1,ht,hf,o0,o1,t0,t1⟩ : ∃ fs f0 f1,P.underlying t = some (.struct fs) ∧ fs.toList = [f0,f1] ∧ f0.offset = 0 ∧ f1.offset = 1 ∧ f0.type = e ∧ f1.type = e := by
    unfold pairB at hp
    split at hp
    · rename_i fs h
      split at hp
      · rename_i f0 f1 h2
        simp only [Bool.and_eq_true,beq_iff_eq] at hp
        exact ⟨fs,f0,f1,h,h2,hp.1.1.1,hp.1.1.2,hp.1.2,hp.2⟩
      · cases hp
    · cases hp
  intro w base sp held fuel cs d p zs h hz
  cases fuel with
  | zero => simp [DataW.trod] at h
  | succ fuel =>
    simp only [DataW.trod,ht,hf,hc,o0,o1,t0,t1,he,List.mapM_cons,List.mapM_nil,Option.pure_def,Option.bind_eq_bind] at h
    split at h
    · rename_i hl
      match cs,hl with
      | [a,b],_ =>
      simp only [List.drop_zero,List.take_succ_cons,List.take_zero,List.drop_succ_cons,Option.map_eq_some_iff,Option.bind_eq_some_iff,Option.some.injEq] at h
      obtain ⟨xs,⟨x0,h0,ys,⟨x1,h1,zs',rfl,rfl⟩,rfl⟩,hx⟩ := h
      have hd : d = .agg [x0.1,x1.1] := by simpa using (congrArg Prod.fst hx).symm
      subst hd
      rw [flatD] at hz
      obtain ⟨a1,b1,k1,k2,rfl⟩ := flatDs_cons hz
      obtain ⟨a2,b2,k3,k4,rfl⟩ := flatDs_cons k2
      simp only [flatDs,Option.some.injEq] at k4
      subst k4
      have e0 := hfl w base sp held fuel _ _ _ _ h0 k1
      have e1 := hfl w base sp held fuel _ _ _ _ h1 k3
      simp only [zcells,List.map_append,List.append_nil,List.map_nil] at e0 e1 ⊢
      rw [← e0,← e1]; rfl
    · cases h
theorem FlatTy.array {P : Program} {t e : TypeId} {n c : Nat} (ht : P.underlying t = some (.array n e)) (he : P.cellsOf e = c) (hc : P.cellsOf t = n * c) (hfl : FlatTy P e) : FlatTy P t := by
  intro w base sp held fuel cs d p zs h hz
  cases fuel with
  | zero => simp [DataW.trod] at h
  | succ fuel =>
    simp only [DataW.trod,ht,he,hc] at h
    split at h
    · rename_i hl
      obtain ⟨xs,hm,hx⟩ := Option.map_eq_some_iff.1 h
      have hd : d = .agg (xs.map (·.1)) := (congrArg Prod.fst hx).symm
      subst hd
      rw [flatD] at hz
      have key : ∀ (m s : Nat) (xs : List (DataW Unit × List MemPlace)) (zs : List Int),(List.range' s m).mapM (fun i => DataW.trod (fun _ => ()) P w base sp held fuel e ((cs.drop (i * c)).take c)) = some xs →
          flatDs (xs.map (·.1)) = some zs → (cs.drop (s * c)).take (m * c) = zcells zs := by
        intro m
        induction m with
        | zero =>
          intro s xs zs hm hz
          simp only [List.range'_zero,List.mapM_nil,Option.pure_def,Option.some.injEq] at hm
          subst hm
          simp only [List.map_nil,flatDs,Option.some.injEq] at hz
          subst hz
          simp [zcells]
        | succ m ih =>
          intro s xs zs hm hz
          simp only [List.range'_succ,List.mapM_cons,Option.pure_def,Option.bind_eq_bind,Option.bind_eq_some_iff,Option.some.injEq] at hm
          obtain ⟨x,hx,ys,hy,rfl⟩ := hm
          obtain ⟨a,b,k1,k2,rfl⟩ := flatDs_cons hz
          have e1 := hfl w base sp held fuel _ _ _ _ hx k1
          have e2 := ih (s + 1) ys b hy k2
          simp only [zcells,List.map_append] at e1 e2 ⊢
          rw [← e1,← e2,Nat.add_mul m 1 c,Nat.one_mul,Nat.add_comm (m * c) c,List.take_add,List.drop_drop,Nat.add_mul,Nat.one_mul]
      have := key n 0 xs zs (by rw [← List.range_eq_range']; exact hm) hz
      rw [Nat.zero_mul,List.drop_zero,← hl,List.take_length] at this
      exact this
    · cases h
theorem laid_mem {P : Program} {w : World} : ∀ {l : List (String × DataW Unit)} {ps : List MemPlace},DataW.LaidVars P w l ps → ∀ x ∈ l,
    ∃ g t cs fuel p,P.globalNamed x.1 = some g ∧ (P.globals[g]?).map (·.type) = some t ∧ w.var? P x.1 = some cs ∧ DataW.trod (fun _ => ()) P w 0 (fun _ => true) false fuel t cs.toList = some (x.2,p)
  | [],_,_,x,hx => by simp at hx
  | (n,d) :: r,ps,h,x,hx => by
    obtain ⟨g,t,cs,fuel,p,q,h1,h2,h3,h4,h5,_⟩ := h
    rcases List.mem_cons.1 hx with rfl | hx
    · exact ⟨g,t,cs,fuel,p,h1,h2,h3,h4⟩
    · exact laid_mem h5 x hx
theorem vr_of_laid {P : Program} {N : Nm} {l : List (String × DataW Unit)} {W : World} (h : laidMet P l W) {name : String} {d : DataW Unit} (hx : (name,d) ∈ l) {g : Nat} {t : TypeId} {zs : List Int} (hg : P.globalNamed name = some g)
    (hty : (P.globals[g]?).map (·.type) = some t) (hf : FlatTy P t) (hz : flatD d = some zs) : VR N W (fun b => b < W.heap.size) (.vptr (zavs zs)) (.pointer (some ⟨g,0,none⟩)) := by
  obtain ⟨ps,h1,_⟩ := h
  obtain ⟨g',t',cs,fuel,p,k1,k2,k3,k4⟩ := laid_mem h1 _ hx
  obtain rfl := Option.some.inj (hg.symm.trans k1)
  obtain rfl := Option.some.inj (hty.symm.trans k2)
  have hcs := hf W 0 _ _ fuel _ _ _ _ k4 hz
  have hcell : ∀ j,W.cell? ⟨g,j,none⟩ = cs[j]? := fun j => World.var?_cell hg k3 j
  have hcj : ∀ (j : Nat) (x : AV),(zavs zs)[j]? = some x → ∃ z,x = .int .u8 z ∧ cs[j]? = some (.int .u8 z) := by
    intro j x hj
    simp only [zavs,List.getElem?_map,Option.map_eq_some_iff] at hj
    obtain ⟨z,hz',rfl⟩ := hj
    refine ⟨z,rfl,?_⟩
    have : cs.toList[j]? = some (.int .u8 z) := by rw [hcs]; simp [zcells,hz']
    simpa using this
  refine .vptr _ ⟨g,0,none⟩ (fun j => (cs[j]?).getD undef) (fun _ => ?_) rfl (fun j x hj => ?_) (fun j x hj => ?_) (fun j x hj => ?_)
  · simp only [World.var?,hg,Option.bind_some] at k3
    split at k3
    · rename_i b; exact (Array.getElem?_eq_some_iff.1 b).1
    · cases k3
  · obtain ⟨z,rfl,hc⟩ := hcj j x hj
    simp only [Nat.zero_add,hcell,hc,Option.getD_some]
  · obtain ⟨z,rfl,hc⟩ := hcj j x hj
    simp only [hc,Option.getD_some]; rfl
  · obtain ⟨z,rfl,hc⟩ := hcj j x hj
    simp only [hc,Option.getD_some]; exact .int _ _
end Hm
