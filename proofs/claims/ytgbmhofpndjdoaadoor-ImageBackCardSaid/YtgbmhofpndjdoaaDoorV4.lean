/- A part of the proof that the law answers true for every input; the conditions are those of the card: the listed variable reads as the program lays it. -/
import Derived.Test.YtgbmhofpndjdoaaDoorV3
import Derived.ControlIn
import Derived.RangeFuncRecord
import Derived.Test.YtgbmhofpndjdoaaDoorProg
import Derived.KernelRfl
import Derived.ProofKit
import Derived.OpenShut
import Derived.WideShapes
import Derived.LaidMore
import Derived.Test.YtgbmhofpndjdoaaDoorTie
import Derived.Shelf.Spec.SlicesInsertGrow
import GoSem.Core.Float
import GoSem.Dispatch
import Derived.Laws.Cover2
import Derived.Laws.FloatArith
import Derived.WalkKit
import Derived.Laws.Externs
import Derived.Lib.Walk
import Derived.Stop.Joined
import Derived.SevenTiedAt
import Derived.Test.YtgbmhofpndjdoaaDoorCards
set_option linter.unusedSimpArgs false
set_option linter.unusedVariables false
/- Soundness: regions,one operation after the other. -/
namespace Go.Vm
open Go
section
variable {P : Program} {gb : Nat → Option (List D)} {X : XT} {C : Ctx} {o : Oper} {a a' : Act} {W W' W2 : World} {m m' m2 : Nat → Option Nat} {F F' F1 F2 : Nat → Prop} {L : Option Nat} {XO XO' XO2 : Nat → Prop} {st st' st2 : List AO} {ext : Option Ext} {vars env : List AV} {nid : Nat} {ro : Option Nat} {lo : Lower} {st0 : Sto}
structure Mv (nb : Nat) (m : Nat → Option Nat) (F XO : Nat → Prop) (W : World) (st : List AO) (m' : Nat → Option Nat) (F' XO' : Nat → Prop) (W' : World) (st' : List AO) : Prop where
  hm : ∀ i b,i < nb → m i = some b → m' i = some b
  hF : ∀ b,F b → F' b
  nF : ∀ b,F' b → F b ∨ ownA m st XO b ∨ W.heap.size ≤ b
  tr : Tr (ownA m st XO) W W'
  ow : ∀ b,own m' (sto st') b → own m (sto st) b ∨ W.heap.size ≤ b
  xo : ∀ b,XO' b → XO b ∨ W.heap.size ≤ b
  rg : ∀ i b,m' i = some b → (∃ j,m j = some b) ∨ W.heap.size ≤ b
theorem Mv.refl (nb : Nat) : Mv nb m F XO W st m F XO W st :=
  ⟨fun _ _ _ h => h,fun _ h => h,fun _ h => .inl h,Tr.refl _ _,fun _ h => .inl h,fun _ h => .inl h,fun i _ h => .inl ⟨i,h⟩⟩
theorem Mv.trans {nb : Nat} (h : Mv nb m F XO W st m' F' XO' W' st') (k : Mv nb m' F' XO' W' st' m2 F2 XO2 W2 st2) : Mv nb m F XO W st m2 F2 XO2 W2 st2:=by
  have hs:=h.tr.size
  have hO : ∀ b,ownA m' st' XO' b → ownA m st XO b ∨ W.heap.size ≤ b:=fun b hb => by
    rcases hb with hb | hb
    · exact (h.ow b hb).imp .inl id
    · exact (h.xo b hb).imp .inr id
  refine ⟨fun i b hi hb => k.hm i b hi (h.hm i b hi hb),fun b hb => k.hF b (h.hF b hb),fun b hb => ?_,h.tr.trans k.tr fun b hb h1 => (hO b h1).resolve_right (by omega),fun b hb => ?_,fun b hb => ?_,fun i b hb => ?_⟩
  · rcases k.nF b hb with h1 | h1 | h1
    · exact h.nF b h1
    · exact .inr (hO b h1)
    · exact .inr (.inr (Nat.le_trans hs h1))
  · rcases k.ow b hb with h1 | h1
    · exact h.ow b h1
    · exact .inr (Nat.le_trans hs h1)
  · rcases k.xo b hb with h1 | h1
    · exact h.xo b h1
    · exact .inr (Nat.le_trans hs h1)
  · rcases k.rg i b hb with ⟨j,h1⟩ | h1
    · exact h.rg j b h1
    · exact .inr (Nat.le_trans hs h1)
theorem Post.mv (nb : Nat) {v : AV} {w : Value} {ext' : Option Ext} (p : Post gb X m F L XO W st v st' ext' w W' m' F' XO') : Mv nb m F XO W st m' F' XO' W' st' :=
  ⟨fun i b _ h => p.gr.hm i b h,p.gr.hF,p.gr.nF,p.gr.tr,p.ow,p.xo,p.rg⟩
theorem St.FO (S : St gb X m F L XO W st ext) : ∀ b,F b → ¬ ownA m st XO b:=fun b hb h => by
  rcases h with h | h
  · exact (S.ownF b hb).2 h
  · cases L with
    | none => cases ext with
      | none => exact S.x b h
      | some e => exact S.x.elim
    | some l => cases ext with
      | none => exact S.x.elim
      | some e => exact (S.x.2 b h).2 hb
theorem Post.rep {v u : AV} {w z : Value} {ext' : Option Ext} (S : St gb X m F L XO W st ext) (p : Post gb X m F L XO W st v st' ext' w W' m' F' XO') (h : RepA m F L W u z) : RepA m' F' L W' u z :=
  p.gr.rep S.R.hF S.FO h
theorem idxOf_get {α : Type} [BEq α] [LawfulBEq α] {l : List α} {x : α} {j : Nat} (h : l.idxOf? x = some j) : l[j]? = some x:=by
  rw [List.idxOf?,List.findIdx?_eq_some_iff_getElem] at h
  obtain ⟨hj,h1,_⟩:=h
  rw [List.getElem?_eq_getElem hj]
  simpa using h1
structure Vr (nt : Nat) (slots : List Nat) (m : Nat → Option Nat) (F : Nat → Prop) (L : Option Nat) (W : World) (a : Act) (vars : List AV) : Prop where
  sz : nt ≤ a.tmps.size
  ln : vars.length = slots.length
  vr : ∀ i t,slots[i]? = some t → RepA m F L W (vars.getD i .junk) (a.tmps.getD t undef)
def Lc (slots : List Nat) (dsts : List (Option Nat)) (m : Nat → Option Nat) (F : Nat → Prop) (L : Option Nat) (W : World) (a : Act) (env : List AV) : Prop :=
  ∀ i t,i < env.length → dsts[i]? = some (some t) → t ∉ slots → RepA m F L W (env.getD i .junk) (a.tmps.getD t undef)
theorem opr_ok2 (hg : C.glob = gb) (R : Rel gb m F L W st0) (hv : ∀ i t,Operand.tmp t ∈ o.op.operands → C.slots[i]? = some t → RepA m F L W (vars.getD i .junk) (a.tmps.getD t undef))
    (hl : ∀ p t,Operand.tmp t ∈ o.op.operands → p < env.length → C.dsts[p]? = some (some t) → t ∉ C.slots → RepA m F L W (env.getD p .junk) (a.tmps.getD t undef)) : OprOk C m F L W o a vars env:=by
  intro x x' hmem hx
  cases x with
  | tmp t =>
    simp only [compO] at hx
    split at hx
    · rename_i i hi
      injection hx with hx; subst hx
      exact hv i t hmem (idxOf_get hi)
    · rename_i hi
      rw [Option.map_eq_some_iff] at hx
      obtain ⟨i,hd,rfl⟩:=hx
      have hn : t ∉ C.slots:=by
        intro hmem
        have : (C.slots.idxOf? t).isSome:=by simpa [List.idxOf?_eq_none_iff] using hmem
        rw [hi] at this; cases this
      show RepA m F L W (env.getD i .junk) _
      by_cases hlt : i < env.length
      · exact hl i t hmem hlt (idxOf_get hd) hn
      · rw [List.getD_eq_getElem?_getD,List.getElem?_eq_none (by omega)]
        exact .junk _
  | const v =>
    simp only [compO,Option.map_eq_some_iff] at hx
    obtain ⟨d,hd,rfl⟩:=hx
    exact .imm _ _ (rep_const hd)
  | global g =>
    simp only [compO,Option.map_eq_some_iff] at hx
    obtain ⟨cs,hc,rfl⟩:=hx
    rw [hg] at hc
    exact .imm _ _ (R.gl g cs hc)
  | func f =>
    simp only [compO,Option.some.injEq] at hx
    subst hx
    exact .imm _ _ (.fn f [] [] #[] #[] rfl rfl (by simp) (by simp))
theorem opr_ok {nt : Nat} (hg : C.glob = gb) (R : Rel gb m F L W (sto st)) (hv : Vr nt C.slots m F L W a vars) (hl : Lc C.slots C.dsts m F L W a env) : OprOk C m F L W o a vars env :=
  opr_ok2 hg R (fun i t _ h => hv.vr i t h) (fun p t _ h1 h2 h3 => hl p t h1 h2 h3)
theorem put_get {dst : Option Tmp} {v : Value} {t : Nat} (h : dst ≠ some t) : (a.put dst v).tmps.getD t undef = a.tmps.getD t undef:=by
  cases dst with
  | none => rfl
  | some d =>
    have : d ≠ t:=fun e => h (e ▸ rfl)
    simp [Act.put,Array.getD_eq_getD_getElem?,Array.getElem?_setIfInBounds_ne this]
theorem put_self {v : Value} {t : Nat} (h : t < a.tmps.size) : (a.put (some t) v).tmps.getD t undef = v:=by
  simp [Act.put,Array.getD_eq_getD_getElem?,h]
theorem put_size {dst : Option Tmp} {v : Value} : (a.put dst v).tmps.size = a.tmps.size:=by
  cases dst <;> simp [Act.put]
theorem Vr.mono {nt : Nat} {slots : List Nat} (h : Vr nt slots m F L W a vars) (hr : ∀ v w,RepA m F L W v w → RepA m' F' L W' v w) : Vr nt slots m' F' L W' a vars:=⟨h.sz,h.ln,fun i t ht => hr _ _ (h.vr i t ht)⟩
theorem Vr.put {nt : Nat} {slots : List Nat} {dst : Option Nat} {v : AV} {w : Value} (h : Vr nt slots m F L W a vars) (hn : slots.Nodup) (hd : ∀ t,dst = some t → t < nt) (hr : RepA m F L W v w) :
    Vr nt slots m F L W (a.put dst w) (setW vars (dst.bind fun d => slots.idxOf? d) v):=by
  have hsz:=h.sz
  have hln : (setW vars (dst.bind fun d => slots.idxOf? d) v).length = vars.length:=by
    unfold setW; split <;> simp
  refine ⟨by rw [put_size]; exact hsz,hln.trans h.ln,fun i t ht => ?_⟩
  have hil:=(List.getElem?_eq_some_iff.1 ht).1
  by_cases e : dst = some t
  · subst e
    rw [put_self (by have:=hd t rfl; omega)]
    have hi : slots.idxOf? t = some i:=idx_of hn ht
    simp only [Option.bind_some,hi,setW]
    rw [List.getD_eq_getElem?_getD,List.getElem?_set_self (by rw [h.ln]; exact hil)]
    exact hr
  · rw [put_get e]
    have : (setW vars (dst.bind fun d => slots.idxOf? d) v).getD i .junk = vars.getD i .junk:=by
      cases dst with
      | none => rfl
      | some d =>
        simp only [Option.bind_some]
        cases hj : slots.idxOf? d with
        | none => rfl
        | some j =>
          have hji : j ≠ i:=by
            rintro rfl
            have:=idxOf_get hj
            rw [ht] at this; injection this with this; subst this; exact e rfl
          simp only [setW,List.getD_eq_getElem?_getD]
          rw [List.getElem?_set_ne hji]
    rw [this]; exact h.vr i t ht
theorem uniq {slots : List Nat} : ∀ {ops : List Oper},((ops.filterMap (·.dst)).filter fun d => !slots.contains d).Nodup → ∀ (i j t : Nat),i < j → (ops.map (·.dst))[i]? = some (some t) → (ops.map (·.dst))[j]? = some (some t) → t ∈ slots
  | [],_,i,j,t,_,h,_ => by simp at h
  | o :: r,hn,i,j,t,hij,h1,h2 => by
    obtain ⟨j,rfl⟩ : ∃ k,j = k + 1:=⟨j - 1,by omega⟩
    simp only [List.map_cons,List.getElem?_cons_succ] at h2
    apply Classical.byContradiction
    intro hc
    cases i with
    | zero =>
      simp only [List.map_cons,List.getElem?_cons_zero,Option.some.injEq] at h1
      rw [List.filterMap_cons_some h1,List.filter_cons_of_pos (by simpa using hc),List.nodup_cons] at hn
      refine hn.1 (List.mem_filter.2 ⟨List.mem_filterMap.2 ?_,by simpa using hc⟩)
      rw [List.getElem?_map,Option.map_eq_some_iff] at h2
      obtain ⟨o',ho',hd⟩:=h2
      exact ⟨o',List.mem_of_getElem? ho',hd⟩
    | succ i =>
      simp only [List.map_cons,List.getElem?_cons_succ] at h1
      have hn' : ((r.filterMap (·.dst)).filter fun d => !slots.contains d).Nodup:=by
        cases hd : o.dst with
        | none => rwa [List.filterMap_cons_none hd] at hn
        | some d =>
          rw [List.filterMap_cons_some hd] at hn
          by_cases hp : (!slots.contains d) = true
          · rw [List.filter_cons_of_pos (p:=fun d => !slots.contains d) hp,List.nodup_cons] at hn; exact hn.2
          · rwa [List.filter_cons_of_neg (p:=fun d => !slots.contains d) hp] at hn
      exact hc (uniq hn' i j t (by omega) h1 h2)
theorem Lc.put {slots : List Nat} {ops : List Oper} {dst : Option Nat} {v : AV} {w : Value} {nt : Nat} (h : Lc slots (ops.map (·.dst)) m F L W a env) (hn : ((ops.filterMap (·.dst)).filter fun d => !slots.contains d).Nodup)
    (hd : (ops.map (·.dst))[env.length]? = some dst) (ht : ∀ t,dst = some t → t < nt) (hsz : nt ≤ a.tmps.size) (hr : RepA m F L W v w) : Lc slots (ops.map (·.dst)) m F L W (a.put dst w) (env ++ [v]):=by
  intro i t hi hdi hns
  rw [List.length_append,List.length_singleton] at hi
  by_cases e : i = env.length
  · subst e
    rw [hd] at hdi
    injection hdi with hdi; subst hdi
    rw [put_self (by have:=ht t rfl; omega),List.getD_eq_getElem?_getD,List.getElem?_append_right (Nat.le_refl _),Nat.sub_self]
    exact hr
  · have hlt : i < env.length:=by omega
    have hne : dst ≠ some t:=by
      rintro rfl
      exact hns (uniq hn i env.length t hlt hdi hd)
    rw [put_get hne,List.getD_eq_getElem?_getD,List.getElem?_append_left hlt]
    have:=h i t hlt hdi hns
    rwa [List.getD_eq_getElem?_getD] at this
theorem want_eq2 {slots : List Nat} {ops : Array Oper} {dsts : List (Option Nat)} {pos : Nat → Option Nat} {g' : Option (Nat × Bool)} {b : Bool} (hl : ∀ j w p t,o.guard = some (j,w) → pos j = some p → p < env.length → (ops[j]?).bind (·.dst) = some t → t ∉ slots → RepA m F L W (env.getD p .junk) (a.tmps.getD t undef)) (hc : compG { slots:=slots,dsts:=dsts,pos:=pos,glob:=gb,h:=C.h } o.guard = some g')
    (hg : ∀ j w,o.guard = some (j,w) → ∃ t,(ops[j]?).bind (·.dst) = some t ∧ t ∉ slots) (hsz : ∀ j w t,o.guard = some (j,w) → (ops[j]?).bind (·.dst) = some t → t < a.tmps.size) (h : wantG env g' = some b) : Region.wanted o (yielded ops a.tmps) = b:=by
  unfold Region.wanted
  cases hgd : o.guard with
  | none =>
    rw [hgd] at hc
    simp only [compG,Option.some.injEq] at hc
    subst hc
    simp only [wantG,Option.some.injEq] at h
    exact h
  | some jw =>
    obtain ⟨j,w⟩:=jw
    rw [hgd] at hc
    simp only [compG,Option.map_eq_some_iff] at hc
    obtain ⟨p,hpj,rfl⟩:=hc
    obtain ⟨t,ht,hns⟩:=hg j w hgd
    have hts:=hsz j w t hgd ht
    have hplt : p < env.length ∨ env.getD p .junk = .junk:=by
      by_cases h : p < env.length
      · exact .inl h
      · exact .inr (by rw [List.getD_eq_getElem?_getD,List.getElem?_eq_none (by omega)]; rfl)
    simp only [wantG] at h
    have hy : yielded ops a.tmps j = match a.tmps.getD t undef with | .bool b => some b | _ => none:=by
      unfold yielded
      rw [ht]
      simp only [Option.bind_some,Array.getD_eq_getD_getElem?]
      rw [Array.getElem?_eq_getElem hts]
      simp only [Option.getD_some]
      generalize a.tmps[t] = z
      cases z <;> simp
    rcases hplt with hlt | hj
    · have hr:=hl j w p t hgd hpj hlt ht hns
      split at h
      · rename_i c e
        rw [e] at hr
        have hv:=imm_bool hr
        simp only [hy,hv]
        injection h with h; subst h
        cases c <;> cases w <;> rfl
      · rename_i e
        rw [e] at hr
        have hv : a.tmps.getD t undef = .tuple #[]:=by
          generalize a.tmps.getD t undef = z at hr
          cases hr with
          | imm _ _ h =>
            cases h with
            | tup _ vs hl _ => have : vs = #[]:=Array.eq_empty_of_size_eq_zero hl; rw [this]
        simp only [Option.some.injEq] at h
        subst h
        simp only [hy,hv]
        rfl
      · cases h
    · rw [hj] at h; cases h
theorem want_eq {slots : List Nat} {ops : Array Oper} {dsts : List (Option Nat)} {pos : Nat → Option Nat} {g' : Option (Nat × Bool)} {b : Bool} (hl : Lc slots dsts m F L W a env) (hp : ∀ j p,pos j = some p → dsts[p]? = (ops[j]?).map (·.dst)) (hc : compG { slots:=slots,dsts:=dsts,pos:=pos,glob:=gb,h:=C.h } o.guard = some g')
    (hg : ∀ j w,o.guard = some (j,w) → ∃ t,(ops[j]?).bind (·.dst) = some t ∧ t ∉ slots) (hsz : ∀ j w t,o.guard = some (j,w) → (ops[j]?).bind (·.dst) = some t → t < a.tmps.size) (h : wantG env g' = some b) : Region.wanted o (yielded ops a.tmps) = b:=by
  refine want_eq2 (C:=C) (gb:=gb) (slots:=slots) (dsts:=dsts) (pos:=pos) (fun j w p t _ hpj hlt ht hns => hl p t hlt ?_ hns) hc hg hsz h
  rw [hp j p hpj]
  cases ho : ops[j]? with
  | none => rw [ho] at ht; cases ht
  | some o' => rw [ho] at ht; simpa using ht
end
end Go.Vm

/- Soundness: a region whose order is given. -/
namespace Go.Vm
open Go
section
variable {P : Program} {gb : Nat → Option (List D)} {X : XT} {C : Ctx} {o : Oper} {a a' : Act} {W W' W2 : World} {m m' m2 : Nat → Option Nat} {F F' F1 F2 : Nat → Prop} {L : Option Nat} {XO XO' XO2 : Nat → Prop} {st st' st2 : List AO} {ext : Option Ext} {vars env : List AV} {nid : Nat} {ro : Option Nat} {lo : Lower}
theorem local_lt {nt : Nat} {ops : List Oper} {slots : List Nat} (h : localsOk nt ops slots = true) : ((ops.filterMap (·.dst)).filter fun d => !slots.contains d).Nodup ∧ ∀ o ∈ ops,∀ t,o.dst = some t → t < nt:=by
  simp only [localsOk,Bool.and_eq_true,decide_eq_true_eq] at h
  refine ⟨h.1.1,fun o ho t ht => ?_⟩
  have:=List.all_eq_true.1 h.1.2 o ho
  rw [ht] at this
  simpa using this
theorem guard_ok {ops : List Oper} {slots : List Nat} (h : guardsOk ops slots = true) {i : Nat} {o : Oper} (ho : ops[i]? = some o) {j : Nat} {w : Bool} (hg : o.guard = some (j,w)) : j < i ∧ ∃ t,(ops[j]?).bind (·.dst) = some t ∧ t ∉ slots:=by
  have hm : (o,i) ∈ ops.zipIdx:=by
    rw [List.mem_iff_getElem?]
    exact ⟨i,by rw [List.getElem?_zipIdx,ho]; simp⟩
  have:=List.all_eq_true.1 h (o,i) hm
  simp only [hg,Bool.and_eq_true,decide_eq_true_eq] at this
  refine ⟨this.1,?_⟩
  have h2:=this.2
  simp only [dstOf] at h2
  cases hd : (ops[j]?).bind (·.dst) with
  | none => rw [hd] at h2; cases h2
  | some t => rw [hd] at h2; exact ⟨t,rfl,by simpa using h2⟩
def Next (gb : Nat → Option (List D)) (X : XT) (nt : Nat) (slots : List Nat) (L : Option Nat) (nb : Nat) (m : Nat → Option Nat) (F XO : Nat → Prop) (W : World) (st : List AO) (s' : S) (a' : Act) (W' : World) : Prop :=
  ∃ m' F' XO',St gb X m' F' L XO' W' s'.st s'.ext ∧ Vr nt slots m' F' L W' a' s'.vars ∧ Mv nb m F XO W st m' F' XO' W' s'.st
theorem rep_undef : RepA m F L W (.imm (.tup [])) undef:=.imm _ _ (.tup [] #[] rfl (by simp))
theorem ops_sound (H : LowerOk P gb X lo) {ops : Array Oper} {slots : List Nat} {h : Hint} {nt nb : Nat} {Q : Exit → Act → World → Prop} (hC : C = { slots:=slots,dsts:=ops.toList.map (·.dst),pos:=fun i => some i,glob:=gb,h:=h }) (hn : slots.Nodup) (hloc : localsOk nt ops.toList slots = true) (hgu : guardsOk ops.toList slots = true) :
    ∀ (l : List Oper) (rs : List ROp) (env env' : List AV) (s s' : S) (a : Act) (W : World) (m : Nat → Option Nat) (F XO : Nat → Prop),l = ops.toList.drop env.length → env.length ≤ ops.size → compOps P C l = some rs → aOps lo rs env s = some (env',s') →
      St gb X m F L XO W s.st s.ext → Vr nt slots m F L W a s.vars → Lc slots (ops.toList.map (·.dst)) m F L W a env →
      (∀ a' W',Next gb X nt slots L nb m F XO W s.st s' a' W' → a'.defers = a.defers → Q .normal a' W') → wpOpsIn (fen ro) 0 P ops Q (List.range' env.length (ops.size - env.length)) a W
  | [],rs,env,env',s,s',a,W,m,F,XO,hl,hle,hc,ha,hS,hv,hlc,hQ => by
    simp only [compOps,Option.some.injEq] at hc
    subst hc
    simp only [aOps,Option.some.injEq,Prod.mk.injEq] at ha
    obtain ⟨rfl,rfl⟩:=ha
    have : ops.size - env.length = 0:=by
      have:=congrArg List.length hl
      simp at this; omega
    rw [this]
    exact hQ a W ⟨m,F,XO,hS,hv,Mv.refl nb⟩ rfl
  | o :: l,rs,env,env',s,s',a,W,m,F,XO,hl,hle,hc,ha,hS,hv,hlc,hQ => by
    have hlt : env.length < ops.size:=by
      have:=congrArg List.length hl
      simp at this; omega
    have ho : ops.toList[env.length]? = some o:=by
      have:=congrArg (fun x => x[0]?) hl
      simp only [List.getElem?_cons_zero,List.getElem?_drop,Nat.add_zero] at this
      exact this.symm
    have ho' : ops[env.length]? = some o:=by simpa using ho
    have hl2 : l = ops.toList.drop (env.length + 1):=by
      have:=congrArg List.tail hl
      simpa [List.tail_drop] using this
    have hmem : o ∈ ops.toList:=List.mem_of_getElem? ho
    obtain ⟨hnd,hdl⟩:=local_lt hloc
    have hdst : (ops.toList.map (·.dst))[env.length]? = some o.dst:=by rw [List.getElem?_map,ho]; rfl
    simp only [compOps] at hc
    split at hc
    · rename_i op g rs' h1 h2 h3
      injection hc with hc; subst hc
      have hrange : List.range' env.length (ops.size - env.length) = env.length :: List.range' (env.length + 1) (ops.size - (env.length + 1)):=by
        obtain ⟨d,hd⟩ : ∃ d,ops.size - env.length = d + 1:=⟨ops.size - env.length - 1,by omega⟩
        rw [hd,List.range'_succ]
        congr 2; omega
      rw [hrange]
      simp only [wpOpsIn,ho']
      have hwant : ∀ b,wantG env g = some b → Region.wanted o (yielded ops a.tmps) = b:=by
        intro b hb
        refine want_eq (C:=C) (gb:=gb) (slots:=slots) (pos:=fun i => some i) hlc (fun j p hp => ?_) (g':=g) ?_ (fun j w hg => ?_) (fun j w t hg ht => ?_) hb
        · injection hp with hp; subst hp; rw [List.getElem?_map]; simp
        · rw [hC] at h2; rw [hC]; exact h2
        · obtain ⟨_,t,ht,hns⟩:=guard_ok hgu ho hg
          exact ⟨t,by simpa using ht,hns⟩
        · cases hoj : ops[j]? with
          | none => rw [hoj] at ht; cases ht
          | some oj =>
            rw [hoj] at ht
            have:=hdl oj (by rw [← Array.getElem?_toList] at hoj; exact List.mem_of_getElem? hoj) t ht
            exact Nat.lt_of_lt_of_le this hv.sz
      have hslots : C.slots = slots:=by rw [hC]
      have next : ∀ (v : AV) (w : Value) (W1 : World) (s1 : S) (m1 : Nat → Option Nat) (F1 XO1 : Nat → Prop),St gb X m1 F1 L XO1 W1 s1.st s1.ext → s1.vars = s.vars → Mv nb m F XO W s.st m1 F1 XO1 W1 s1.st → (∀ u z,RepA m F L W u z → RepA m1 F1 L W1 u z) → RepA m1 F1 L W1 v w →
          aOps lo rs' (env ++ [v]) { s1 with vars:=setW s1.vars (o.dst.bind fun d => slots.idxOf? d) v } = some (env',s') →
          wpOpsIn (fen ro) 0 P ops Q (List.range' (env.length + 1) (ops.size - (env.length + 1))) (a.put o.dst w) W1:=by
        intro v w W1 s1 m1 F1 XO1 S1 hvars M1 hmono hrv ha'
        have hlen : (env ++ [v]).length = env.length + 1:=by simp
        have:=ops_sound H hC hn hloc hgu l rs' (env ++ [v]) env' { s1 with vars:=setW s1.vars (o.dst.bind fun d => slots.idxOf? d) v } s' (a.put o.dst w) W1 m1 F1 XO1 (by rw [hlen]; exact hl2) (by rw [hlen]; exact hlt) h3 ha' S1
          (by rw [hvars]; exact (hv.mono hmono).put hn (fun t ht => hdl o hmem t ht) hrv)
          (Lc.put (nt:=nt) (fun i t h1 h2 h3 => hmono _ _ (hlc i t h1 h2 h3)) hnd hdst (fun t ht => hdl o hmem t ht) hv.sz hrv)
          (fun a' W' hN hdef => hQ a' W' (by
            obtain ⟨m',F',XO',k1,k2,k3⟩:=hN
            exact ⟨m',F',XO',k1,k2,M1.trans k3⟩) (hdef.trans (by cases o.dst <;> rfl)))
        rw [hlen] at this
        exact this
      simp only [aOps] at ha
      split at ha
      · cases ha
      · rename_i hw
        rw [hwant false hw]
        simp only [Bool.false_eq_true,if_false]
        refine ⟨fun f _ => fen_fn ro f,?_⟩
        rw [hslots] at ha
        exact next (.imm (.tup [])) undef W s m F XO hS rfl (Mv.refl nb) (fun _ _ h => h) rep_undef ha
      · rename_i hw
        rw [hwant true hw]
        simp only [if_true]
        split at ha
        · cases ha
        · rename_i v s1 hop
          obtain ⟨hok,hvars⟩:=aOp_sound (ro:=ro) (a:=a) H h1 hS (opr_ok (nt:=nt) (by rw [hC]) hS.R (by rw [hC]; exact hv) (by rw [hC]; exact hlc)) hop
          rw [hslots] at ha
          refine hok _ Q fun w W1 ⟨m1,F1,XO1,p⟩ => ?_
          exact next v w W1 s1 m1 F1 XO1 p.s hvars (p.mv nb) (fun u z h => p.rep hS h) p.rv ha
    · cases hc
end
end Go.Vm

/- Any order of a region: the schedule; what an operation leaves alone. -/
namespace Go.Vm
open Go
section
variable {P : Program} {gb : Nat → Option (List D)} {X : XT} {C : Ctx} {o : Oper} {a a' : Act} {W W' W2 : World} {m m' m2 : Nat → Option Nat} {F F' F1 F2 : Nat → Prop} {L : Option Nat} {XO XO' XO2 : Nat → Prop} {st st' st2 : List AO} {ext : Option Ext} {vars env : List AV} {nid : Nat} {ro : Option Nat} {lo : Lower}
theorem app_keep {news : List AO} {i : Nat} (h : i < st.length) : sto (st ++ news) i = sto st i:=by
  rw [sto_append]; unfold put; rw [if_neg (by omega)]
theorem set_keep {id i : Nat} {ob : AO} (h : i ≠ id) : sto (st.set id ob) i = sto st i:=by
  rw [sto_set,if_neg (fun e => h e.1)]
theorem freeze_keep : ∀ {l : List Nat} {st2 : List AO},freeze st l = some st2 → st2.length = st.length ∧ ∀ i,i ∉ l → sto st2 i = sto st i
  | [],st2,h => by simp only [freeze,Option.some.injEq] at h; subst h; exact ⟨rfl,fun _ _ => rfl⟩
  | k :: r,st2,h => by
    unfold freeze at h
    split at h
    · rename_i st1 h1
      obtain ⟨k1,k2⟩:=freeze_keep h1
      split at h
      · injection h with h; subst h
        refine ⟨by simp [k1],fun i hi => ?_⟩
        rw [set_keep (fun e => hi (by simp [e])),k2 i (fun h => hi (by simp [h]))]
      · cases h
    · cases h
theorem aOp_keep {s s' : S} {op : IOp} {v : AV} (h : aOp lo vars env s op = some (v,s')) : s.st.length ≤ s'.st.length ∧ ∀ i,i < s.st.length → i ∉ wIds vars env s.st op → sto s'.st i = sto s.st i:=by
  cases hq : isQ op with
  | true =>
    rw [aOp_quiet hq] at h
    split at h
    · simp only [Option.some.injEq,Prod.mk.injEq] at h
      obtain ⟨rfl,rfl⟩:=h
      exact ⟨by simp,fun i hi _ => app_keep hi⟩
    · cases h
  | false =>
    cases op with
    | bslice own sz z n ps =>
      simp only [aOp] at h
      split at h
      · rename_i st2 hz
        split at h
        · simp only [Option.some.injEq,Prod.mk.injEq] at h
          obtain ⟨_,rfl⟩:=h
          obtain ⟨k1,k2⟩:=freeze_keep hz
          exact ⟨by simp [k1],fun i hl hi => by rw [app_keep (by omega)]; exact k2 i hi⟩
        · cases h
      · cases h
    | store n x y =>
      simp only [aOp] at h
      split at h
      · rename_i st2 hst
        simp only [Option.some.injEq,Prod.mk.injEq] at h
        obtain ⟨rfl,rfl⟩:=h
        unfold aStore at hst
        simp only at hst
        split at hst
        · cases hst
        · split at hst
          · rename_i id off e
            have key : ∀ ob,s.st.set id ob = st2 → s.st.length ≤ st2.length ∧ ∀ i,i < s.st.length → i ∉ wIds vars env s.st (.store n x y) → sto st2 i = sto s.st i:=by
              rintro ob rfl
              refine ⟨by simp,fun i _ hi => set_keep fun e2 => hi ?_⟩
              simp only [wIds,e,ids]; simp [e2]
            split at hst
            · split at hst
              · exact key _ (Option.some.inj hst)
              · cases hst
            · split at hst
              · split at hst
                · exact key _ (Option.some.inj hst)
                · cases hst
              · cases hst
            · cases hst
          · cases hst
      · cases h
    | append sz bytes x y =>
      simp only [aOp] at h
      split at h
      · simp only [Option.some.injEq,Prod.mk.injEq] at h
        obtain ⟨rfl,rfl⟩:=h
        exact ⟨by simp,fun i hi _ => app_keep hi⟩
      · rename_i v' id news happ
        simp only [Option.some.injEq,Prod.mk.injEq] at h
        obtain ⟨rfl,rfl⟩:=h
        refine ⟨by simp,fun i hi hn => ?_⟩
        rw [app_keep (by simpa using hi)]
        refine set_keep fun e2 => hn ?_
        subst e2
        unfold aAppend at happ
        split at happ
        · cases happ
        · split at happ
          · cases happ
          · split at happ
            · split at happ
              · simp at happ
              · split at happ <;> simp at happ
            · split at happ
              · cases happ
              · split at happ
                · simp at happ
                · split at happ <;> simp at happ
            · rename_i id0 sz0 lo n e
              split at happ
              · split at happ
                · simp only [Option.some.injEq,Prod.mk.injEq] at happ
                  simp only [wIds,e,ids]; simp [happ.2.1]
                · cases happ
              · cases happ
            · cases happ
      · cases h
    | mapup x y z =>
      simp only [aOp] at h
      split at h
      · rename_i id k d e1 e2 e3
        split at h
        · simp only [Option.some.injEq,Prod.mk.injEq] at h
          obtain ⟨rfl,rfl⟩:=h
          refine ⟨by simp,fun i _ hi => set_keep fun e => hi ?_⟩
          simp only [wIds,e1,ids]; simp [e]
        · cases h
      · cases h
    | copy sz x y =>
      simp only [aOp] at h
      split at h
      · rename_i id sz' p n sz'' es e1 hsrc
        have key : ∀ ob,s.st.set id ob = s'.st → s.st.length ≤ s'.st.length ∧ ∀ i,i < s.st.length → i ∉ wIds vars env s.st (.copy sz x y) → sto s'.st i = sto s.st i:=by
          intro ob e
          rw [← e]
          refine ⟨by simp,fun i _ hi => set_keep fun e2 => hi ?_⟩
          simp only [wIds,e1,ids]; simp [e2]
        split at h
        · split at h
          · split at h
            · simp only [Option.some.injEq,Prod.mk.injEq] at h
              obtain ⟨_,h2⟩:=h
              exact key _ (by rw [← h2])
            · cases h
          · split at h
            · simp only [Option.some.injEq,Prod.mk.injEq] at h
              obtain ⟨_,h2⟩:=h
              exact key _ (by rw [← h2])
            · cases h
          · cases h
        · cases h
      · simp only [Option.some.injEq,Prod.mk.injEq] at h
        obtain ⟨_,rfl⟩:=h
        exact ⟨Nat.le_refl _,fun _ _ _ => rfl⟩
      · simp only [Option.some.injEq,Prod.mk.injEq] at h
        obtain ⟨_,rfl⟩:=h
        exact ⟨Nat.le_refl _,fun _ _ _ => rfl⟩
      · cases h
    | clear z x =>
      simp only [aOp] at h
      split at h
      · rename_i id sz0 p n e1
        split at h
        · split at h
          · simp only [Option.some.injEq,Prod.mk.injEq] at h
            obtain ⟨_,rfl⟩:=h
            refine ⟨by simp,fun i _ hi => set_keep fun e2 => hi ?_⟩
            simp only [wIds,e1,ids]; simp [e2]
          · cases h
        · cases h
      · simp only [Option.some.injEq,Prod.mk.injEq] at h
        obtain ⟨_,rfl⟩:=h
        exact ⟨Nat.le_refl _,fun _ _ _ => rfl⟩
      · simp only [Option.some.injEq,Prod.mk.injEq] at h
        obtain ⟨_,rfl⟩:=h
        exact ⟨Nat.le_refl _,fun _ _ _ => rfl⟩
      · cases h
    | range x =>
      simp only [aOp] at h
      split at h
      · simp only [Option.some.injEq,Prod.mk.injEq] at h
        obtain ⟨_,rfl⟩:=h
        exact ⟨by simp,fun i hi _ => app_keep hi⟩
      · cases h
    | next x =>
      simp only [aOp] at h
      split at h
      · rename_i id e1
        split at h
        · split at h
          · simp only [Option.some.injEq,Prod.mk.injEq] at h
            obtain ⟨_,rfl⟩:=h
            refine ⟨by simp,fun i _ hi => set_keep fun e2 => hi ?_⟩
            simp only [wIds,e1,ids]; simp [e2]
          · simp only [Option.some.injEq,Prod.mk.injEq] at h
            obtain ⟨_,rfl⟩:=h
            exact ⟨Nat.le_refl _,fun _ _ _ => rfl⟩
        · cases h
      · cases h
    | call md x args =>
      simp only [aOp,aCall] at h
      split at h
      · split at h
        · split at h
          · simp only [Option.some.injEq,Prod.mk.injEq] at h
            obtain ⟨_,rfl⟩:=h
            exact ⟨Nat.le_refl _,fun _ _ _ => rfl⟩
          · cases h
        · cases h
      · split at h
        · cases h
        · rename_i f p q hf
          have hin : ∀ i,i ∉ wIds vars env s.st (.call md x args) → i ∉ idsL (p ++ opnds vars env args ++ q) ∧ i ∉ reach s.st 1000 [] (idsL (p ++ opnds vars env args ++ q)):=by
            intro i hi
            simp only [wIds,hf,List.mem_append,not_or] at hi
            refine ⟨fun h => ?_,hi.2⟩
            have:=fnOf_ids hf i h
            rw [List.mem_append] at this
            exact this.elim hi.1.1 hi.1.2
          split at h
          · split at h
            · cases h
            · split at h
              · cases h
              · split at h
                · simp only [Option.some.injEq,Prod.mk.injEq] at h
                  obtain ⟨_,rfl⟩:=h
                  exact ⟨Nat.le_refl _,fun _ _ _ => rfl⟩
                · split at h
                  · rename_i st2 hz
                    simp only [Option.some.injEq,Prod.mk.injEq] at h
                    obtain ⟨_,rfl⟩:=h
                    obtain ⟨k1,k2⟩:=freeze_keep hz
                    exact ⟨by simp [k1],fun i _ hi => k2 i (hin i hi).1⟩
                  · cases h
          · split at h
            · cases h
            · split at h
              · cases h
              · split at h
                · simp only [Option.some.injEq,Prod.mk.injEq] at h
                  obtain ⟨_,rfl⟩:=h
                  exact ⟨by simp,fun i hi _ => app_keep hi⟩
                · split at h
                  · rename_i st2 hz
                    simp only [Option.some.injEq,Prod.mk.injEq] at h
                    obtain ⟨_,rfl⟩:=h
                    obtain ⟨k1,k2⟩:=freeze_keep hz
                    exact ⟨by simp [k1],fun i hl hi => by rw [app_keep (by omega)]; exact k2 i (hin i hi).1⟩
                  · cases h
          · split at h
            · cases h
            · split at h
              · cases h
              · split at h
                · split at h
                  · simp only [Option.some.injEq,Prod.mk.injEq] at h
                    obtain ⟨_,rfl⟩:=h
                    exact ⟨Nat.le_refl _,fun _ _ _ => rfl⟩
                  · cases h
                · cases h
          · split at h
            · cases h
            · split at h
              · simp only [Option.some.injEq,Prod.mk.injEq] at h
                obtain ⟨_,rfl⟩:=h
                refine ⟨by simp,fun i hl hi => ?_⟩
                rw [app_keep (by simpa using hl)]
                have hnone : idx (reach s.st 1000 [] (idsL (p ++ opnds vars env args ++ q))) i = none:=by
                  cases hj : idx (reach s.st 1000 [] (idsL (p ++ opnds vars env args ++ q))) i with
                  | none => rfl
                  | some j => exact absurd (List.mem_of_getElem? (idx_get hj)) (hin i hi).2
                unfold sto
                rw [List.getD_eq_getElem?_getD,List.getElem?_map,List.getElem?_range hl]
                simp only [Option.map_some,hnone,Option.getD_some]
              · cases h
    | _ => cases hq
def cnt (listed : Array Bool) : Nat → Nat
  | 0 => 0
  | n + 1 => cnt listed n + if listed.getD n true = true then 0 else 1
theorem cnt_set {listed : Array Bool} {i : Nat} (hi : listed.getD i true = false) : ∀ n,(n ≤ i → cnt (listed.setIfInBounds i true) n = cnt listed n) ∧ (i < n → cnt (listed.setIfInBounds i true) n + 1 = cnt listed n)
  | 0 => ⟨fun _ => rfl,fun h => by omega⟩
  | n + 1 => by
    obtain ⟨h1,h2⟩:=cnt_set hi n
    have his : i < listed.size:=by
      rcases Nat.lt_or_ge i listed.size with h | h
      · exact h
      · simp [Array.getD_eq_getD_getElem?,Array.getElem?_eq_none h] at hi
    refine ⟨fun h => ?_,fun h => ?_⟩
    · simp only [cnt,h1 (by omega)]
      rw [getD_set_ne true (by omega)]
    · by_cases e : i = n
      · subst e
        simp only [cnt,h1 (Nat.le_refl _),hi]
        have : (listed.setIfInBounds i true).getD i true = true:=by simp [his]
        simp [this]
      · have:=h2 (by omega)
        simp only [cnt]
        rw [getD_set_ne true e]
        omega
theorem cnt_zero {listed : Array Bool} : ∀ {n : Nat},cnt listed n = 0 → ∀ i,i < n → listed.getD i true = true
  | 0,_,i,h => by omega
  | n + 1,h,i,hi => by
    simp only [cnt] at h
    by_cases hn : listed.getD n true = true
    · by_cases e : i = n
      · subst e; exact hn
      · exact cnt_zero (n:=n) (by rw [if_pos hn] at h; omega) i (by omega)
    · rw [if_neg hn] at h; omega
theorem cnt_le (listed : Array Bool) : ∀ n,cnt listed n ≤ n
  | 0 => Nat.le_refl _
  | n + 1 => by
    have:=cnt_le listed n
    simp only [cnt]
    split <;> omega
theorem sched {ops : Array Oper} {Fe : Fence} {n : Nat} {Q : Exit → Act → World → Prop} (I : Array Bool → Act → World → Prop) (edges : ∀ (i : Nat) (o : Oper),ops[i]? = some o → ∀ e ∈ o.after,Region.binds .any e = true → e.on < i)
    (step : ∀ (listed : Array Bool) (a : Act) (w : World) (i : Nat) (o : Oper),listed.size = ops.size → I listed a w → ops[i]? = some o → listed.getD i true = false → (∀ e ∈ o.after,Region.binds .any e = true → listed.getD e.on false = true) →
      (Region.wanted o (yielded ops a.tmps) = true → ∀ next,(∀ a' w',I (listed.setIfInBounds i true) a' w' → next a' w') → o.wpIn Fe n P a w next Q) ∧
      (Region.wanted o (yielded ops a.tmps) = false → (∀ f,o.about P w a.eval = some f → Fe.fn f) ∧ I (listed.setIfInBounds i true) (a.put o.dst undef) w))
    (done : ∀ listed a w,I listed a w → (∀ i,i < ops.size → listed.getD i true = true) → Q .normal a w) :
    ∀ (fuel t : Nat) (listed : Array Bool) (a : Act) (w : World),listed.size = ops.size → cnt listed ops.size ≤ fuel → I listed a w → wpOpsIn Fe n P ops Q (Region.linearise.go .any ops fuel t listed []) a w:=by
  intro fuel
  induction fuel with
  | zero =>
    intro t listed a w hs hc hI
    simp only [Region.linearise.go,List.reverse_nil,wpOpsIn]
    exact done listed a w hI (cnt_zero (by omega))
  | succ fuel ih =>
    intro t listed a w hs hc hI
    simp only [Region.linearise.go]
    change wpOpsIn Fe n P ops Q (match (Region.ready .any ops listed)[t % (Region.ready .any ops listed).length]? with
      | some i => Region.linearise.go .any ops fuel (t / (Region.ready .any ops listed).length) (listed.setIfInBounds i true) [i]
      | none => [].reverse) a w
    cases hi : (Region.ready .any ops listed)[t % (Region.ready .any ops listed).length]? with
    | none =>
      have hnil : Region.ready .any ops listed = []:=by
        cases hr : Region.ready .any ops listed with
        | nil => rfl
        | cons x xs =>
          rw [hr] at hi
          have hlt : t % (x :: xs).length < (x :: xs).length:=Nat.mod_lt _ (by simp)
          simp at hi
          simp at hlt
          omega
      simp only [List.reverse_nil,wpOpsIn]
      refine done listed a w hI fun i hi => ?_
      have all : ∀ k,∀ i,i < k → i < ops.size → listed.getD i true = true:=by
        intro k
        induction k with
        | zero => intro i h; omega
        | succ k ihk =>
          intro i hik his
          apply Classical.byContradiction
          intro hc
          have hf : listed.getD i true = false:=by simpa using hc
          have hmem : i ∈ Region.ready .any ops listed:=by
            refine mem_ready.2 ⟨hf,ops[i],Array.getElem?_eq_getElem his,fun e he hb => ?_⟩
            have hlt:=edges i ops[i] (Array.getElem?_eq_getElem his) e he hb
            have:=ihk e.on (by omega) (by omega)
            have hsz : e.on < listed.size:=by omega
            simpa [hsz] using this
          rw [hnil] at hmem; cases hmem
      exact all (i + 1) i (by omega) hi
    | some i =>
      simp only []
      rw [linearise_go_acc,List.reverse_singleton,List.singleton_append]
      obtain ⟨hun,o,ho,hall⟩:=mem_ready.1 (List.mem_of_getElem? hi)
      obtain ⟨h1,h2⟩:=step listed a w i o hs hI ho hun hall
      have his : i < ops.size:=(Array.getElem?_eq_some_iff.1 ho).1
      have hc':=(cnt_set hun ops.size).2 his
      simp only [wpOpsIn,ho]
      split
      · rename_i hw
        exact h1 hw _ fun a' w' hI' => ih _ _ a' w' (by simpa using hs) (by omega) hI'
      · rename_i hw
        obtain ⟨k1,k2⟩:=h2 (by simpa using hw)
        exact ⟨k1,ih _ _ _ _ (by simpa using hs) (by omega) k2⟩
theorem befs_len : ∀ (l : List Oper) (acc : List Nat),(befs l acc).length = acc.length + l.length
  | [],acc => by simp [befs]
  | o :: r,acc => by simp [befs,befs_len r]; omega
theorem befs_get : ∀ (l : List Oper) (acc : List Nat) (i : Nat),i < acc.length → (befs l acc)[i]? = acc[i]?
  | [],acc,i,_ => rfl
  | o :: r,acc,i,h => by
    simp only [befs]
    rw [befs_get r _ i (by simp; omega),List.getElem?_append_left h]
theorem fold_bit (f : Nat → Nat) : ∀ (l : List Edge) (x j : Nat),(l.foldl (fun m e => if Region.binds .any e then m ||| 1 <<< e.on ||| f e.on else m) x).testBit j = true → x.testBit j = true ∨ ∃ e ∈ l,Region.binds .any e = true ∧ (e.on = j ∨ (f e.on).testBit j = true)
  | [],x,j,h => .inl h
  | e :: r,x,j,h => by
    simp only [List.foldl_cons] at h
    rcases fold_bit f r _ j h with h | ⟨e',h1,h2⟩
    · split at h
      · rename_i hb
        simp only [Nat.testBit_or,Bool.or_eq_true] at h
        rcases h with (h | h) | h
        · exact .inl h
        · refine .inr ⟨e,by simp,hb,.inl ?_⟩
          rw [Nat.testBit_shiftLeft] at h
          simp only [Bool.and_eq_true,decide_eq_true_eq] at h
          have h2:=h.2
          have : j - e.on = 0:=by
            rcases Nat.eq_zero_or_pos (j - e.on) with h | h
            · exact h
            · exfalso
              obtain ⟨q,hq⟩ : ∃ q,j - e.on = q + 1:=⟨j - e.on - 1,by omega⟩
              rw [hq] at h2
              simp [Nat.testBit_succ] at h2
          omega
        · exact .inr ⟨e,by simp,hb,.inr h⟩
      · exact .inl h
    · exact .inr ⟨e',by simp [h1],h2⟩
theorem befs_bit : ∀ (l : List Oper) (acc : List Nat) (i : Nat) (o : Oper) (j : Nat),l[i]? = some o → ((befs l acc).getD (acc.length + i) 0).testBit j = true →
    ∃ e ∈ o.after,Region.binds .any e = true ∧ (e.on = j ∨ (e.on < acc.length + i ∧ ((befs l acc).getD e.on 0).testBit j = true))
  | [],acc,i,o,j,h,_ => by simp at h
  | x :: r,acc,0,o,j,h,hb => by
    simp only [List.getElem?_cons_zero,Option.some.injEq] at h; subst h
    simp only [befs] at hb ⊢
    rw [Nat.add_zero,List.getD_eq_getElem?_getD,befs_get r _ _ (by simp),List.getElem?_append_right (Nat.le_refl _)] at hb
    simp only [Nat.sub_self,List.getElem?_cons_zero,Option.getD_some] at hb
    rcases fold_bit (fun k => acc.getD k 0) _ _ _ hb with h | ⟨e,h1,h2,h3⟩
    · simp at h
    · refine ⟨e,by simpa using h1,h2,?_⟩
      rcases h3 with h3 | h3
      · exact .inl h3
      · by_cases hlt : e.on < acc.length
        · refine .inr ⟨by omega,?_⟩
          rw [List.getD_eq_getElem?_getD,befs_get r _ _ (by simp; omega),List.getElem?_append_left hlt,← List.getD_eq_getElem?_getD]
          exact h3
        · rw [List.getD_eq_getElem?_getD,List.getElem?_eq_none (by omega)] at h3
          simp at h3
  | x :: r,acc,i + 1,o,j,h,hb => by
    simp only [List.getElem?_cons_succ] at h
    simp only [befs] at hb ⊢
    obtain ⟨acc',hacc⟩ : ∃ acc',acc' = acc ++ [x.after.toList.foldl (fun m e => if Region.binds .any e then m ||| 1 <<< e.on ||| acc.getD e.on 0 else m) 0]:=⟨_,rfl⟩
    rw [← hacc] at hb ⊢
    have hl : acc'.length = acc.length + 1:=by rw [hacc]; simp
    rw [show acc.length + (i + 1) = acc'.length + i by omega] at hb
    obtain ⟨e,h1,h2,h3⟩:=befs_bit r acc' i o j h hb
    exact ⟨e,h1,h2,h3.imp id fun h => ⟨by omega,h.2⟩⟩
theorem bef_listed {ops : Array Oper} {listed : Array Bool} (hcl : ∀ (i : Nat) (o : Oper),ops[i]? = some o → listed.getD i false = true → ∀ e ∈ o.after,Region.binds .any e = true → listed.getD e.on false = true) :
    ∀ (n i : Nat) (o : Oper) (j : Nat),i ≤ n → ops[i]? = some o → (∀ e ∈ o.after,Region.binds .any e = true → listed.getD e.on false = true) → ((befs ops.toList []).getD i 0).testBit j = true → listed.getD j false = true:=by
  intro n
  induction n with
  | zero =>
    intro i o j hi ho he hb
    have hi0 : i = 0:=by omega
    subst hi0
    obtain ⟨e,h1,h2,h3⟩:=befs_bit ops.toList [] 0 o j (by simpa using ho) (by simpa using hb)
    rcases h3 with h3 | h3
    · subst h3; exact he e h1 h2
    · simp at h3
  | succ n ih =>
    intro i o j hi ho he hb
    obtain ⟨e,h1,h2,h3⟩:=befs_bit ops.toList [] i o j (by simpa using ho) (by simpa using hb)
    rcases h3 with h3 | ⟨h3,h4⟩
    · subst h3; exact he e h1 h2
    · have hel:=he e h1 h2
      cases hoe : ops[e.on]? with
      | none =>
        rw [List.getD_eq_getElem?_getD,List.getElem?_eq_none (by rw [befs_len]; simp; simpa using hoe)] at h4
        simp at h4
      | some oe => exact ih e.on oe j (by simp at h3; omega) hoe (hcl e.on oe hoe hel) h4
end
end Go.Vm

/- Regions whose order is drawn: what is checked ahead,and the trace of the part in open order. -/
namespace Go.Vm
open Go
section
variable {P : Program} {C : Ctx} {lo : Lower} {st : List AO}
theorem compOps_get : ∀ {l : List Oper} {rs : List ROp},compOps P C l = some rs → rs.length = l.length ∧ ∀ (p : Nat) (o : Oper),l[p]? = some o → ∃ op g,compOp P C o = some op ∧ compG C o.guard = some g ∧ rs[p]? = some { w:=o.dst.bind fun d => C.slots.idxOf? d,g:=g,op:=op }
  | [],rs,h => by simp only [compOps,Option.some.injEq] at h; subst h; simp
  | o :: r,rs,h => by
    simp only [compOps] at h
    split at h
    · rename_i op g rs' h1 h2 h3
      injection h with h; subst h
      obtain ⟨k1,k2⟩:=compOps_get h3
      refine ⟨by simp [k1],fun p o' hp => ?_⟩
      cases p with
      | zero => simp only [List.getElem?_cons_zero,Option.some.injEq] at hp; subst hp; exact ⟨op,g,h1,h2,rfl⟩
      | succ p => exact k2 p o' hp
    · cases h
theorem pick_get {ops : List Oper} : ∀ {l : List Nat},(∀ i ∈ l,i < ops.length) → (pickOps ops l).length = l.length ∧ ∀ p : Nat,(pickOps ops l)[p]? = (l[p]?).bind fun i => ops[i]?
  | [],_ => by simp [pickOps]
  | i :: r,h => by
    obtain ⟨h1,h2⟩:=pick_get (ops:=ops) (l:=r) fun j hj => h j (by simp [hj])
    obtain ⟨o,hi⟩ : ∃ o,ops[i]? = some o:=⟨_,List.getElem?_eq_getElem (h i (by simp))⟩
    have e : pickOps ops (i :: r) = o :: pickOps ops r:=by
      unfold pickOps
      rw [List.filterMap_cons_some hi]
    rw [e]
    refine ⟨by simp [h1],fun p => ?_⟩
    cases p with
    | zero => simp [hi]
    | succ p => simpa using h2 p
def QStep (lo : Lower) (st : List AO) (fl : List Nat) (envF : List AV) (fsF : List Nat) (vs : Nat → List AV) (ns : Nat → List AO) (p : Nat) (r : ROp) : Prop :=
  ∃ b v,wantG (envF.take p) r.g = some b ∧ envF[p]? = some v ∧ vs (p + 1) = setW (vs p) r.w v ∧ (b = false → v = .imm (.tup []) ∧ ns (p + 1) = ns p) ∧
    (b = true → ∃ n1,aQ lo (vs p) (envF.take p) st (st.length + (ns p).length) r.op = some (v,n1) ∧ ns (p + 1) = ns p ++ n1 ∧ (fl.contains p = true → n1 = [] ∧ ∀ i ∈ rIds (vs p) (envF.take p) r.op,i ∈ fsF)) ∧ (fl.contains p = true → ns (p + 1) = ns p)
theorem q_trace {fl : List Nat} : ∀ {rs : List ROp} {env vars : List AV} {news : List AO} {fs : List Nat} {envF varsF : List AV} {newsF : List AO} {fsF : List Nat},aQs lo st fl rs env vars news fs = some (envF,varsF,newsF,fsF) →
    ∃ (vs : Nat → List AV) (ns : Nat → List AO),envF.take env.length = env ∧ envF.length = env.length + rs.length ∧ vs env.length = vars ∧ ns env.length = news ∧ vs (env.length + rs.length) = varsF ∧ ns (env.length + rs.length) = newsF ∧ (∀ i ∈ fs,i ∈ fsF) ∧
      ∀ k r,rs[k]? = some r → QStep lo st fl envF fsF vs ns (env.length + k) r
  | [],env,vars,news,fs,envF,varsF,newsF,fsF,h => by
    simp only [aQs,Option.some.injEq,Prod.mk.injEq] at h
    obtain ⟨rfl,rfl,rfl,rfl⟩:=h
    exact ⟨fun _ => vars,fun _ => news,by simp,by simp,rfl,rfl,rfl,rfl,fun _ h => h,by simp⟩
  | r :: rest,env,vars,news,fs,envF,varsF,newsF,fsF,h => by
    have fin : ∀ (v : AV) (n1 : List AO) (fs' : List Nat),aQs lo st fl rest (env ++ [v]) (setW vars r.w v) (news ++ n1) fs' = some (envF,varsF,newsF,fsF) → (∀ i ∈ fs,i ∈ fs') →
        (∀ vs ns,vs env.length = vars → ns env.length = news → vs (env.length + 1) = setW vars r.w v → ns (env.length + 1) = news ++ n1 → envF.take env.length = env → envF[env.length]? = some v → (∀ i ∈ fs',i ∈ fsF) → QStep lo st fl envF fsF vs ns env.length r) →
        ∃ (vs : Nat → List AV) (ns : Nat → List AO),envF.take env.length = env ∧ envF.length = env.length + (r :: rest).length ∧ vs env.length = vars ∧ ns env.length = news ∧ vs (env.length + (r :: rest).length) = varsF ∧ ns (env.length + (r :: rest).length) = newsF ∧ (∀ i ∈ fs,i ∈ fsF) ∧
          ∀ k r',(r :: rest)[k]? = some r' → QStep lo st fl envF fsF vs ns (env.length + k) r':=by
      intro v n1 fs' h hfs hstep
      obtain ⟨vs,ns,k1,k2,k3,k4,k5,k6,k7,k8⟩:=q_trace h
      simp only [List.length_append,List.length_singleton] at k1 k2 k3 k4 k5 k6 k8
      have e1 : envF.take env.length = env:=by
        have:=congrArg (List.take env.length) k1
        rwa [List.take_take,Nat.min_eq_left (by omega),List.take_left'] at this
        rfl
      have e2 : envF[env.length]? = some v:=by
        have:=congrArg (fun x => x[env.length]?) k1
        simp only [List.getElem?_append_right (Nat.le_refl _),Nat.sub_self,List.getElem?_cons_zero] at this
        rwa [List.getElem?_take,if_pos (by omega)] at this
      let vs' : Nat → List AV:=fun p => if p = env.length then vars else vs p
      let ns' : Nat → List AO:=fun p => if p = env.length then news else ns p
      have v0 : vs' env.length = vars:=if_pos rfl
      have n0 : ns' env.length = news:=if_pos rfl
      have vg : ∀ p,env.length < p → vs' p = vs p:=fun p hp => if_neg (by omega)
      have ng : ∀ p,env.length < p → ns' p = ns p:=fun p hp => if_neg (by omega)
      refine ⟨vs',ns',e1,by rw [k2]; simp; omega,v0,n0,?_,?_,fun i hi => k7 i (hfs i hi),fun k r' hk => ?_⟩
      · rw [vg _ (by simp),List.length_cons,← k5]; congr 1; omega
      · rw [ng _ (by simp),List.length_cons,← k6]; congr 1; omega
      · cases k with
        | zero =>
          simp only [List.getElem?_cons_zero,Option.some.injEq] at hk; subst hk
          exact hstep vs' ns' v0 n0 (by rw [vg _ (by omega)]; exact k3) (by rw [ng _ (by omega)]; exact k4) e1 e2 k7
        | succ k =>
          have:=k8 k r' (by simpa using hk)
          rw [show env.length + 1 + k = env.length + (k + 1) by omega] at this
          unfold QStep at this ⊢
          rw [vg _ (by omega),vg _ (by omega),ng _ (by omega),ng _ (by omega)]
          exact this
    simp only [aQs] at h
    split at h
    · cases h
    · rename_i hw
      refine fin (.imm (.tup [])) [] fs (by rw [List.append_nil]; exact h) (fun _ h => h) fun vs ns h1 h2 h3 h4 h5 h6 _ => ?_
      rw [List.append_nil] at h4
      exact ⟨false,_,by rw [h5]; exact hw,h6,by rw [h3,h1],fun _ => ⟨rfl,by rw [h4,h2]⟩,fun h => (nomatch h),fun _ => by rw [h4,h2]⟩
    · rename_i hw
      split at h
      · cases h
      · rename_i v n1 hq
        split at h
        · cases h
        · rename_i hfl
          refine fin v n1 _ h (fun i hi => ?_) fun vs ns h1 h2 h3 h4 h5 h6 h7 => ?_
          · split
            · exact List.mem_append_right _ hi
            · exact hi
          · have hn1 : fl.contains env.length = true → n1 = []:=by
              intro hc
              rw [hc] at hfl
              simpa using hfl
            refine ⟨true,v,by rw [h5]; exact hw,h6,by rw [h3,h1],(fun h => nomatch h),fun _ => ⟨n1,by rw [h1,h2,h5]; exact hq,by rw [h4,h2],fun hc => ⟨hn1 hc,fun i hi => h7 i ?_⟩⟩,fun hc => by rw [h4,h2,hn1 hc,List.append_nil]⟩
            rw [if_pos hc]
            rw [h1,h5] at hi
            exact List.mem_append_left _ hi
end
end Go.Vm

/- Regions whose order is drawn: the facts that are checked ahead. -/
namespace Go.Vm
open Go
structure RK where
  P : Program
  gb : Nat → Option (List D)
  X : XT
  lo : Lower
  C : Ctx
  ops : Array Oper
  slots : List Nat
  nt : Nat
  nb : Nat
  q : List Nat
  t : List Nat
  fl : List Nat
  rs : List ROp
  s0 : S
  envF : List AV
  varsF : List AV
  newsF : List AO
  fsF : List Nat
  c : Option Nat
  vs : Nat → List AV
  ns : Nat → List AO
  envE : List AV
  sE : S
  L : Option Nat
  m0 : Nat → Option Nat
  F0 : Nat → Prop
  XO0 : Nat → Prop
  W0 : World
  a0 : Act
def RK.dst (k : RK) (i : Nat) : Option Nat:=(k.ops[i]?).bind (·.dst)
structure RK.Ok (k : RK) : Prop where
  cs : k.C.slots = k.slots
  cg : k.C.glob = k.gb
  ds : k.C.dsts = (pickOps k.ops.toList (k.q ++ k.t)).map (·.dst)
  po : ∀ i,k.C.pos i = (k.q ++ k.t).idxOf? i
  nd : k.slots.Nodup
  loc : localsOk k.nt k.ops.toList k.slots = true
  gu : guardsOk k.ops.toList k.slots = true
  qp : k.q.Pairwise (· < ·)
  tp : k.t.Pairwise (· < ·)
  qm : ∀ i,i ∈ k.q ↔ i < k.ops.size ∧ i ∉ k.t
  tm : ∀ i ∈ k.t,i < k.ops.size
  qok : quietOk k.ops k.q = true
  cok : chainOk k.ops (befs k.ops.toList []) k.q k.t = true
  flq : ∀ (p i j : Nat),k.q[p]? = some i → j ∈ k.t → ((befs k.ops.toList []).getD j 0).testBit i = false → k.fl.contains p = true
  late : ∀ c,k.c = some c → ∀ j ∈ k.t.drop c,∀ i ∈ k.q,((befs k.ops.toList []).getD j 0).testBit i = true
  comp : compOps k.P k.C (pickOps k.ops.toList (k.q ++ k.t)) = some k.rs
  tr : ∀ (p : Nat) r,(k.rs.take k.q.length)[p]? = some r → QStep k.lo k.s0.st k.fl k.envF k.fsF k.vs k.ns p r
  el : k.envF.length = k.q.length
  vl0 : k.s0.vars.length = k.slots.length
  v0 : k.vs 0 = k.s0.vars
  n0 : k.ns 0 = []
  vM : k.vs k.q.length = k.varsF
  nM : k.ns k.q.length = k.newsF
section
variable {k : RK}
theorem RK.Ok.order (h : k.Ok) : ∀ i ∈ k.q ++ k.t,i < k.ops.toList.length:=by
  intro i hi
  rw [List.mem_append] at hi
  simp only [Array.length_toList]
  exact hi.elim (fun hi => ((h.qm i).1 hi).1) (h.tm i)
theorem RK.Ok.dsts (h : k.Ok) {p i : Nat} (hp : (k.q ++ k.t)[p]? = some i) : k.C.dsts[p]? = some (k.dst i):=by
  rw [h.ds,List.getElem?_map,(pick_get h.order).2 p,hp]
  have hi:=h.order i (List.mem_of_getElem? hp)
  simp only [Option.bind_some,RK.dst]
  rw [List.getElem?_eq_getElem hi]
  have : k.ops[i]? = some k.ops.toList[i]:=by simp
  rw [this]; rfl
theorem RK.Ok.dsts' (h : k.Ok) {p d : Nat} (hp : k.C.dsts[p]? = some (some d)) : ∃ i,(k.q ++ k.t)[p]? = some i ∧ k.dst i = some d:=by
  have hl:=(List.getElem?_eq_some_iff.1 hp).1
  rw [h.ds,List.length_map,(pick_get h.order).1] at hl
  refine ⟨(k.q ++ k.t)[p],List.getElem?_eq_getElem hl,?_⟩
  have:=h.dsts (List.getElem?_eq_getElem hl)
  rw [hp] at this
  exact (Option.some.inj this).symm
theorem RK.Ok.op (h : k.Ok) {p i : Nat} {o : Oper} (hp : (k.q ++ k.t)[p]? = some i) (ho : k.ops[i]? = some o) :
    ∃ op g,compOp k.P k.C o = some op ∧ compG k.C o.guard = some g ∧ k.rs[p]? = some { w:=o.dst.bind fun d => k.slots.idxOf? d,g:=g,op:=op }:=by
  have:=(compOps_get h.comp).2 p o (by rw [(pick_get h.order).2 p,hp]; simpa using ho)
  rwa [h.cs] at this
theorem RK.Ok.qpos (_h : k.Ok) {p i : Nat} (hp : k.q[p]? = some i) : (k.q ++ k.t)[p]? = some i:=by
  rw [List.getElem?_append_left (List.getElem?_eq_some_iff.1 hp).1]; exact hp
theorem RK.Ok.tpos (_h : k.Ok) {r i : Nat} (hr : k.t[r]? = some i) : (k.q ++ k.t)[k.q.length + r]? = some i:=by
  rw [List.getElem?_append_right (by omega),Nat.add_sub_cancel_left]; exact hr
theorem pw_nodup {l : List Nat} (h : l.Pairwise (· < ·)) : l.Nodup:=h.imp fun h => by omega
theorem pw_inj {l : List Nat} (h : l.Pairwise (· < ·)) {a b x : Nat} (ha : l[a]? = some x) (hb : l[b]? = some x) : a = b:=by
  obtain ⟨h1,e1⟩:=List.getElem?_eq_some_iff.1 ha
  obtain ⟨h2,e2⟩:=List.getElem?_eq_some_iff.1 hb
  exact (List.getElem_inj (pw_nodup h)).1 (e1.trans e2.symm)
theorem pw_lt {l : List Nat} (h : l.Pairwise (· < ·)) {a b x y : Nat} (ha : l[a]? = some x) (hb : l[b]? = some y) : a < b ↔ x < y:=by
  obtain ⟨h1,e1⟩:=List.getElem?_eq_some_iff.1 ha
  obtain ⟨h2,e2⟩:=List.getElem?_eq_some_iff.1 hb
  rw [List.pairwise_iff_getElem] at h
  constructor
  · intro hab; have:=h a b h1 h2 hab; omega
  · intro hxy
    rcases Nat.lt_trichotomy a b with hab | hab | hab
    · exact hab
    · subst hab; omega
    · have:=h b a h2 h1 hab; omega
theorem looks_opr {ops : Array Oper} {o : Oper} {d : Nat} (h : Operand.tmp d ∈ o.op.operands) : d ∈ o.looksAt ops :=
  List.mem_append_left _ (List.mem_filterMap.2 ⟨.tmp d,by simpa using h,rfl⟩)
theorem looks_guard {ops : Array Oper} {o : Oper} {d j : Nat} {w : Bool} (hg : o.guard = some (j,w)) (hd : (ops[j]?).bind (·.dst) = some d) : d ∈ o.looksAt ops:=by
  refine List.mem_append_right _ ?_
  rw [hg]; simp [hd]
theorem RK.Ok.Q1 (h : k.Ok) {i j d : Nat} (hi : i ∈ k.q) (hj : j ∈ k.q) (h1 : k.dst i = some d) (h2 : k.dst j = some d) : i = j:=by
  have:=h.qok
  simp only [quietOk,List.all_eq_true,Bool.and_eq_true] at this
  have h3:=(this i hi).1 j hj
  simp only [Bool.or_eq_true,beq_iff_eq,bne_iff_ne,ne_eq] at h3
  have e1 : dstOf k.ops.toList i = some d:=by simpa [dstOf,RK.dst] using h1
  have e2 : dstOf k.ops.toList j = some d:=by simpa [dstOf,RK.dst] using h2
  rw [e1,e2] at h3
  exact Eq.symm (by simpa using h3 : j = i)
theorem RK.Ok.Q2 (h : k.Ok) {i j d : Nat} {o : Oper} (hi : i ∈ k.q) (ho : k.ops[i]? = some o) (hd : d ∈ o.looksAt k.ops) (hj : j ∈ k.q) (h2 : k.dst j = some d) : j < i ∧ ∃ e ∈ o.after,Region.binds .any e = true ∧ e.on = j:=by
  have:=h.qok
  simp only [quietOk,List.all_eq_true,Bool.and_eq_true] at this
  have h3:=(this i hi).2 d (by simpa [looks,ho] using hd) j hj
  have e2 : dstOf k.ops.toList j = some d:=by simpa [dstOf,RK.dst] using h2
  rw [e2,ho] at h3
  simp only [bne_self_eq_false,Bool.false_or,Bool.and_eq_true,decide_eq_true_eq] at h3
  refine ⟨h3.1,?_⟩
  obtain ⟨e,he,hb⟩:=Array.any_eq_true'.1 h3.2
  simp only [Bool.and_eq_true,beq_iff_eq] at hb
  exact ⟨e,he,hb.2,hb.1⟩
theorem RK.Ok.T1 (h : k.Ok) {i j : Nat} (hi : i ∈ k.t) (hj : j ∈ k.t) (hlt : j < i) : ((befs k.ops.toList []).getD i 0).testBit j = true:=by
  have:=h.cok
  simp only [chainOk,List.all_eq_true,Bool.and_eq_true] at this
  have h3:=(this i hi).1 j hj
  simp only [Bool.or_eq_true,decide_eq_true_eq] at h3
  exact h3.resolve_left (by omega)
theorem RK.Ok.T2 (h : k.Ok) {i j : Nat} {oi oj : Oper} (hi : i ∈ k.t) (hj : j ∈ k.q) (hoi : k.ops[i]? = some oi) (hoj : k.ops[j]? = some oj) (hb : ((befs k.ops.toList []).getD i 0).testBit j = false) :
    (∀ d,k.dst j = some d → d ∉ oi.looksAt k.ops ∧ k.dst i ≠ some d) ∧ (∀ d,k.dst i = some d → d ∉ oj.looksAt k.ops):=by
  have:=h.cok
  simp only [chainOk,List.all_eq_true,Bool.and_eq_true] at this
  have h3:=(this i hi).2 j hj
  rw [hb] at h3
  simp only [Bool.false_or,Bool.and_eq_true] at h3
  have e1 : dstOf k.ops.toList i = k.dst i:=by simp [dstOf,RK.dst]
  have e2 : dstOf k.ops.toList j = k.dst j:=by simp [dstOf,RK.dst]
  rw [e1,e2] at h3
  refine ⟨fun d hd => ?_,fun d hd => ?_⟩
  · have:=h3.1
    rw [hd] at this
    simpa [looks,hoi] using this
  · have:=h3.2
    rw [hd] at this
    simpa [looks,hoj] using this
theorem RK.Ok.dlt (h : k.Ok) {i d : Nat} (hd : k.dst i = some d) : d < k.nt:=by
  unfold RK.dst at hd
  cases ho : k.ops[i]? with
  | none => rw [ho] at hd; cases hd
  | some o =>
    rw [ho] at hd
    exact (local_lt h.loc).2 o (by rw [← Array.getElem?_toList] at ho; exact List.mem_of_getElem? ho) d hd
theorem RK.Ok.uniq (h : k.Ok) {i j d : Nat} (h1 : k.dst i = some d) (h2 : k.dst j = some d) (hd : d ∉ k.slots) : i = j:=by
  have e : ∀ i,k.dst i = some d → (k.ops.toList.map (·.dst))[i]? = some (some d):=by
    intro i h
    unfold RK.dst at h
    cases ho : k.ops[i]? with
    | none => rw [ho] at h; cases h
    | some o => rw [ho] at h; rw [List.getElem?_map,Array.getElem?_toList,ho]; simpa using h
  rcases Nat.lt_trichotomy i j with hlt | he | hlt
  · exact absurd (Vm.uniq (local_lt h.loc).1 i j d hlt (e i h1) (e j h2)) hd
  · exact he
  · exact absurd (Vm.uniq (local_lt h.loc).1 j i d hlt (e j h2) (e i h1)) hd
theorem setW_len {vars : List AV} {w : Option Nat} {v : AV} : (setW vars w v).length = vars.length:=by
  unfold setW; split <;> simp
theorem setW_get {vars : List AV} {slots : List Nat} {dst : Option Nat} {v : AV} {s d : Nat} (hn : slots.Nodup) (hs : slots[s]? = some d) (hl : vars.length = slots.length) :
    (setW vars (dst.bind fun d => slots.idxOf? d) v).getD s .junk = if dst = some d then v else vars.getD s .junk:=by
  have hil:=(List.getElem?_eq_some_iff.1 hs).1
  split
  · rename_i e
    subst e
    have hi : slots.idxOf? d = some s:=idx_of hn hs
    simp only [Option.bind_some,hi,setW]
    rw [List.getD_eq_getElem?_getD,List.getElem?_set_self (by omega)]; rfl
  · rename_i e
    cases dst with
    | none => rfl
    | some d' =>
      simp only [Option.bind_some]
      cases hj : slots.idxOf? d' with
      | none => rfl
      | some j =>
        have hji : j ≠ s:=by
          rintro rfl
          have:=idxOf_get hj
          rw [hs] at this; injection this with this; subst this; exact e rfl
        simp only [setW,List.getD_eq_getElem?_getD]
        rw [List.getElem?_set_ne hji]
theorem RK.Ok.vget (h : k.Ok) {s d : Nat} (hs : k.slots[s]? = some d) : ∀ p,p ≤ k.q.length → (k.vs p).length = k.slots.length ∧
    (∀ r i,r < p → k.q[r]? = some i → k.dst i = some d → (k.vs p).getD s .junk = k.envF.getD r .junk) ∧ ((∀ r i,r < p → k.q[r]? = some i → k.dst i ≠ some d) → (k.vs p).getD s .junk = k.s0.vars.getD s .junk):=by
  intro p
  induction p with
  | zero => intro _; rw [h.v0]; exact ⟨h.vl0,fun r i hr => absurd hr (Nat.not_lt_zero _),fun _ => rfl⟩
  | succ p ih =>
    intro hp
    obtain ⟨i1,i2,i3⟩:=ih (by omega)
    obtain ⟨i,hi⟩ : ∃ i,k.q[p]? = some i:=⟨_,List.getElem?_eq_getElem (by omega)⟩
    have his:=((h.qm i).1 (List.mem_of_getElem? hi)).1
    have ho : k.ops[i]? = some k.ops[i]:=Array.getElem?_eq_getElem his
    obtain ⟨op,g,_,_,hrs⟩:=h.op (h.qpos hi) ho
    obtain ⟨b,v,_,hv,hstep,_⟩:=h.tr p _ (by rw [List.getElem?_take,if_pos (by omega)]; exact hrs)
    have hdst : k.dst i = k.ops[i].dst:=by simp [RK.dst,ho]
    have hg:=setW_get (dst:=k.ops[i].dst) (v:=v) h.nd hs i1
    rw [hstep]
    simp only
    refine ⟨by rw [setW_len]; exact i1,fun r j hr hj hd => ?_,fun hno => ?_⟩
    · rw [hg]
      by_cases e : r = p
      · subst e
        rw [hi] at hj; injection hj with hj; subst hj
        rw [if_pos (hdst ▸ hd),List.getD_eq_getElem?_getD,hv]; rfl
      · rw [if_neg ?_]
        · exact i2 r j (by omega) hj hd
        · intro hc
          have:=h.Q1 (List.mem_of_getElem? hj) (List.mem_of_getElem? hi) hd (hdst.trans hc)
          subst this
          exact e (pw_inj h.qp hj hi)
    · rw [hg,if_neg (fun hc => hno p i (by omega) hi (hdst.trans hc))]
      exact i3 fun r j hr hj => hno r j (by omega) hj
end
end Go.Vm

/- Regions whose order is drawn: what holds whenever some of the operations are done. -/
namespace Go.Vm
open Go
structure MvP (nb : Nat) (m : Nat → Option Nat) (F XO : Nat → Prop) (W : World) (st : List AO) (m' : Nat → Option Nat) (F' XO' : Nat → Prop) (W' : World) : Prop where
  hm : ∀ i b,i < nb → m i = some b → m' i = some b
  hF : ∀ b,F b → F' b
  nF : ∀ b,F' b → F b ∨ ownA m st XO b ∨ W.heap.size ≤ b
  tr : Tr (ownA m st XO) W W'
  xo : ∀ b,XO' b → XO b ∨ W.heap.size ≤ b
  rg : ∀ i b,m' i = some b → (∃ j,m j = some b) ∨ W.heap.size ≤ b
def aOpsL (lo : Lower) (fs : List Nat) : Option Nat → List ROp → List AV → S → Option (List AV × S)
  | _,[],env,s => some (env,s)
  | c,r :: rest,env,s => match wantG env r.g with
    | none => none
    | some false => aOpsL lo fs (c.map (· - 1)) rest (env ++ [.imm (.tup [])]) { s with vars:=setW s.vars r.w (.imm (.tup [])) }
    | some true => if c == some 0 || apartL (wIds s.vars env s.st r.op) fs then match aOp lo s.vars env s r.op with
      | none => none
      | some (v,s) => aOpsL lo fs (c.map (· - 1)) rest (env ++ [v]) { s with vars:=setW s.vars r.w v }
      else none
theorem opsL_none {lo : Lower} {fs : List Nat} : ∀ (ops : List ROp) (env : List AV) (s : S),aOpsL lo fs none ops env s = aOpsT lo fs ops env s
  | [],env,s => rfl
  | r :: rest,env,s => by
    simp only [aOpsL,aOpsT,Option.map_none,opsL_none rest,show ((none : Option Nat) == some 0) = false from rfl,Bool.false_or]
    rcases wantG env r.g with _ | _ | _
    · rfl
    · rfl
    · simp only
      split
      · rcases aOp lo s.vars env s r.op with _ | ⟨_,_⟩ <;> rfl
      · rfl
theorem opsL_zero {lo : Lower} {fs : List Nat} : ∀ (ops : List ROp) (env : List AV) (s : S),aOpsL lo fs (some 0) ops env s = aOps lo ops env s
  | [],env,s => rfl
  | r :: rest,env,s => by
    simp only [aOpsL,aOps,Option.map_some,Nat.zero_sub,opsL_zero rest,show ((some 0 : Option Nat) == some 0) = true from rfl,Bool.true_or,if_true]
    rcases wantG env r.g with _ | _ | _
    · rfl
    · rfl
    · simp only
      rcases aOp lo s.vars env s r.op with _ | ⟨_,_⟩ <;> rfl
theorem opsL_some {lo : Lower} {fs : List Nat} : ∀ (c : Nat) (ops : List ROp) (env : List AV) (s : S),aOpsL lo fs (some c) ops env s = aTail lo fs (c + 1) ops env s
  | 0,ops,env,s => by rw [opsL_zero]; simp [aTail,aOpsT]
  | c + 1,[],env,s => by simp [aTail,aOpsL,aOpsT,aOps]
  | c + 1,r :: rest,env,s => by
    have IH:=fun env s => opsL_some (lo:=lo) (fs:=fs) c rest env s
    have e : ((some (c + 1) : Option Nat) == some 0) = false:=rfl
    simp only [aOpsL,aTail,List.take_succ_cons,List.drop_succ_cons,aOpsT,Option.map_some,Nat.add_sub_cancel,e,Bool.false_or,IH]
    rcases wantG env r.g with _ | _ | _
    · rfl
    · rfl
    · simp only
      split
      · rcases aOp lo s.vars env s r.op with _ | ⟨_,_⟩ <;> rfl
      · rfl
def limOf (c : Nat) : Option Nat:=match c with | 0 => none | c + 1 => some c
theorem tail_L {lo : Lower} {fs : List Nat} {c : Nat} {ops : List ROp} {env : List AV} {s : S} : aTail lo fs c ops env s = aOpsL lo fs (limOf c) ops env s:=by
  cases c with
  | zero => exact (opsL_none ops env s).symm
  | succ c => exact (opsL_some c ops env s).symm
structure J (k : RK) (listed : Array Bool) (a : Act) (W : World) (kT : Nat) (sT : S) (envT : List AV) (m : Nat → Option Nat) (F XO : Nat → Prop) (stN : Sto) : Prop where
  kl : kT ≤ k.t.length
  lT : ∀ (r i : Nat),k.t[r]? = some i → (listed.getD i false = true ↔ r < kT)
  run : aOpsL k.lo k.fsF (k.c.map (· - kT)) (k.rs.drop (k.q.length + kT)) envT sT = some (k.envE,k.sE)
  e1 : envT.take k.q.length = k.envF
  e2 : envT.length = k.q.length + kT
  z : kT = 0 → sT = { k.s0 with vars:=k.varsF,st:=k.s0.st ++ k.newsF }
  ln : k.s0.st.length ≤ sT.st.length
  fl : 0 < kT → ∀ (p i : Nat),k.q[p]? = some i → listed.getD i false = false → k.fl.contains p = true
  fsx : (∃ j ∈ k.q,listed.getD j false = false) → ∀ i ∈ k.fsF,i < k.s0.st.length → stN i = sto k.s0.st i
  cl : ∀ (i : Nat) (o : Oper),k.ops[i]? = some o → listed.getD i false = true → ∀ e ∈ o.after,Region.binds .any e = true → listed.getD e.on false = true
  df : a.defers = k.a0.defers
  vz : k.nt ≤ a.tmps.size
  vl : sT.vars.length = k.slots.length
  V : ∀ s d,k.slots[s]? = some d → (∀ (p i : Nat),k.q[p]? = some i → k.dst i = some d → listed.getD i false = true) → RepA m F k.L W (sT.vars.getD s .junk) (a.tmps.getD d undef)
  V2 : ∀ s d,k.slots[s]? = some d → (∀ (r i : Nat),r < kT → k.t[r]? = some i → k.dst i ≠ some d) → sT.vars.getD s .junk = k.varsF.getD s .junk
  Lq : ∀ (p i d : Nat),k.q[p]? = some i → listed.getD i false = true → k.dst i = some d → d ∉ k.slots → RepA m F k.L W (k.envF.getD p .junk) (a.tmps.getD d undef)
  Lt : ∀ (r i d : Nat),r < kT → k.t[r]? = some i → k.dst i = some d → d ∉ k.slots → RepA m F k.L W (envT.getD (k.q.length + r) .junk) (a.tmps.getD d undef)
  R : Rel k.gb m F k.L W stN
  x : XR k.X k.L sT.ext XO F W
  ap : ∀ b,own m stN b → ¬ XO b
  mv : MvP k.nb k.m0 k.F0 k.XO0 k.W0 k.s0.st m F XO W
  ow : ∀ b,own m stN b → own k.m0 (sto k.s0.st) b ∨ k.W0.heap.size ≤ b
  A : kT = 0 → (∀ i,i < k.s0.st.length → stN i = sto k.s0.st i) ∧ (∀ (p i : Nat),k.q[p]? = some i → listed.getD i false = true → ∀ j,(k.ns p).length ≤ j → j < (k.ns (p + 1)).length → stN (k.s0.st.length + j) = k.newsF.getD j .dead) ∧
    (∀ i,k.s0.st.length ≤ i → stN i ≠ .dead ∨ m i ≠ none → ∃ p i' : Nat,k.q[p]? = some i' ∧ listed.getD i' false = true ∧ k.s0.st.length + (k.ns p).length ≤ i ∧ i < k.s0.st.length + (k.ns (p + 1)).length)
  B : 0 < kT → stN = sto sT.st ∧ ∀ i b,m i = some b → i < sT.st.length
section
variable {k : RK} {listed : Array Bool} {a : Act} {W W' : World} {kT : Nat} {sT : S} {envT : List AV} {m : Nat → Option Nat} {F XO : Nat → Prop} {stN : Sto}
theorem RK.Ok.nsp (h : k.Ok) {p : Nat} : ∀ n,p + n ≤ k.q.length → ∃ e,k.ns (p + n) = k.ns p ++ e:=by
  intro n
  induction n with
  | zero => intro _; exact ⟨[],by simp⟩
  | succ n ih =>
    intro hp
    obtain ⟨e,he⟩:=ih (by omega)
    obtain ⟨i,hi⟩ : ∃ i,k.q[p + n]? = some i:=⟨_,List.getElem?_eq_getElem (by omega)⟩
    have his:=((h.qm i).1 (List.mem_of_getElem? hi)).1
    obtain ⟨op,g,_,_,hrs⟩:=h.op (h.qpos hi) (Array.getElem?_eq_getElem his)
    obtain ⟨b,v,_,_,_,h1,h2,_⟩:=h.tr (p + n) _ (by rw [List.getElem?_take,if_pos (by omega)]; exact hrs)
    cases b with
    | false => exact ⟨e,by rw [← Nat.add_assoc,(h1 rfl).2]; exact he⟩
    | true =>
      obtain ⟨n1,_,hn,_⟩:=h2 rfl
      exact ⟨e ++ n1,by rw [← Nat.add_assoc,hn,he,List.append_assoc]⟩
theorem RK.Ok.nsle (h : k.Ok) {p p' : Nat} (h1 : p ≤ p') (h2 : p' ≤ k.q.length) : (k.ns p).length ≤ (k.ns p').length:=by
  obtain ⟨e,he⟩:=h.nsp (p:=p) (p' - p) (by omega)
  rw [show p + (p' - p) = p' by omega] at he
  rw [he]; simp
theorem RK.Ok.nsget (h : k.Ok) {p j : Nat} (h1 : p ≤ k.q.length) (h2 : j < (k.ns p).length) : k.newsF.getD j .dead = (k.ns p).getD j .dead:=by
  obtain ⟨e,he⟩:=h.nsp (p:=p) (k.q.length - p) (by omega)
  rw [show p + (k.q.length - p) = k.q.length by omega,h.nM] at he
  rw [he,List.getD_eq_getElem?_getD,List.getElem?_append_left h2,← List.getD_eq_getElem?_getD]
theorem RK.Ok.owner (h : k.Ok) : ∀ n,n ≤ k.q.length → ∀ j,j < (k.ns n).length → ∃ p,p < n ∧ (k.ns p).length ≤ j ∧ j < (k.ns (p + 1)).length:=by
  intro n
  induction n with
  | zero => intro _ j hj; rw [h.n0] at hj; simp at hj
  | succ n ih =>
    intro hn j hj
    by_cases hlt : j < (k.ns n).length
    · obtain ⟨p,h1,h2⟩:=ih (by omega) j hlt
      exact ⟨p,by omega,h2⟩
    · exact ⟨n,by omega,by omega,hj⟩
theorem listed_eq {i : Nat} (h : i < listed.size) (d d' : Bool) : listed.getD i d = listed.getD i d':=by simp [h]
theorem J.st (h : J k listed a W kT sT envT m F XO stN) (ok : k.Ok) (hfl : ∀ (p i : Nat),k.q[p]? = some i → listed.getD i false = false → k.fl.contains p = true) :
    stN = sto sT.st ∧ St k.gb k.X m F k.L XO W sT.st sT.ext:=by
  have e : stN = sto sT.st ∧ ∀ i b,m i = some b → i < sT.st.length:=by
    rcases Nat.eq_zero_or_pos kT with h0 | h0
    · obtain ⟨a1,a2,a3⟩:=h.A h0
      have hz:=h.z h0
      have hst : sT.st = k.s0.st ++ k.newsF:=by rw [hz]
      rw [hst]
      refine ⟨?_,fun i b hi => ?_⟩
      · funext i
        rw [sto_append]
        unfold put
        split
        · rename_i hi
          obtain ⟨p,p1,p2,p3⟩:=ok.owner k.q.length (Nat.le_refl _) (i - k.s0.st.length) (by rw [ok.nM]; omega)
          obtain ⟨i',hi'⟩ : ∃ i',k.q[p]? = some i':=⟨_,List.getElem?_eq_getElem p1⟩
          cases hl : listed.getD i' false with
          | true =>
            have:=a2 p i' hi' hl _ p2 p3
            rwa [show k.s0.st.length + (i - k.s0.st.length) = i by omega] at this
          | false =>
            have hc:=hfl p i' hi' hl
            have his:=((ok.qm i').1 (List.mem_of_getElem? hi')).1
            obtain ⟨op,g,_,_,hrs⟩:=ok.op (ok.qpos hi') (Array.getElem?_eq_getElem his)
            obtain ⟨b,v,_,_,_,_,_,hn⟩:=ok.tr p _ (by rw [List.getElem?_take,if_pos p1]; exact hrs)
            rw [hn hc] at p3; omega
        · rename_i hi
          by_cases hlt : i < k.s0.st.length
          · exact a1 i hlt
          · have : stN i = .dead:=by
              apply Classical.byContradiction
              intro hc
              obtain ⟨p,i',q1,q2,q3,q4⟩:=a3 i (by omega) (.inl hc)
              have hp:=(List.getElem?_eq_some_iff.1 q1).1
              have:=ok.nsle (p:=p + 1) (p':=k.q.length) (by omega) (Nat.le_refl _)
              rw [ok.nM] at this
              omega
            rw [this]
            simp [sto,List.getD_eq_getElem?_getD,List.getElem?_eq_none (show k.s0.st.length ≤ i by omega)]
      · by_cases hlt : i < k.s0.st.length
        · simp; omega
        · obtain ⟨p,i',q1,q2,q3,q4⟩:=a3 i (by omega) (.inr (by rw [hi]; simp))
          have hp:=(List.getElem?_eq_some_iff.1 q1).1
          have:=ok.nsle (p:=p + 1) (p':=k.q.length) (by omega) (Nat.le_refl _)
          rw [ok.nM] at this
          simp; omega
    · exact h.B h0
  obtain ⟨e1,e2⟩:=e
  exact ⟨e1,⟨e1 ▸ h.R,e2,h.x,fun b hb => h.ap b (e1 ▸ hb)⟩⟩
theorem MvP.mv {nb : Nat} {m m' : Nat → Option Nat} {F F' XO XO' : Nat → Prop} {st st' : List AO} (h : MvP nb m F XO W st m' F' XO' W') (ow : ∀ b,own m' (sto st') b → own m (sto st) b ∨ W.heap.size ≤ b) : Mv nb m F XO W st m' F' XO' W' st' :=
  ⟨h.hm,h.hF,h.nF,h.tr,ow,h.xo,h.rg⟩
theorem Mv.p {nb : Nat} {m m' : Nat → Option Nat} {F F' XO XO' : Nat → Prop} {st st' : List AO} (h : Mv nb m F XO W st m' F' XO' W' st') : MvP nb m F XO W st m' F' XO' W':=⟨h.hm,h.hF,h.nF,h.tr,h.xo,h.rg⟩
theorem J.done (h : J k listed a W kT sT envT m F XO stN) (ok : k.Ok) (hs : listed.size = k.ops.size) (hall : ∀ i,i < k.ops.size → listed.getD i true = true) : Next k.gb k.X k.nt k.slots k.L k.nb k.m0 k.F0 k.XO0 k.W0 k.s0.st k.sE a W:=by
  have hq : ∀ (p i : Nat),k.q[p]? = some i → listed.getD i false = true:=fun p i hi => by
    have:=((ok.qm i).1 (List.mem_of_getElem? hi)).1
    rw [listed_eq (by omega) false true]; exact hall i this
  have hk : kT = k.t.length:=by
    rcases Nat.lt_or_ge kT k.t.length with hlt | hge
    · obtain ⟨i,hi⟩ : ∃ i,k.t[kT]? = some i:=⟨_,List.getElem?_eq_getElem hlt⟩
      have:=ok.tm i (List.mem_of_getElem? hi)
      have:=(h.lT kT i hi).1 (by rw [listed_eq (by omega) false true]; exact hall i this)
      omega
    · have:=h.kl; omega
  obtain ⟨e,S⟩:=h.st ok (fun p i hi hl => by rw [hq p i hi] at hl; cases hl)
  have hrun:=h.run
  have hnil : k.rs.drop (k.q.length + kT) = []:=by
    rw [List.drop_eq_nil_iff,(compOps_get ok.comp).1,(pick_get ok.order).1,hk]
    simp
  rw [hnil] at hrun
  simp only [aOpsL,Option.some.injEq,Prod.mk.injEq] at hrun
  obtain ⟨_,rfl⟩:=hrun
  exact ⟨m,F,XO,S,⟨h.vz,h.vl,fun i t ht => h.V i t ht fun p i hi _ => hq p i hi⟩,h.mv.mv fun b hb => h.ow b (e ▸ hb)⟩
theorem J.qnext (h : J k listed a W kT sT envT m F XO stN) (ok : k.Ok) (hX : XMono k.X) (hs : listed.size = k.ops.size) {p i : Nat} {o : Oper} {v : AV} {w : Value} {n1 : List AO} (hp : k.q[p]? = some i) (ho : k.ops[i]? = some o) (hun : listed.getD i true = false) (he : ∀ e ∈ o.after,Region.binds .any e = true → listed.getD e.on false = true)
    (hv : k.envF[p]? = some v) (hn : k.ns (p + 1) = k.ns p ++ n1) (hfl : k.fl.contains p = true → n1 = []) (hdt : ∀ (r j : Nat),r < kT → k.t[r]? = some j → ∀ d,k.dst i = some d → k.dst j ≠ some d) (hfree : ∀ i',k.s0.st.length + (k.ns p).length ≤ i' → i' < k.s0.st.length + (k.ns p).length + n1.length → m i' = none)
    (hq : QPost k.gb m F k.L W stN (k.s0.st.length + (k.ns p).length) v n1 w W') : ∃ m' F' stN',J k (listed.setIfInBounds i true) (a.put o.dst w) W' kT sT envT m' F' XO stN':=by
  obtain ⟨m',F',G,R',hrv,hnew⟩:=hq
  have hiq:=List.mem_of_getElem? hp
  have hil : i < listed.size:=by rw [hs]; exact ((ok.qm i).1 hiq).1
  have hnt : i ∉ k.t:=((ok.qm i).1 hiq).2
  have hun' : listed.getD i false = false:=by rw [listed_eq hil false true]; exact hun
  have hpl:=(List.getElem?_eq_some_iff.1 hp).1
  have hself : (listed.setIfInBounds i true).getD i false = true:=by simp [hil]
  have hset : ∀ j,j ≠ i → (listed.setIfInBounds i true).getD j false = listed.getD j false:=fun j hj => getD_set_ne false (Ne.symm hj)
  have hback : ∀ j,(listed.setIfInBounds i true).getD j false = true → j = i ∨ listed.getD j false = true:=fun j hj => by
    by_cases e : j = i
    · exact .inl e
    · rw [hset j e] at hj; exact .inr hj
  have hfwd : ∀ j,listed.getD j false = true → (listed.setIfInBounds i true).getD j false = true:=fun j hj => getD_set_true hj
  have hdst : o.dst = k.dst i:=by simp [RK.dst,ho]
  have hev : k.envF.getD p .junk = v:=by rw [List.getD_eq_getElem?_getD,hv]; rfl
  have mono : ∀ {u : AV} {z : Value},RepA m F k.L W u z → RepA m' F' k.L W' u z:=fun h1 => G.rep h.R.hF (fun _ _ h => h) h1
  have hput : ∀ i',¬ (k.s0.st.length + (k.ns p).length ≤ i' ∧ i' < k.s0.st.length + (k.ns p).length + n1.length) → put stN (k.s0.st.length + (k.ns p).length) n1 i' = stN i':=fun i' h1 => by unfold put; rw [if_neg h1]
  have hown : ∀ b,own m' (put stN (k.s0.st.length + (k.ns p).length) n1) b → own m stN b ∨ W.heap.size ≤ b:=by
    rintro b ⟨i',h1,h2⟩
    rcases hnew i' b h2 with h3 | h3
    · refine .inl ⟨i',?_,h3⟩
      rwa [hput i' (fun hc => by rw [hfree i' hc.1 hc.2] at h3; cases h3)] at h1
    · exact .inr h3.1
  have h0:=h.mv.tr.size
  have hlen1 : (k.ns (p + 1)).length = (k.ns p).length + n1.length:=by rw [hn]; simp
  refine ⟨m',F',put stN (k.s0.st.length + (k.ns p).length) n1,?_⟩
  refine { kl:=h.kl,lT:=fun r j hj => ?_,run:=h.run,e1:=h.e1,e2:=h.e2,z:=h.z,ln:=h.ln,fl:=fun hk p' i' hi' hl => ?_,fsx:=fun ⟨j',hj1,hj2⟩ i' hi' hlt => ?_,cl:=fun j oj hj hl e hem hb => ?_,df:=?_,vz:=by rw [put_size]; exact h.vz,vl:=h.vl,
           V:=fun s d hsd hw => ?_,V2:=h.V2,Lq:=fun p' i' d hi' hl hd hns => ?_,Lt:=fun r j d hr hj hd hns => ?_,R:=R',x:=?_,ap:=fun b hb hx => ?_,mv:=?_,ow:=fun b hb => ?_,A:=fun hk => ?_,B:=fun hk => ?_ }
  · rw [hset j (fun e => hnt (e ▸ List.mem_of_getElem? hj))]
    exact h.lT r j hj
  · by_cases e : i' = i
    · subst e; rw [hself] at hl; cases hl
    · rw [hset i' e] at hl; exact h.fl hk p' i' hi' hl
  · rw [hput i' (by omega)]
    refine h.fsx ⟨j',hj1,?_⟩ i' hi' hlt
    cases hc : listed.getD j' false with
    | false => rfl
    | true => rw [hfwd j' hc] at hj2; cases hj2
  · rcases hback j hl with e | h1
    · subst e
      rw [ho] at hj; injection hj with hj; subst hj
      exact hfwd _ (he e hem hb)
    · exact hfwd _ (h.cl j oj hj h1 e hem hb)
  · rw [← h.df]; cases o.dst <;> rfl
  · by_cases e : k.dst i = some d
    · rw [hdst,e,put_self (Nat.lt_of_lt_of_le (ok.dlt e) h.vz)]
      have e1:=h.V2 s d hsd (fun r j hr hj => hdt r j hr hj d e)
      have e2:=(ok.vget hsd k.q.length (Nat.le_refl _)).2.1 p i hpl hp e
      rw [e1,← ok.vM,e2,hev]
      exact hrv
    · rw [put_get (by rw [hdst]; exact e)]
      exact mono (h.V s d hsd fun p' i' hi' hd => by
        rcases hback i' (hw p' i' hi' hd) with e' | h1
        · subst e'; exact absurd hd e
        · exact h1)
  · by_cases e : i' = i
    · subst e
      have:=pw_inj ok.qp hi' hp
      subst this
      rw [hdst,hd,put_self (Nat.lt_of_lt_of_le (ok.dlt hd) h.vz),hev]
      exact hrv
    · rw [put_get (by rw [hdst]; intro hc; exact e (ok.uniq hd hc hns))]
      rw [hset i' e] at hl
      exact mono (h.Lq p' i' d hi' hl hd hns)
  · rw [put_get (by rw [hdst]; intro hc; have:=ok.uniq hd hc hns; subst this; exact hnt (List.mem_of_getElem? hj))]
    exact mono (h.Lt r j d hr hj hd hns)
  · exact h.x.mono hX G (fun b hb => ⟨h.R.hF b hb,fun h => h⟩) (fun b _ h => h) R'.hF
  · rcases hown b hb with h1 | h1
    · exact h.ap b h1 hx
    · revert hx
      have hxx:=h.x
      cases hL : k.L with
      | none => cases hE : sT.ext with
        | none => rw [hL,hE] at hxx; exact hxx b
        | some e => rw [hL,hE] at hxx; exact hxx.elim
      | some l => cases hE : sT.ext with
        | none => rw [hL,hE] at hxx; exact hxx.elim
        | some e => rw [hL,hE] at hxx; intro hx; have:=(hxx.2 b hx).1; omega
  · refine ⟨fun i b hi hb => G.hm i b (h.mv.hm i b hi hb),fun b hb => G.hF b (h.mv.hF b hb),fun b hb => ?_,h.mv.tr.trans G.tr (fun b _ h => h.elim),h.mv.xo,fun i b hb => ?_⟩
    · rcases G.nF b hb with h1 | h1 | h1
      · exact h.mv.nF b h1
      · exact h1.elim
      · exact .inr (.inr (Nat.le_trans h0 h1))
    · rcases hnew i b hb with h1 | h1
      · exact h.mv.rg i b h1
      · exact .inr (Nat.le_trans h0 h1.1)
  · rcases hown b hb with h1 | h1
    · exact h.ow b h1
    · exact .inr (Nat.le_trans h0 h1)
  · obtain ⟨a1,a2,a3⟩:=h.A hk
    refine ⟨fun i' hi' => by rw [hput i' (by omega)]; exact a1 i' hi',fun p' i' hi' hl j h1 h2 => ?_,fun i' hi' hor => ?_⟩
    · by_cases e : i' = i
      · subst e
        have:=pw_inj ok.qp hi' hp
        subst this
        rw [hlen1] at h2
        unfold put
        rw [if_pos (by omega),ok.nsget (p:=p' + 1) (by omega) (by omega),hn,List.getD_eq_getElem?_getD,List.getD_eq_getElem?_getD,List.getElem?_append_right h1]
        congr 2; omega
      · rw [hset i' e] at hl
        have hp':=(List.getElem?_eq_some_iff.1 hi').1
        rw [hput _ ?_]
        · exact a2 p' i' hi' hl j h1 h2
        · rintro ⟨c1,c2⟩
          rcases Nat.lt_trichotomy p' p with hlt | heq | hlt
          · have:=ok.nsle (p:=p' + 1) (p':=p) hlt (by omega); omega
          · subst heq; rw [hp] at hi'; injection hi' with hi'; exact e hi'.symm
          · have:=ok.nsle (p:=p + 1) (p':=p') hlt (by omega); omega
    · by_cases hin : k.s0.st.length + (k.ns p).length ≤ i' ∧ i' < k.s0.st.length + (k.ns p).length + n1.length
      · exact ⟨p,i,hp,hself,hin.1,by rw [hlen1]; omega⟩
      · have : stN i' ≠ .dead ∨ m i' ≠ none:=by
          rcases hor with h1 | h1
          · rw [hput i' hin] at h1; exact .inl h1
          · cases hm : m' i' with
            | none => exact absurd hm h1
            | some b =>
              rcases hnew i' b hm with h2 | h2
              · exact .inr (by rw [h2]; simp)
              · exact absurd h2.2 hin
        obtain ⟨p',i2,q1,q2,q3,q4⟩:=a3 i' hi' this
        exact ⟨p',i2,q1,hfwd _ q2,q3,q4⟩
  · have hn1:=hfl (h.fl hk p i hp hun')
    obtain ⟨b1,b2⟩:=h.B hk
    subst hn1
    refine ⟨by rw [put_nil]; exact b1,fun i' b hi' => ?_⟩
    rcases hnew i' b hi' with h1 | h1
    · exact b2 i' b h1
    · have:=h1.2; simp at this; omega
end
end Go.Vm

/- Regions whose order is drawn: each operation may come when it is ready. -/
namespace Go.Vm
open Go
section
variable {k : RK} {listed : Array Bool} {a : Act} {W W' : World} {kT : Nat} {sT : S} {envT : List AV} {m : Nat → Option Nat} {F XO : Nat → Prop} {stN : Sto} {ro : Option Nat}
theorem J.bef (h : J k listed a W kT sT envT m F XO stN) {i j : Nat} {o : Oper} (ho : k.ops[i]? = some o) (he : ∀ e ∈ o.after,Region.binds .any e = true → listed.getD e.on false = true) (hb : ((befs k.ops.toList []).getD i 0).testBit j = true) : listed.getD j false = true :=
  bef_listed h.cl i i o j (Nat.le_refl _) ho he hb
theorem J.qlook (_h : J k listed a W kT sT envT m F XO stN) (ok : k.Ok) {i : Nat} {o : Oper} (hi : i ∈ k.q) (ho : k.ops[i]? = some o) (he : ∀ e ∈ o.after,Region.binds .any e = true → listed.getD e.on false = true) {d j : Nat} (hd : d ∈ o.looksAt k.ops) (hj : j ∈ k.q) (hjd : k.dst j = some d) : j < i ∧ listed.getD j false = true:=by
  obtain ⟨h1,e,h2,h3,rfl⟩:=ok.Q2 hi ho hd hj hjd
  exact ⟨h1,he e h2 h3⟩
theorem J.tdone (h : J k listed a W kT sT envT m F XO stN) {r j : Nat} (hr : r < kT) (hj : k.t[r]? = some j) : listed.getD j false = true:=(h.lT r j hj).2 hr
theorem J.apart (h : J k listed a W kT sT envT m F XO stN) (ok : k.Ok) {i : Nat} {o : Oper} (hi : i ∈ k.q) (ho : k.ops[i]? = some o) (hun : listed.getD i false = false) {r j : Nat} (hr : r < kT) (hj : k.t[r]? = some j) :
    (∀ d,k.dst i = some d → k.dst j ≠ some d) ∧ (∀ d ∈ o.looksAt k.ops,k.dst j ≠ some d):=by
  have hjt:=List.mem_of_getElem? hj
  obtain ⟨oj,hoj⟩ : ∃ oj,k.ops[j]? = some oj:=⟨_,Array.getElem?_eq_getElem (ok.tm j hjt)⟩
  have hb : ((befs k.ops.toList []).getD j 0).testBit i = false:=by
    cases hc : ((befs k.ops.toList []).getD j 0).testBit i with
    | false => rfl
    | true =>
      have:=h.bef hoj (h.cl j oj hoj (h.tdone hr hj)) hc
      rw [hun] at this; cases this
  obtain ⟨h1,h2⟩:=ok.T2 hjt hi hoj ho hb
  exact ⟨fun d hd => (h1 d hd).2,fun d hd hc => h2 d hc hd⟩
theorem compG_eta {C : Ctx} {g : Option (Nat × Bool)} {g' : Option (Nat × Bool)} (h : compG C g = some g') : compG { slots:=C.slots,dsts:=C.dsts,pos:=C.pos,glob:=C.glob,h:=C.h } g = some g':=h
theorem J.qstep (h : J k listed a W kT sT envT m F XO stN) (ok : k.Ok) (H : LowerOk k.P k.gb k.X k.lo) (hs : listed.size = k.ops.size) {i : Nat} {o : Oper} (hi : i ∈ k.q) (ho : k.ops[i]? = some o) (hun : listed.getD i true = false) (he : ∀ e ∈ o.after,Region.binds .any e = true → listed.getD e.on false = true) :
    (Region.wanted o (yielded k.ops a.tmps) = true → Vm.Ok k.P ro o a W fun w W' => ∃ m' F' stN',J k (listed.setIfInBounds i true) (a.put o.dst w) W' kT sT envT m' F' XO stN') ∧
    (Region.wanted o (yielded k.ops a.tmps) = false → ∃ m' F' stN',J k (listed.setIfInBounds i true) (a.put o.dst undef) W kT sT envT m' F' XO stN'):=by
  obtain ⟨p,hpl,hpi⟩:=List.getElem_of_mem hi
  have hp : k.q[p]? = some i:=by rw [List.getElem?_eq_getElem hpl,hpi]
  have hil : i < listed.size:=by rw [hs]; exact ((ok.qm i).1 hi).1
  have hun' : listed.getD i false = false:=by rw [listed_eq hil false true]; exact hun
  obtain ⟨op,g,hop,hg,hrs⟩:=ok.op (ok.qpos hp) ho
  obtain ⟨b,v,hw,hv,hvs,hf,ht,hfn⟩:=ok.tr p _ (by rw [List.getElem?_take,if_pos hpl]; exact hrs)
  simp only at hw hf ht
  have htl : (k.envF.take p).length ≤ p:=by simp; omega
  -- local temporaries
  have hloc : ∀ p' d,d ∈ o.looksAt k.ops → p' < (k.envF.take p).length → k.C.dsts[p']? = some (some d) → d ∉ k.slots → RepA m F k.L W ((k.envF.take p).getD p' .junk) (a.tmps.getD d undef):=by
    intro p' d hd hlt hds hns
    obtain ⟨i',h1,h2⟩:=ok.dsts' hds
    rw [List.getElem?_append_left (by omega)] at h1
    have:=h.qlook ok hi ho he hd (List.mem_of_getElem? h1) h2
    have e : (k.envF.take p).getD p' .junk = k.envF.getD p' .junk:=by
      rw [List.getD_eq_getElem?_getD,List.getElem?_take,if_pos (by omega),List.getD_eq_getElem?_getD]
    rw [e]
    exact h.Lq p' i' d h1 this.2 h2 hns
  have hslot : ∀ s d,d ∈ o.looksAt k.ops → k.slots[s]? = some d → RepA m F k.L W ((k.vs p).getD s .junk) (a.tmps.getD d undef):=by
    intro s d hd hsd
    have h1:=h.V s d hsd fun p' i' hi' hdi => (h.qlook ok hi ho he hd (List.mem_of_getElem? hi') hdi).2
    have h2:=h.V2 s d hsd fun r j hr hj hc => (h.apart ok hi ho hun' hr hj).2 d hd hc
    rw [h2,← ok.vM] at h1
    obtain ⟨_,g1,g2⟩:=ok.vget hsd p (by omega)
    obtain ⟨_,f1,f2⟩:=ok.vget hsd k.q.length (Nat.le_refl _)
    by_cases hex : ∃ (r j : Nat),k.q[r]? = some j ∧ k.dst j = some d
    · obtain ⟨r,j,hr,hj⟩:=hex
      have hlt:=(h.qlook ok hi ho he hd (List.mem_of_getElem? hr) hj).1
      have hrp:=(pw_lt ok.qp hr hp).2 hlt
      rw [f1 r j (by omega) hr hj] at h1
      rw [g1 r j hrp hr hj]; exact h1
    · rw [f2 fun r j _ hr hj => hex ⟨r,j,hr,hj⟩] at h1
      rw [g2 fun r j _ hr hj => hex ⟨r,j,hr,hj⟩]; exact h1
  have hwant : Region.wanted o (yielded k.ops a.tmps) = b:=by
    refine want_eq2 (C:=k.C) (gb:=k.C.glob) (slots:=k.C.slots) (dsts:=k.C.dsts) (pos:=k.C.pos) (m:=m) (F:=F) (L:=k.L) (W:=W) (env:=k.envF.take p) (fun j w p' d hgd hpj hlt hd hns => ?_) (compG_eta hg) (fun j w hgd => ?_) (fun j w d hgd hd => ?_) hw
    · have hord : (k.q ++ k.t)[p']? = some j:=by rw [ok.po] at hpj; exact idxOf_get hpj
      refine hloc p' d (looks_guard hgd hd) hlt ?_ (by rw [← ok.cs]; exact hns)
      rw [ok.dsts hord]; exact congrArg some hd
    · obtain ⟨_,d,h1,h2⟩:=guard_ok ok.gu (i:=i) (by simpa using ho) hgd
      exact ⟨d,by simpa using h1,by rw [ok.cs]; exact h2⟩
    · exact Nat.lt_of_lt_of_le (ok.dlt (i:=j) hd) h.vz
  have hdt : ∀ (r j : Nat),r < kT → k.t[r]? = some j → ∀ d,k.dst i = some d → k.dst j ≠ some d:=fun r j hr hj => (h.apart ok hi ho hun' hr hj).1
  rw [hwant]
  refine ⟨fun hb => ?_,fun hb => ?_⟩
  · obtain ⟨n1,hq,hn,hfl⟩:=ht hb
    have hopr : OprOk k.C m F k.L W o a (k.vs p) (k.envF.take p):=by
      refine opr_ok2 ok.cg h.R (fun s d hd hsd => ?_) (fun p' d hd hlt hds hns => ?_)
      · rw [ok.cs] at hsd; exact hslot s d (looks_opr hd) hsd
      · rw [ok.cs] at hns; exact hloc p' d (looks_opr hd) hlt hds hns
    have hlen1 : (k.ns (p + 1)).length = (k.ns p).length + n1.length:=by rw [hn]; simp
    have hfree : ∀ i',k.s0.st.length + (k.ns p).length ≤ i' → i' < k.s0.st.length + (k.ns p).length + n1.length → m i' = none:=by
      intro i' h1 h2
      rcases Nat.eq_zero_or_pos kT with h0 | h0
      · obtain ⟨_,_,a3⟩:=h.A h0
        apply Classical.byContradiction
        intro hc
        obtain ⟨p',i2,q1,q2,q3,q4⟩:=a3 i' (by omega) (.inr hc)
        have hp':=(List.getElem?_eq_some_iff.1 q1).1
        rcases Nat.lt_trichotomy p' p with hlt | heq | hlt
        · have:=ok.nsle (p:=p' + 1) (p':=p) hlt (by omega); omega
        · subst heq; rw [hp] at q1; injection q1 with q1; subst q1; rw [hun'] at q2; cases q2
        · have:=ok.nsle (p:=p + 1) (p':=p') hlt (by omega); omega
      · have:=(hfl (h.fl h0 p i hp hun')).1
        subst this; simp at h2; omega
    have hS : ∀ i' ∈ rIds (k.vs p) (k.envF.take p) op,i' < k.s0.st.length → stN i' = sto k.s0.st i':=by
      intro i' h1 h2
      rcases Nat.eq_zero_or_pos kT with h0 | h0
      · exact (h.A h0).1 i' h2
      · exact h.fsx ⟨i,hi,hun'⟩ i' ((hfl (h.fl h0 p i hp hun')).2 i' h1) h2
    exact (aQ_sound H hop h.R hfree hopr hS hq).mono fun w W' hpost => h.qnext ok H.xm hs hp ho hun he hv hn (fun hc => (hfl hc).1) hdt hfree hpost
  · obtain ⟨hv0,hn0⟩:=hf hb
    subst hv0
    exact h.qnext (n1:=[]) ok H.xm hs hp ho hun he hv (by rw [hn0,List.append_nil]) (fun _ => rfl) hdt (fun i' h1 h2 => by simp at h2; omega) (QPost.val h.R rep_undef)
theorem J.tnext (h : J k listed a W kT sT envT m F XO stN) (ok : k.Ok) (hs : listed.size = k.ops.size) {i : Nat} {o : Oper} {v : AV} {w : Value} {s1 : S} {m1 : Nat → Option Nat} {F1 XO1 : Nat → Prop} (hi : k.t[kT]? = some i) (ho : k.ops[i]? = some o) (he : ∀ e ∈ o.after,Region.binds .any e = true → listed.getD e.on false = true)
    (hfl : ∀ (p i : Nat),k.q[p]? = some i → listed.getD i false = false → k.fl.contains p = true) (hstN : stN = sto sT.st)
    (S1 : St k.gb k.X m1 F1 k.L XO1 W' s1.st s1.ext) (hvars : s1.vars = sT.vars) (M1 : Mv k.nb m F XO W sT.st m1 F1 XO1 W' s1.st) (mono : ∀ u z,RepA m F k.L W u z → RepA m1 F1 k.L W' u z) (hrv : RepA m1 F1 k.L W' v w) (hln : sT.st.length ≤ s1.st.length) (hkeep : (∃ j ∈ k.q,listed.getD j false = false) → ∀ i ∈ k.fsF,i < k.s0.st.length → sto s1.st i = sto sT.st i)
    (hrun : aOpsL k.lo k.fsF (k.c.map (· - (kT + 1))) (k.rs.drop (k.q.length + (kT + 1))) (envT ++ [v]) { s1 with vars:=setW s1.vars (o.dst.bind fun d => k.slots.idxOf? d) v } = some (k.envE,k.sE)) :
    J k (listed.setIfInBounds i true) (a.put o.dst w) W' (kT + 1) { s1 with vars:=setW s1.vars (o.dst.bind fun d => k.slots.idxOf? d) v } (envT ++ [v]) m1 F1 XO1 (sto s1.st):=by
  have hit:=List.mem_of_getElem? hi
  have hil : i < listed.size:=by rw [hs]; exact ok.tm i hit
  have hself : (listed.setIfInBounds i true).getD i false = true:=by simp [hil]
  have hset : ∀ j,j ≠ i → (listed.setIfInBounds i true).getD j false = listed.getD j false:=fun j hj => getD_set_ne false (Ne.symm hj)
  have hfwd : ∀ j,listed.getD j false = true → (listed.setIfInBounds i true).getD j false = true:=fun j hj => getD_set_true hj
  have hdst : o.dst = k.dst i:=by simp [RK.dst,ho]
  have hqi : ∀ j,j ∈ k.q → j ≠ i:=fun j hj e => ((ok.qm j).1 hj).2 (e ▸ hit)
  have hvl : s1.vars.length = k.slots.length:=by rw [hvars]; exact h.vl
  have hlast : ∀ r,r < kT → (envT ++ [v]).getD (k.q.length + r) .junk = envT.getD (k.q.length + r) .junk:=fun r hr => by
    rw [List.getD_eq_getElem?_getD,List.getElem?_append_left (by have:=h.e2; omega),← List.getD_eq_getElem?_getD]
  have hnew : (envT ++ [v]).getD (k.q.length + kT) .junk = v:=by
    rw [List.getD_eq_getElem?_getD,List.getElem?_append_right (by have:=h.e2; omega),h.e2]; simp
  refine { kl:=(List.getElem?_eq_some_iff.1 hi).1,lT:=fun r j hj => ?_,run:=hrun,e1:=?_,e2:=by simp [h.e2,Nat.add_assoc],z:=fun h => absurd h (Nat.succ_ne_zero _),ln:=Nat.le_trans h.ln hln,fl:=fun _ p' i' hi' hl => ?_,fsx:=fun ⟨j',hj1,hj2⟩ i' hi' hlt => ?_,cl:=fun j oj hj hl e hem hb => ?_,df:=?_,vz:=by rw [put_size]; exact h.vz,vl:=by rw [setW_len]; exact hvl,
           V:=fun s d hsd hw => ?_,V2:=fun s d hsd hno => ?_,Lq:=fun p' i' d hi' hl hd hns => ?_,Lt:=fun r j d hr hj hd hns => ?_,R:=S1.R,x:=S1.x,ap:=S1.ap,mv:=?_,ow:=fun b hb => ?_,A:=fun h => absurd h (Nat.succ_ne_zero _),B:=fun _ => ⟨rfl,S1.up⟩ }
  · by_cases e : j = i
    · subst e
      have:=pw_inj ok.tp hj hi
      subst this
      exact ⟨fun _ => Nat.lt_succ_self _,fun _ => hself⟩
    · rw [hset j e,h.lT r j hj]
      constructor
      · intro h1; omega
      · intro h1
        rcases Nat.lt_or_ge r kT with h2 | h2
        · exact h2
        · have : r = kT:=by omega
          subst this; rw [hi] at hj; injection hj with hj; exact absurd hj.symm e
  · rw [List.take_append_of_le_length (by have:=h.e2; omega)]; exact h.e1
  · rw [hset i' (hqi i' (List.mem_of_getElem? hi'))] at hl
    exact hfl p' i' hi' hl
  · have hex : ∃ j ∈ k.q,listed.getD j false = false:=⟨j',hj1,by rwa [hset j' (hqi j' hj1)] at hj2⟩
    rw [hkeep hex i' hi' hlt,← hstN]; exact h.fsx hex i' hi' hlt
  · by_cases ej : j = i
    · subst ej
      rw [ho] at hj; injection hj with hj; subst hj
      exact hfwd _ (he e hem hb)
    · rw [hset j ej] at hl
      exact hfwd _ (h.cl j oj hj hl e hem hb)
  · rw [← h.df]; cases o.dst <;> rfl
  · rw [setW_get ok.nd hsd hvl]
    by_cases e : o.dst = some d
    · rw [if_pos e,e,put_self (Nat.lt_of_lt_of_le (ok.dlt (hdst ▸ e)) h.vz)]
      exact hrv
    · rw [if_neg e,put_get e,hvars]
      exact mono _ _ (h.V s d hsd fun p' i' hi' hd => by
        have:=hw p' i' hi' hd
        rwa [hset i' (hqi i' (List.mem_of_getElem? hi'))] at this)
  · rw [setW_get ok.nd hsd hvl,if_neg (by rw [hdst]; exact hno kT i (Nat.lt_succ_self _) hi),hvars]
    exact h.V2 s d hsd fun r j hr hj => hno r j (by omega) hj
  · have hne:=hqi i' (List.mem_of_getElem? hi')
    rw [hset i' hne] at hl
    rw [put_get (by rw [hdst]; intro hc; exact hne (ok.uniq hd hc hns))]
    exact mono _ _ (h.Lq p' i' d hi' hl hd hns)
  · by_cases e : j = i
    · subst e
      have:=pw_inj ok.tp hj hi
      subst this
      rw [hdst,hd,put_self (Nat.lt_of_lt_of_le (ok.dlt hd) h.vz),hnew]
      exact hrv
    · have hrk : r < kT:=by
        rcases Nat.lt_or_ge r kT with h2 | h2
        · exact h2
        · have : r = kT:=by omega
          subst this; rw [hi] at hj; injection hj with hj; exact absurd hj.symm e
      rw [hlast r hrk,put_get (by rw [hdst]; intro hc; exact e (ok.uniq hd hc hns))]
      exact mono _ _ (h.Lt r j d hrk hj hd hns)
  · have:=(h.mv.mv (st':=sT.st) fun b hb => h.ow b (hstN ▸ hb)).trans M1
    exact this.p
  · have:=(h.mv.mv (st':=sT.st) fun b hb => h.ow b (hstN ▸ hb)).trans M1
    exact this.ow b hb
theorem J.tstep (h : J k listed a W kT sT envT m F XO stN) (ok : k.Ok) (H : LowerOk k.P k.gb k.X k.lo) (hs : listed.size = k.ops.size) {i : Nat} {o : Oper} (hi : i ∈ k.t) (ho : k.ops[i]? = some o) (hun : listed.getD i true = false) (he : ∀ e ∈ o.after,Region.binds .any e = true → listed.getD e.on false = true) :
    (Region.wanted o (yielded k.ops a.tmps) = true → Vm.Ok k.P ro o a W fun w W' => ∃ kT' sT' envT' m' F' XO' stN',J k (listed.setIfInBounds i true) (a.put o.dst w) W' kT' sT' envT' m' F' XO' stN') ∧
    (Region.wanted o (yielded k.ops a.tmps) = false → ∃ kT' sT' envT' m' F' XO' stN',J k (listed.setIfInBounds i true) (a.put o.dst undef) W kT' sT' envT' m' F' XO' stN'):=by
  have hil : i < listed.size:=by rw [hs]; exact ok.tm i hi
  have hun' : listed.getD i false = false:=by rw [listed_eq hil false true]; exact hun
  -- it is the next one
  have hik : k.t[kT]? = some i:=by
    obtain ⟨r,hrl,hri⟩:=List.getElem_of_mem hi
    have hr : k.t[r]? = some i:=by rw [List.getElem?_eq_getElem hrl,hri]
    have h1 : ¬ r < kT:=fun hc => by rw [(h.lT r i hr).2 hc] at hun'; cases hun'
    rcases Nat.lt_or_ge kT r with hlt | hge
    · obtain ⟨j,hj⟩ : ∃ j,k.t[kT]? = some j:=⟨_,List.getElem?_eq_getElem (by omega)⟩
      have hji:=(pw_lt ok.tp hj hr).1 hlt
      have:=h.bef ho he (ok.T1 hi (List.mem_of_getElem? hj) hji)
      have:=(h.lT kT j hj).1 this
      omega
    · have : r = kT:=by omega
      rw [← this]; exact hr
  have hbit : ∀ j,listed.getD j false = false → ((befs k.ops.toList []).getD i 0).testBit j = false:=by
    intro j hj
    cases hc : ((befs k.ops.toList []).getD i 0).testBit j with
    | false => rfl
    | true => rw [h.bef ho he hc] at hj; cases hj
  have hfl : ∀ (p j : Nat),k.q[p]? = some j → listed.getD j false = false → k.fl.contains p = true:=fun p j hp hj => ok.flq p j i hp hi (hbit j hj)
  obtain ⟨hstN,S⟩:=h.st ok hfl
  obtain ⟨op,g,hop,hg,hrs⟩:=ok.op (ok.tpos hik) ho
  have hrun:=h.run
  have hdrop : k.rs.drop (k.q.length + kT) = { w:=o.dst.bind fun d => k.slots.idxOf? d,g:=g,op:=op } :: k.rs.drop (k.q.length + (kT + 1)):=by
    obtain ⟨h1,h2⟩:=List.getElem?_eq_some_iff.1 hrs
    rw [List.drop_eq_getElem_cons h1,h2]; rfl
  rw [hdrop] at hrun
  have hcm : (k.c.map (· - kT)).map (· - 1) = k.c.map (· - (kT + 1)):=by
    rw [Option.map_map]; congr 1
  simp only [aOpsL,hcm] at hrun
  -- whoever sets what it looks at is done
  have hlook : ∀ d ∈ o.looksAt k.ops,∀ j,j ∈ k.q → k.dst j = some d → listed.getD j false = true:=by
    intro d hd j hj hjd
    cases hc : listed.getD j false with
    | true => rfl
    | false =>
      obtain ⟨oj,hoj⟩ : ∃ oj,k.ops[j]? = some oj:=⟨_,Array.getElem?_eq_getElem ((ok.qm j).1 hj).1⟩
      exact absurd hd ((ok.T2 hi hj ho hoj (hbit j hc)).1 d hjd).1
  have hloc : ∀ p' d,d ∈ o.looksAt k.ops → p' < envT.length → k.C.dsts[p']? = some (some d) → d ∉ k.slots → RepA m F k.L W (envT.getD p' .junk) (a.tmps.getD d undef):=by
    intro p' d hd hlt hds hns
    obtain ⟨i',h1,h2⟩:=ok.dsts' hds
    by_cases hpq : p' < k.q.length
    · rw [List.getElem?_append_left hpq] at h1
      have e : envT.getD p' .junk = k.envF.getD p' .junk:=by
        rw [← h.e1,List.getD_eq_getElem?_getD,List.getD_eq_getElem?_getD,List.getElem?_take,if_pos hpq]
      rw [e]
      exact h.Lq p' i' d h1 (hlook d hd i' (List.mem_of_getElem? h1) h2) h2 hns
    · rw [List.getElem?_append_right (by omega)] at h1
      have:=h.Lt (p' - k.q.length) i' d (by have:=h.e2; omega) h1 h2 hns
      rwa [show k.q.length + (p' - k.q.length) = p' by omega] at this
  have hwant : ∀ b,wantG envT g = some b → Region.wanted o (yielded k.ops a.tmps) = b:=by
    intro b hw
    refine want_eq2 (C:=k.C) (gb:=k.C.glob) (slots:=k.C.slots) (dsts:=k.C.dsts) (pos:=k.C.pos) (m:=m) (F:=F) (L:=k.L) (W:=W) (env:=envT) (fun j w p' d hgd hpj hlt hd hns => ?_) (compG_eta hg) (fun j w hgd => ?_) (fun j w d hgd hd => ?_) hw
    · have hord : (k.q ++ k.t)[p']? = some j:=by rw [ok.po] at hpj; exact idxOf_get hpj
      refine hloc p' d (looks_guard hgd hd) hlt ?_ (by rw [← ok.cs]; exact hns)
      rw [ok.dsts hord]; exact congrArg some hd
    · obtain ⟨_,d,h1,h2⟩:=guard_ok ok.gu (i:=i) (by simpa using ho) hgd
      exact ⟨d,by simpa using h1,by rw [ok.cs]; exact h2⟩
    · exact Nat.lt_of_lt_of_le (ok.dlt (i:=j) hd) h.vz
  split at hrun
  · cases hrun
  · rename_i hw
    rw [hwant false hw]
    refine ⟨(fun h => nomatch h),fun _ => ?_⟩
    exact ⟨_,_,_,_,_,_,_,h.tnext ok hs hik ho he hfl hstN S rfl (Mv.refl k.nb) (fun _ _ h => h) rep_undef (Nat.le_refl _) (fun _ _ _ _ => rfl) hrun⟩
  · rename_i hw
    rw [hwant true hw]
    refine ⟨fun _ => ?_,(fun h => nomatch h)⟩
    split at hrun
    · rename_i hap
      split at hrun
      · cases hrun
      · rename_i v s1 hopr
        have hoprok : OprOk k.C m F k.L W o a sT.vars envT:=by
          refine opr_ok2 ok.cg (hstN ▸ h.R) (fun s d hd hsd => ?_) (fun p' d hd hlt hds hns => ?_)
          · rw [ok.cs] at hsd
            exact h.V s d hsd fun p' i' hi' hdi => hlook d (looks_opr hd) i' (List.mem_of_getElem? hi') hdi
          · rw [ok.cs] at hns; exact hloc p' d (looks_opr hd) hlt hds hns
        obtain ⟨hok,hvars⟩:=aOp_sound (ro:=ro) (a:=a) H hop S hoprok hopr
        obtain ⟨hkl,hkk⟩:=aOp_keep hopr
        refine hok.mono fun w W' ⟨m1,F1,XO1,p⟩ => ?_
        refine ⟨_,_,_,_,_,_,_,h.tnext ok hs hik ho he hfl hstN p.s hvars (p.mv k.nb) (fun u z h => p.rep S h) p.rv hkl (fun ⟨j',hj1,hj2⟩ i' hi' hlt => hkk i' (Nat.lt_of_lt_of_le hlt h.ln) fun hc => ?_) hrun⟩
        rcases Bool.or_eq_true _ _ ▸ hap with hap | hap
        · obtain ⟨c,hc1⟩ : ∃ c,k.c = some c:=by
            cases hkc : k.c with
            | none => rw [hkc] at hap; cases hap
            | some c => exact ⟨c,rfl⟩
          rw [hc1] at hap
          have hck : c ≤ kT:=by
            have : c - kT = 0:=by simpa using hap
            omega
          have hin : i ∈ k.t.drop c:=by
            refine List.mem_of_getElem? (i:=kT - c) ?_
            rw [List.getElem?_drop,show c + (kT - c) = kT by omega]; exact hik
          have:=h.bef ho he (ok.late c hc1 i hin j' hj1)
          rw [hj2] at this; cases this
        · have:=List.all_eq_true.1 hap i' hc
          simp at this
          exact this hi'
    · cases hrun
end
end Go.Vm

/- Soundness: regions. -/
namespace Go.Vm
open Go
section
variable {P : Program} {gb : Nat → Option (List D)} {X : XT} {a : Act} {W : World} {m : Nat → Option Nat} {F : Nat → Prop} {L : Option Nat} {XO : Nat → Prop} {st : List AO} {ext : Option Ext} {vars : List AV} {ro : Option Nat} {lo : Lower}
def drewW (W : World) : World:={ W with drawn:=W.drawn + 1 }
theorem tr_drew (O : Nat → Prop) (W : World) : Tr O W (drewW W):=⟨rfl,rfl,rfl,Nat.le_refl _,fun _ _ _ => rfl,fun _ _ h => h⟩
theorem st_drew (hX : XMono X) (S : St gb X m F L XO W st ext) : St gb X m F L XO (drewW W) st ext :=
  ⟨Rel.mono S.R (tr_drew (fun _ => False) W) (fun _ _ h => h) S.R.hm (fun _ h => h) S.R.hF (fun _ _ _ _ h => h) (fun _ _ h => h) S.R.nF,S.up,
   S.x.mono (m:=m) (m':=m) hX (O:=fun _ => False) ⟨fun _ _ h => h,fun _ h => h,fun _ h => .inl h,tr_drew _ W⟩ (fun b hb => ⟨S.R.hF b hb,fun h => h⟩) (fun _ _ h => h) S.R.hF,S.ap⟩
theorem rep_drew {v : AV} {w : Value} (h : RepA m F L W v w) : RepA m F L (drewW W) v w :=
  RepA.mono (W:=W) (W':=drewW W) (fun _ _ h => h) (fun _ h => h) (fun _ _ => rfl) (fun _ _ h => h) h
theorem order_nodup {q t : List Nat} (hq : q.Nodup) (ht : t.Nodup) (hd : ∀ i ∈ q,i ∉ t) : (q ++ t).Nodup:=by
  rw [List.nodup_append]
  exact ⟨hq,ht,fun a ha b hb e => hd a ha (e ▸ hb)⟩
theorem edges_of {ops : Array Oper} (h : edgesOk ops = true) : ∀ (i : Nat) (o : Oper),ops[i]? = some o → ∀ e ∈ o.after,Region.binds .any e = true → e.on < i:=by
  intro i o ho e he hb
  have hi:=(Array.getElem?_eq_some_iff.1 ho).1
  have:=List.all_eq_true.1 h i (List.mem_range.2 hi)
  rw [ho] at this
  simp only at this
  obtain ⟨j,hj,rfl⟩:=Array.getElem_of_mem he
  have:=Array.all_eq_true.1 this j hj
  rw [hb] at this
  simpa using this
theorem draw_sound (H : LowerOk P gb X lo) {ops : Array Oper} {slots q t : List Nat} {h : Hint} {nb : Nat} {rs : List ROp} {fl : List Nat} {cc : Nat} {s s' : S} {id : Nat} {Q : Exit → Act → World → Prop} (hm : P.follows .mixedOrders = true) (hn : slots.Nodup) (hloc : localsOk h.nt ops.toList slots = true) (hgu : guardsOk ops.toList slots = true)
    (hqok : quietOk ops q = true) (hcok : chainOk ops (befs ops.toList []) q t = true) (hed : edgesOk ops = true) (hqp : q.Pairwise (· < ·)) (htp : t.Pairwise (· < ·)) (htm : ∀ i ∈ t,i < ops.size) (hqm : ∀ i,i ∈ q ↔ i < ops.size ∧ i ∉ t)
    (hfl : fl = (flagged (befs ops.toList []) q t).filterMap fun i => (q ++ t).idxOf? i) (hc : compOps P { slots:=slots,dsts:=(pickOps ops.toList (q ++ t)).map (·.dst),pos:=fun i => (q ++ t).idxOf? i,glob:=gb,h:=h } (pickOps ops.toList (q ++ t)) = some rs)
    (hq7 : q.length < 1000) (hlate : ∀ c,limOf cc = some c → ∀ j ∈ t.drop c,∀ i ∈ q,((befs ops.toList []).getD j 0).testBit i = true)
    (ha : aRegion lo rs (some (q.length + 1000 * cc,fl)) s = some s') (S : St gb X m F L XO W s.st s.ext) (hv : Vr h.nt slots m F L W a s.vars) (hQ : ∀ a' W',Next gb X h.nt slots L nb m F XO W s.st s' a' W' → a'.defers = a.defers → Q .normal a' W') :
    (Code.region id ops true).wpIn (fen ro) 0 P Q a W:=by
  have hm1 : (q.length + 1000 * cc) % 1000 = q.length:=by omega
  have hm2 : (q.length + 1000 * cc) / 1000 = cc:=by omega
  simp only [aRegion,hm1,hm2,tail_L] at ha
  split at ha
  · cases ha
  · rename_i envF varsF newsF fsF hq
    split at ha
    · rename_i envE sE hT
      injection ha with ha; subst ha
      obtain ⟨vs,ns,k1,k2,k3,k4,k5,k6,k7,k8⟩:=q_trace hq
      simp only [List.length_nil,Nat.zero_add] at k1 k2 k3 k4 k5 k6 k8
      have hlen : (rs.take q.length).length = q.length:=by
        rw [List.length_take,(compOps_get hc).1,(pick_get (ops:=ops.toList) fun i hi => ?_).1]
        · simp
        · rw [List.mem_append] at hi
          simp only [Array.length_toList]
          exact hi.elim (fun hi => ((hqm i).1 hi).1) (htm i)
      rw [hlen] at k2 k5 k6
      have S1:=st_drew H.xm S
      obtain ⟨k,hk⟩ : ∃ k : RK,k = { P:=P,gb:=gb,X:=X,lo:=lo,C:={ slots:=slots,dsts:=(pickOps ops.toList (q ++ t)).map (·.dst),pos:=fun i => (q ++ t).idxOf? i,glob:=gb,h:=h },ops:=ops,slots:=slots,nt:=h.nt,nb:=nb,q:=q,t:=t,fl:=fl,rs:=rs,s0:=s,envF:=envF,varsF:=varsF,newsF:=newsF,fsF:=fsF,c:=limOf cc,vs:=vs,ns:=ns,envE:=envE,sE:=sE,L:=L,m0:=m,F0:=F,XO0:=XO,W0:=W,a0:=a }:=⟨_,rfl⟩
      have hond : (q ++ t).Nodup:=order_nodup (pw_nodup hqp) (pw_nodup htp) fun i hi => ((hqm i).1 hi).2
      have ok : k.Ok:=by
        subst hk
        refine { cs:=rfl,cg:=rfl,ds:=rfl,po:=fun _ => rfl,nd:=hn,loc:=hloc,gu:=hgu,qp:=hqp,tp:=htp,qm:=hqm,tm:=htm,qok:=hqok,cok:=hcok,flq:=fun p i j hp hj hb => ?_,late:=hlate,comp:=hc,tr:=k8,el:=k2,vl0:=hv.ln,v0:=k3,n0:=k4,vM:=k5,nM:=k6 }
        simp only at hp hj hb ⊢
        rw [hfl,List.contains_iff_mem,List.mem_filterMap]
        refine ⟨i,List.mem_filter.2 ⟨List.mem_of_getElem? hp,List.any_eq_true.2 ⟨j,hj,by rw [hb]; rfl⟩⟩,?_⟩
        exact idx_of hond (by rw [List.getElem?_append_left (List.getElem?_eq_some_iff.1 hp).1]; exact hp)
      have none : ∀ i,(Array.replicate ops.size false).getD i false = false:=fun i => by
        by_cases hi : i < ops.size
        · simp [hi]
        · simp [hi]
      have ons : ∀ b,own m (sto s.st) b → own m (sto s.st) b ∨ W.heap.size ≤ b:=fun b h => .inl h
      have hJ : J k (Array.replicate ops.size false) a (drewW W) 0 { s with vars:=varsF,st:=s.st ++ newsF } envF m F XO (sto s.st):=by
        subst hk
        refine { kl:=Nat.zero_le _,lT:=fun r i hi => ?_,run:=?_,e1:=?_,e2:=?_,z:=fun _ => rfl,ln:=by simp,fl:=fun h => absurd h (Nat.lt_irrefl _),fsx:=fun _ _ _ _ => rfl,cl:=fun i o _ hl => ?_,df:=rfl,vz:=hv.sz,vl:=?_,
                 V:=fun sl d hsd hw => ?_,V2:=fun _ _ _ _ => rfl,Lq:=fun p i d _ hl => ?_,Lt:=fun r i d hr => absurd hr (Nat.not_lt_zero _),R:=S1.R,x:=S1.x,ap:=S1.ap,mv:=⟨fun _ _ _ h => h,fun _ h => h,fun _ h => .inl h,tr_drew _ W,fun _ h => .inl h,fun i _ h => .inl ⟨i,h⟩⟩,ow:=ons,A:=fun _ => ⟨fun _ _ => rfl,fun p i _ hl => ?_,fun i hi hor => ?_⟩,B:=fun h => absurd h (Nat.lt_irrefl _) }
        · simp only [none]; simp
        · have e0 : (limOf cc).map (· - 0) = limOf cc:=by cases limOf cc <;> simp
          simp only [e0]
          exact hT
        · exact List.take_of_length_le (by simp only; omega)
        · exact k2
        · rw [none] at hl; cases hl
        · have:=(ok.vget (s:=0) (d:=0))
          simp only
          rw [← k5]
          have key : ∀ p,p ≤ q.length → (vs p).length = slots.length:=by
            intro p
            induction p with
            | zero => intro _; rw [k3]; exact hv.ln
            | succ p ih =>
              intro hp
              have hlt : p < (rs.take q.length).length:=by rw [hlen]; omega
              obtain ⟨b,v,_,_,hstep,_⟩:=k8 p _ (List.getElem?_eq_getElem hlt)
              rw [hstep,setW_len]; exact ih (by omega)
          exact key _ (Nat.le_refl _)
        · have:=(ok.vget hsd q.length (Nat.le_refl _)).2.2 fun r i _ hr hd => by
            have:=hw r i hr hd
            rw [none] at this; cases this
          simp only at this ⊢
          rw [k5] at this
          rw [this]
          exact rep_drew (hv.vr sl d hsd)
        · rw [none] at hl; cases hl
        · rw [none] at hl; cases hl
        · exfalso
          simp only at hi hor
          rcases hor with h1 | h1
          · exact h1 (by simp [sto,List.getD_eq_getElem?_getD,List.getElem?_eq_none hi])
          · cases hmi : m i with
            | none => exact h1 hmi
            | some b => have:=S.up i b hmi; omega
      refine wpIn_region_draw fun tt => ?_
      simp only [Region.schedule,hm,Bool.true_or,if_true]
      have hops : k.ops = ops:=by rw [hk]
      refine sched (fun listed a' W' => ∃ kT sT envT m' F' XO' stN,listed.size = ops.size ∧ J k listed a' W' kT sT envT m' F' XO' stN) (edges_of hed) (fun listed a' w i o hs hI ho hun he => ?_) (fun listed a' w hI hall => ?_) ops.size tt (Array.replicate ops.size false) a (drewW W) (by simp) (by
          have:=cnt_le (Array.replicate ops.size false) ops.size; exact this) ⟨0,_,envF,m,F,XO,sto s.st,by simp,hJ⟩
      · obtain ⟨kT,sT,envT,m',F',XO',stN,_,hj⟩:=hI
        have HH : LowerOk k.P k.gb k.X k.lo:=by rw [hk]; exact H
        have hsz : listed.size = k.ops.size:=by rw [hops]; exact hs
        have ho' : k.ops[i]? = some o:=by rw [hops]; exact ho
        have hset : (listed.setIfInBounds i true).size = ops.size:=by simpa using hs
        have hP : k.P = P:=by rw [hk]
        by_cases hit : i ∈ k.t
        · obtain ⟨h1,h2⟩:=hj.tstep (ro:=ro) ok HH hsz hit ho' hun he
          rw [hops,hP] at h1
          rw [hops] at h2
          refine ⟨fun hw next hn => h1 hw next Q fun v W' ⟨kT',sT',envT',m2,F2,XO2,st2,hj2⟩ => hn _ _ ⟨kT',sT',envT',m2,F2,XO2,st2,hset,hj2⟩,fun hw => ⟨fun f _ => fen_fn ro f,?_⟩⟩
          obtain ⟨kT',sT',envT',m2,F2,XO2,st2,hj2⟩:=h2 hw
          exact ⟨kT',sT',envT',m2,F2,XO2,st2,hset,hj2⟩
        · have hiq : i ∈ k.q:=(ok.qm i).2 ⟨(Array.getElem?_eq_some_iff.1 ho').1,hit⟩
          obtain ⟨h1,h2⟩:=hj.qstep (ro:=ro) ok HH hsz hiq ho' hun he
          rw [hops,hP] at h1
          rw [hops] at h2
          refine ⟨fun hw next hn => h1 hw next Q fun v W' ⟨m2,F2,st2,hj2⟩ => hn _ _ ⟨kT,sT,envT,m2,F2,XO',st2,hset,hj2⟩,fun hw => ⟨fun f _ => fen_fn ro f,?_⟩⟩
          obtain ⟨m2,F2,st2,hj2⟩:=h2 hw
          exact ⟨kT,sT,envT,m2,F2,XO',st2,hset,hj2⟩
      · obtain ⟨kT,sT,envT,m',F',XO',stN,hs,hj⟩:=hI
        have:=hj.done ok (by rw [hops]; exact hs) (by rw [hops]; exact hall)
        have hdf:=hj.df
        subst hk
        exact hQ a' w this hdf
    · cases ha
theorem region_sound (H : LowerOk P gb X lo) {ops : Array Oper} {slots : List Nat} {h : Hint} {nb : Nat} {rs : List ROp} {dr : Option (Nat × List Nat)} {draw : Bool} {s s' : S} {id : Nat} {Q : Exit → Act → World → Prop} (hm : P.follows .mixedOrders = true) (hn : slots.Nodup) (hc : compRegion P slots gb h ops draw = some (.region rs dr))
    (ha : aRegion lo rs dr s = some s') (S : St gb X m F L XO W s.st s.ext) (hv : Vr h.nt slots m F L W a s.vars) (hQ : ∀ a' W',Next gb X h.nt slots L nb m F XO W s.st s' a' W' → a'.defers = a.defers → Q .normal a' W') :
    (Code.region id ops draw).wpIn (fen ro) 0 P Q a W:=by
  unfold compRegion at hc
  split at hc
  · cases hc
  · rename_i hok
    have hok' : localsOk h.nt ops.toList slots = true ∧ guardsOk ops.toList slots = true:=by
      cases h1 : localsOk h.nt ops.toList slots <;> cases h2 : guardsOk ops.toList slots <;> simp [h1,h2] at hok ⊢
    obtain ⟨hloc,hgu⟩:=hok'
    cases draw with
    | false =>
      simp only [Bool.not_false,if_true,Option.map_eq_some_iff,IR.region.injEq] at hc
      obtain ⟨rs',hcomp,rfl,rfl⟩:=hc
      simp only [aRegion] at ha
      split at ha
      · rename_i env' s1 hops
        injection ha with ha; subst ha
        refine wpIn_region ?_
        have:=ops_sound (ro:=ro) (Q:=Q) (nb:=nb) H rfl hn hloc hgu ops.toList rs' [] env' s s1 a W m F XO (by simp) (Nat.zero_le _) hcomp hops S hv (fun i t h => absurd h (Nat.not_lt_zero _)) hQ
        rw [List.range_eq_range']
        exact this
      · cases ha
    | true =>
      simp only [Bool.not_true,Bool.false_eq_true,if_false] at hc
      split at hc
      · rename_i hchk
        simp only [Bool.and_eq_true,decide_eq_true_eq] at hchk
        obtain ⟨⟨⟨⟨⟨⟨h1,h2⟩,h3⟩,h4⟩,h5⟩,h6⟩,h7⟩:=hchk
        simp only [Option.map_eq_some_iff,IR.region.injEq] at hc
        obtain ⟨rs',hcomp,rfl,rfl⟩:=hc
        refine draw_sound H hm hn hloc hgu h1 h2 h3 h4 h5 (fun i hi => by simpa using List.all_eq_true.1 h6 i hi) (fun i => by simp [List.mem_filter]) rfl hcomp h7 (fun c hc => ?_) ha S hv hQ
        split at hc
        · unfold lateAt at hc
          split at hc
          · rename_i r hr
            injection hc with hc
            subst hc
            intro j hj i hi
            have hp:=List.find?_some hr
            exact List.all_eq_true.1 (List.all_eq_true.1 hp j hj) i hi
          · cases hc
        · cases hc
      · cases hc
end
end Go.Vm

/- Soundness: code. -/
namespace Go.Vm
open Go
section
variable {P : Program} {gb : Nat → Option (List D)} {X : XT} {a a' : Act} {W W' : World} {m m' : Nat → Option Nat} {F F' : Nat → Prop} {L : Option Nat} {XO XO' : Nat → Prop} {st st' : List AO} {ext : Option Ext} {vars : List AV} {ro : Option Nat} {lo : Lower}
structure DOk (n0 : Nat) (ds : List Deferred) (W : World) (m : Nat → Option Nat) (st : List AO) (F XO : Nat → Prop) : Prop where
  sz : n0 ≤ W.heap.size
  all : ∀ d ∈ ds,∃ b,d.target = .collected b ∧ W.heap[b]? = some (.deferred (some [])) ∧ ¬ ownA m st XO b ∧ ¬ F b ∧ n0 ≤ b
  nd : (ds.map (·.target)).Nodup
theorem DOk.mv {nb n0 : Nat} {ds : List Deferred} (h : DOk n0 ds W m st F XO) (M : Mv nb m F XO W st m' F' XO' W' st') : DOk n0 ds W' m' st' F' XO':=by
  refine ⟨Nat.le_trans h.sz M.tr.size,fun d hd => ?_,h.nd⟩
  obtain ⟨b,h1,h2,h3,h5,h6⟩:=h.all d hd
  have hlt : b < W.heap.size:=(Array.getElem?_eq_some_iff.1 h2).1
  refine ⟨b,h1,(M.tr.keep b hlt h3).trans h2,fun hc => ?_,fun hc => ?_,h6⟩
  · rcases hc with hc | hc
    · rcases M.ow b hc with h4 | h4
      · exact h3 (.inl h4)
      · omega
    · rcases M.xo b hc with h4 | h4
      · exact h3 (.inr h4)
      · omega
  · rcases M.nF b hc with h4 | h4 | h4
    · exact h5 h4
    · exact h3 h4
    · omega
def CN (n0 : Nat) (gb : Nat → Option (List D)) (X : XT) (nt : Nat) (slots : List Nat) (L : Option Nat) (nb : Nat) (m : Nat → Option Nat) (F XO : Nat → Prop) (W : World) (st : List AO) (s' : S) (a' : Act) (W' : World) : Prop :=
  ∃ m' F' XO',St gb X m' F' L XO' W' s'.st s'.ext ∧ Vr nt slots m' F' L W' a' s'.vars ∧ Mv nb m F XO W st m' F' XO' W' s'.st ∧ DOk n0 a'.defers W' m' s'.st F' XO'
def exitOf : AExit → Exit
  | .normal => .normal
  | .exit i => .exit i
  | .ret => .ret
theorem least {p : Nat → Prop} (h : ∃ n,p n) : ∃ n,p n ∧ ∀ j,p j → n ≤ j:=by
  obtain ⟨n,hn⟩:=h
  induction n using Nat.strongRecOn with
  | _ n ih =>
    by_cases hc : ∃ j,j < n ∧ p j
    · obtain ⟨j,hj,hp⟩:=hc; exact ih j hj hp
    · exact ⟨n,hn,fun j hj => by
        rcases Nat.lt_or_ge j n with h | h
        · exact absurd ⟨j,h,hj⟩ hc
        · exact h⟩
theorem wpIn_loop_n {Fe : Fence} {n : Nat} {c : Code} {Q : Exit → Act → World → Prop} (I : Nat → Act → World → Prop) (round : ∀ j a w,I j a w → ∃ j',j = j' + 1 ∧ c.wpIn Fe n P (Exit.then (fun a' w' => I j' a' w') Q) a w) {j : Nat} (h0 : I j a W) : (Code.loop c).wpIn Fe n P Q a W:=by
  have mu : ∃ μ : Act → World → Nat,∀ a w,(∃ j,I j a w) → I (μ a w) a w ∧ ∀ j,I j a w → μ a w ≤ j:=by
    have:=fun (a : Act) (w : World) => Classical.em (∃ j,I j a w)
    refine ⟨fun a w => open Classical in if h : ∃ j,I j a w then Classical.choose (least h) else 0,fun a w h => ?_⟩
    simp only [h,dite_true]
    exact Classical.choose_spec (least h)
  obtain ⟨μ,hμ⟩:=mu
  refine wpIn_loop (fun a w => ∃ j,I j a w) μ ⟨j,h0⟩ fun a w hI => ?_
  obtain ⟨h1,h2⟩:=hμ a w hI
  obtain ⟨j',hj,hw⟩:=round _ a w h1
  refine wpIn_mono hw fun e a' w' he => ?_
  cases e with
  | normal => exact ⟨⟨j',he⟩,by have:=(hμ a' w' ⟨j',he⟩).2 j' he; omega⟩
  | _ => exact he
theorem keepVars_get : ∀ (l : List AV) (keep : List Nat) (i : Nat),(keepVars keep l).getD i .junk = l.getD i .junk ∨ (keepVars keep l).getD i .junk = .junk
  | [],keep,i => by simp [keepVars]
  | v :: r,[],i => by
    cases i with
    | zero => exact .inr rfl
    | succ i => simpa [keepVars] using keepVars_get r [] i
  | v :: r,0 :: ks,i => by
    cases i with
    | zero => exact .inr rfl
    | succ i => simpa [keepVars] using keepVars_get r ks i
  | v :: r,(_ + 1) :: ks,i => by
    cases i with
    | zero => exact .inl rfl
    | succ i => simpa [keepVars] using keepVars_get r ks i
theorem keepVars_len : ∀ (l : List AV) (keep : List Nat),(keepVars keep l).length = l.length
  | [],_ => by simp [keepVars]
  | v :: r,[] => by simp [keepVars,keepVars_len r]
  | v :: r,0 :: ks => by simp [keepVars,keepVars_len r]
  | v :: r,(_ + 1) :: ks => by simp [keepVars,keepVars_len r]
theorem head_next {n0 : Nat} {cx : Cx} {keep : List Nat} {nt : Nat} {slots : List Nat} {s : S} (hS : St gb X m F L XO W s.st s.ext) (hv : Vr nt slots m F L W a s.vars) (hd : DOk n0 a.defers W m s.st F XO) :
    CN n0 gb X nt slots L cx.nb m F XO W s.st (head cx keep s) a W:=by
  obtain ⟨l,hl⟩ : ∃ l,l = keepIds cx.nb (idsL (keepVars keep s.vars)) s.st:=⟨_,rfl⟩
  have hn : l.Nodup:=by rw [hl]; exact keep_nodup _ _ _
  have e1 : (head cx keep s).st = pickSt (idx l) l s.st:=by simp only [head,gc,hl]
  have e2 : (head cx keep s).vars = renL (idx l) (keepVars keep s.vars):=by simp only [head,gc,hl]
  have e3 : (head cx keep s).ext = s.ext:=rfl
  have howp : ∀ b,own (fun j : Nat => (l[j]?).bind m) (sto (pickSt (idx l) l s.st)) b → own m (sto s.st) b:=fun b hb => own_pick hb
  have M : Mv cx.nb m F XO W s.st (fun j : Nat => (l[j]?).bind m) F XO W (head cx keep s).st:=by
    rw [e1]
    refine ⟨fun i b hi hb => ?_,fun _ h => h,fun _ h => .inl h,Tr.refl _ W,fun b hb => .inl (howp b hb),fun _ h => .inl h,fun i b hi => ?_⟩
    · have : l[i]? = some i:=by rw [hl]; exact keep_get hi
      simp only [this,Option.bind_some]; exact hb
    · cases hj : l[i]? with
      | none => simp [hj] at hi
      | some j => simp only [hj,Option.bind_some] at hi; exact .inl ⟨j,hi⟩
  refine ⟨fun j : Nat => (l[j]?).bind m,F,XO,?_,?_,M,hd.mv M⟩
  · rw [e1,e3]
    refine ⟨pick_rel hS.R hn,fun i b hi => ?_,hS.x,fun b hb => hS.ap b (howp b hb)⟩
    cases hj : l[i]? with
    | none => simp [hj] at hi
    | some j => have:=(List.getElem?_eq_some_iff.1 hj).1; simpa [pickSt] using this
  · rw [e2]
    refine ⟨hv.sz,by rw [renL_map,List.length_map,keepVars_len]; exact hv.ln,fun i t ht => ?_⟩
    have hi : i < s.vars.length:=by rw [hv.ln]; exact (List.getElem?_eq_some_iff.1 ht).1
    have e : (renL (idx l) (keepVars keep s.vars)).getD i .junk = ren (idx l) ((keepVars keep s.vars).getD i .junk):=by
      rw [renL_map,List.getD_eq_getElem?_getD,List.getElem?_map,List.getD_eq_getElem?_getD]
      rw [List.getElem?_eq_getElem (by rw [keepVars_len]; exact hi)]; rfl
    rw [e]
    rcases keepVars_get s.vars keep i with h | h
    · rw [h]; exact pick_rep (hv.vr i t ht)
    · rw [h]; exact .junk _
theorem CN.trans {nt nb n0 : Nat} {slots : List Nat} {s1 s2 : S} {a1 a2 : Act} {W1 W2 : World} (h : ∃ m' F' XO',St gb X m' F' L XO' W1 s1.st s1.ext ∧ Vr nt slots m' F' L W1 a1 s1.vars ∧ Mv nb m F XO W st m' F' XO' W1 s1.st ∧ DOk n0 a1.defers W1 m' s1.st F' XO' ∧ CN n0 gb X nt slots L nb m' F' XO' W1 s1.st s2 a2 W2) : CN n0 gb X nt slots L nb m F XO W st s2 a2 W2:=by
  obtain ⟨m',F',XO',_,_,M,_,m2,F2,XO2,k1,k2,k3,k4⟩:=h
  exact ⟨m2,F2,XO2,k1,k2,M.trans k3,k4⟩
def CodeOk (P : Program) (gb : Nat → Option (List D)) (X : XT) (slots : List Nat) (h : Hint) (lo : Lower) (c : Code) (ir : IR) : Prop :=
  ∀ (n0 : Nat) (ro : Option Nat) (cx : Cx) (L : Option Nat) (s s' : S) (x : AExit) (a : Act) (W : World) (m : Nat → Option Nat) (F XO : Nat → Prop) (Q : Exit → Act → World → Prop),(cx.rd = false → ro = none) → aCode lo cx ir s = some (x,s') → St gb X m F L XO W s.st s.ext → Vr h.nt slots m F L W a s.vars → DOk n0 a.defers W m s.st F XO →
    (∀ a' W',CN n0 gb X h.nt slots L cx.nb m F XO W s.st s' a' W' → Q (exitOf x) a' W') → c.wpIn (fen ro) 0 P Q a W
theorem code_sound (H : LowerOk P gb X lo) (hm : P.follows .mixedOrders = true) {slots : List Nat} (hn : slots.Nodup) {h : Hint}
    (hrf : ∀ (t : Nat) (ps : Array Tmp) (asg body : Code) (i : Nat) (qs : List Nat) (asg' body' : IR),slots.idxOf? t = some i → ps.toList.mapM (fun p => slots.idxOf? p) = some qs → (∃ ks ks',comp P slots gb h asg ks = some (asg',ks')) → (∃ ks ks',comp P slots gb h body ks = some (body',ks')) → CodeOk P gb X slots h lo (.rangeFunc (.tmp t) ps asg body) (.rfunc (.var i) qs asg' body')) :
    ∀ (c : Code) (ks ks' : List (List Nat)) (ir : IR),comp P slots gb h c ks = some (ir,ks') → CodeOk P gb X slots h lo c ir:=by
  intro c
  induction c with
  | skip =>
    intro ks ks' ir hc n0 ro cx L s s' x a W m F XO Q hro ha hS hv hd hQ
    simp only [comp,Option.some.injEq,Prod.mk.injEq] at hc
    obtain ⟨rfl,rfl⟩:=hc
    simp only [aCode,Option.some.injEq,Prod.mk.injEq] at ha
    obtain ⟨rfl,rfl⟩:=ha
    exact wpIn_skip (hQ a W ⟨m,F,XO,hS,hv,Mv.refl _,hd⟩)
  | label l =>
    intro ks ks' ir hc n0 ro cx L s s' x a W m F XO Q hro ha hS hv hd hQ
    simp only [comp,Option.some.injEq,Prod.mk.injEq] at hc
    obtain ⟨rfl,rfl⟩:=hc
    simp only [aCode,Option.some.injEq,Prod.mk.injEq] at ha
    obtain ⟨rfl,rfl⟩:=ha
    exact wpIn_label (hQ a W ⟨m,F,XO,hS,hv,Mv.refl _,hd⟩)
  | exit id =>
    intro ks ks' ir hc n0 ro cx L s s' x a W m F XO Q hro ha hS hv hd hQ
    simp only [comp,Option.some.injEq,Prod.mk.injEq] at hc
    obtain ⟨rfl,rfl⟩:=hc
    simp only [aCode,Option.some.injEq,Prod.mk.injEq] at ha
    obtain ⟨rfl,rfl⟩:=ha
    exact wpIn_exit (hQ a W ⟨m,F,XO,hS,hv,Mv.refl _,hd⟩)
  | ret =>
    intro ks ks' ir hc n0 ro cx L s s' x a W m F XO Q hro ha hS hv hd hQ
    simp only [comp,Option.some.injEq,Prod.mk.injEq] at hc
    obtain ⟨rfl,rfl⟩:=hc
    simp only [aCode,Option.some.injEq,Prod.mk.injEq] at ha
    obtain ⟨rfl,rfl⟩:=ha
    exact wpIn_ret (hQ a W ⟨m,F,XO,hS,hv,Mv.refl _,hd⟩)
  | region id ops draw =>
    intro ks ks' ir hc n0 ro cx L s s' x a W m F XO Q hro ha hS hv hd hQ
    simp only [comp,Option.map_eq_some_iff,Prod.mk.injEq] at hc
    obtain ⟨ir0,hcr,rfl,rfl⟩:=hc
    obtain ⟨rs,dr,rfl⟩ : ∃ rs dr,ir0 = .region rs dr:=by
      unfold compRegion at hcr
      split at hcr
      · cases hcr
      · split at hcr
        · simp only [Option.map_eq_some_iff] at hcr
          obtain ⟨rs,_,rfl⟩:=hcr; exact ⟨_,_,rfl⟩
        · dsimp only at hcr
          split at hcr
          · simp only [Option.map_eq_some_iff] at hcr
            obtain ⟨rs,_,rfl⟩:=hcr; exact ⟨_,_,rfl⟩
          · cases hcr
    simp only [aCode] at ha
    split at ha
    · rename_i s1 hr
      simp only [Option.some.injEq,Prod.mk.injEq] at ha
      obtain ⟨rfl,rfl⟩:=ha
      refine region_sound (nb:=cx.nb) H hm hn hcr hr hS hv fun a' W' hN hdf => hQ a' W' ?_
      obtain ⟨m',F',XO',k1,k2,k3⟩:=hN
      exact ⟨m',F',XO',k1,k2,k3,hdf ▸ hd.mv k3⟩
    · cases ha
  | seq c1 c2 ih1 ih2 =>
    intro ks ks' ir hc n0 ro cx L s s' x a W m F XO Q hro ha hS hv hd hQ
    simp only [comp] at hc
    split at hc
    · rename_i ir1 ks1 h1
      split at hc
      · rename_i ir2 ks2 h2
        simp only [Option.some.injEq,Prod.mk.injEq] at hc
        obtain ⟨rfl,rfl⟩:=hc
        simp only [aCode] at ha
        refine wpIn_seq ?_
        split at ha
        · rename_i s1 ha1
          refine ih1 _ _ _ h1 n0 ro cx L s s1 .normal a W m F XO _ hro ha1 hS hv hd fun a' W' hN => ?_
          obtain ⟨m',F',XO',k1,k2,k3,k4⟩:=hN
          exact ih2 _ _ _ h2 n0 ro cx L s1 s' x a' W' m' F' XO' Q hro ha k1 k2 k4 fun a2 W2 hN2 => hQ a2 W2 (CN.trans ⟨m',F',XO',k1,k2,k3,k4,hN2⟩)
        · rename_i r hne
          refine ih1 _ _ _ h1 n0 ro cx L s s' x a W m F XO _ hro ha hS hv hd fun a' W' hN => ?_
          have:=hQ a' W' hN
          cases x with
          | normal => exact (hne s' ha).elim
          | exit i => exact this
          | ret => exact this
      · cases hc
    · cases hc
  | cond c1 c2 c3 ih1 ih2 =>
    intro ks ks' ir hc n0 ro cx L s s' x a W m F XO Q hro ha hS hv hd hQ
    cases c1 with
    | tmp t =>
      simp only [comp] at hc
      split at hc
      · rename_i i ir1 ks1 hi h1
        split at hc
        · rename_i ir2 ks2 h2
          simp only [Option.some.injEq,Prod.mk.injEq] at hc
          obtain ⟨rfl,rfl⟩:=hc
          simp only [aCode,opnd] at ha
          split at ha
          · rename_i b e
            have hr:=hv.vr i t (idxOf_get hi)
            rw [e] at hr
            refine wpIn_cond (t:=b) (imm_bool hr) ?_
            cases b with
            | true => exact ih1 _ _ _ h1 n0 ro cx L s s' x a W m F XO Q hro ha hS hv hd hQ
            | false => exact ih2 _ _ _ h2 n0 ro cx L s s' x a W m F XO Q hro ha hS hv hd hQ
          · cases ha
        · cases hc
      · cases hc
    | _ => simp [comp] at hc
  | block id c ih =>
    intro ks ks' ir hc n0 ro cx L s s' x a W m F XO Q hro ha hS hv hd hQ
    simp only [comp] at hc
    split at hc
    · rename_i ir1 ks1 h1
      simp only [Option.some.injEq,Prod.mk.injEq] at hc
      obtain ⟨rfl,rfl⟩:=hc
      simp only [aCode] at ha
      refine wpIn_block ?_
      split at ha
      · rename_i i s1 ha1
        simp only [Option.some.injEq,Prod.mk.injEq] at ha
        obtain ⟨rfl,rfl⟩:=ha
        refine ih _ _ _ h1 n0 ro cx L s s1 (.exit i) a W m F XO _ hro ha1 hS hv hd fun a' W' hN => ?_
        have:=hQ a' W' hN
        simp only [exitOf,Exit.inBlock]
        split at this
        · rename_i e; rw [if_pos e]; exact this
        · rename_i e; rw [if_neg e]; exact this
      · rename_i r hne
        refine ih _ _ _ h1 n0 ro cx L s s' x a W m F XO _ hro ha hS hv hd fun a' W' hN => ?_
        have:=hQ a' W' hN
        cases x with
        | normal => exact this
        | exit i => exact (hne i s' ha).elim
        | ret => exact this
    · cases hc
  | loop c ih =>
    intro ks ks' ir hc n0 ro cx L s s' x a W m F XO Q hro ha hS hv hd hQ
    rcases ks with _ | ⟨keep,_ | ⟨out,ks⟩⟩
    · simp [comp] at hc
    · simp [comp] at hc
    · simp only [comp] at hc
      split at hc
      · rename_i ir1 ks1 h1
        simp only [Option.some.injEq,Prod.mk.injEq] at hc
        obtain ⟨rfl,rfl⟩:=hc
        simp only [aCode] at ha
        split at ha
        · rename_i x0 s0 ha0
          simp only [Option.some.injEq,Prod.mk.injEq] at ha
          obtain ⟨rfl,rfl⟩:=ha
          obtain ⟨nF,ha⟩:=loopC_ex ha0
          refine wpIn_loop_n (fun j a' W' => ∃ s1 m1 F1 XO1,loopN (aCode lo cx ir1) (head cx keep) j s1 = some (x0,s0) ∧ St gb X m1 F1 L XO1 W' s1.st s1.ext ∧ Vr h.nt slots m1 F1 L W' a' s1.vars ∧ Mv cx.nb m F XO W s.st m1 F1 XO1 W' s1.st ∧ DOk n0 a'.defers W' m1 s1.st F1 XO1) ?_ ⟨s,m,F,XO,ha,hS,hv,Mv.refl _,hd⟩
          rintro j a1 W1 ⟨s1,m1,F1,XO1,hl,S1,V1,M1,D1⟩
          cases j with
          | zero => simp [loopN] at hl
          | succ j =>
            refine ⟨j,rfl,?_⟩
            simp only [loopN] at hl
            obtain ⟨m2,F2,XO2,S2,V2,M2,D2⟩:=head_next (cx:=cx) (keep:=keep) S1 V1 D1
            split at hl
            · rename_i s3 hb
              refine ih _ _ _ h1 n0 ro cx L (head cx keep s1) s3 .normal a1 W1 m2 F2 XO2 _ hro hb S2 V2 D2 fun a' W' hN => ?_
              obtain ⟨m4,F4,XO4,S4,V4,M4,D4⟩:=hN
              exact ⟨s3,m4,F4,XO4,hl,S4,V4,(M1.trans M2).trans M4,D4⟩
            · rename_i r hne
              refine ih _ _ _ h1 n0 ro cx L (head cx keep s1) s0 x0 a1 W1 m2 F2 XO2 _ hro hl S2 V2 D2 fun a' W' hN => ?_
              obtain ⟨m4,F4,XO4,S4,V4,M4,D4⟩:=hN
              obtain ⟨m5,F5,XO5,S5,V5,M5,D5⟩:=head_next (cx:=cx) (keep:=out) S4 V4 D4
              have:=hQ a' W' ⟨m5,F5,XO5,S5,V5,((M1.trans M2).trans M4).trans M5,D5⟩
              cases x0 with
              | normal => exact (hne s0 hl).elim
              | exit i => exact this
              | ret => exact this
        · cases ha
      · cases hc
  | scope c ih =>
    intro ks ks' ir hc n0 ro cx L s s' x a W m F XO Q hro ha hS hv hd hQ
    simp only [comp] at hc
    split at hc
    · rename_i ir1 ks1 h1
      simp only [Option.some.injEq,Prod.mk.injEq] at hc
      obtain ⟨rfl,rfl⟩:=hc
      simp only [aCode] at ha
      split at ha
      · cases ha
      · rename_i hrd
        have hro0:=hro (by simpa using hrd)
        subst hro0
        refine wpIn_wide.2 (wp_scope_straight ((wpIn_wide (n:=0)).1 ?_))
        refine ih _ _ _ h1 n0 none cx L s s' x a W m F XO _ hro ha hS hv hd fun a' W' hN => ?_
        have:=hQ a' W' hN
        cases x <;> exact this
    · cases hc
  | rangeFunc f ps asg body ih1 ih2 =>
    intro ks ks' ir hc
    cases f with
    | tmp t =>
      simp only [comp] at hc
      split at hc
      · rename_i i qs hi hqs
        split at hc
        · rename_i ir1 ks1 h1
          split at hc
          · rename_i ir2 ks2 h2
            simp only [Option.some.injEq,Prod.mk.injEq] at hc
            obtain ⟨rfl,rfl⟩:=hc
            exact hrf t ps asg body i qs ir1 ir2 hi hqs ⟨_,_,h1⟩ ⟨_,_,h2⟩
          · cases hc
        · cases hc
      · cases hc
    | _ => simp [comp] at hc
  | goto l =>
    intro ks ks' ir hc
    simp [comp] at hc
  | refuse =>
    intro ks ks' ir hc
    simp [comp] at hc
end
end Go.Vm

/- Soundness: functions. -/
namespace Go.Vm
open Go
section
variable {P : Program} {gb : Nat → Option (List D)} {X : XT} {a a' : Act} {W W' : World} {m m' : Nat → Option Nat} {F F' : Nat → Prop} {L : Option Nat} {XO XO' : Nat → Prop} {st st' : List AO} {ext : Option Ext} {vars : List AV} {ro : Option Nat} {lo : Lower}
def readRes (tmps : Array Value) : ResultVar → Sem Value
  | .tmp t => pure (tmps.getD t undef)
  | .cell a t => do loadVar t (← asAddr (tmps.getD a undef))
theorem res_one {nt : Nat} {slots : List Nat} {s : S} {r : ResultVar} {r' : RV} {v : AV} (hc : compRV P slots r = some r') (hS : St gb X m F L XO W s.st s.ext) (hv : Vr nt slots m F L W a s.vars) (h : resV s r' = some v) :
    ∃ w,(readRes a.tmps r).run P W = .ok w W ∧ RepA m F L W v w:=by
  cases r with
  | tmp t =>
    simp only [compRV,Option.map_eq_some_iff] at hc
    obtain ⟨i,hi,rfl⟩:=hc
    simp only [resV,Option.some.injEq] at h
    subst h
    exact ⟨_,by simp [readRes],hv.vr i t (idxOf_get hi)⟩
  | cell b t =>
    simp only [compRV] at hc
    split at hc
    · rename_i i g n hi hg hn
      injection hc with hc; subst hc
      simp only [resV] at h
      have hr:=hv.vr i b (idxOf_get hi)
      obtain ⟨u,hu,hru⟩:=load_rep (P:=P) (stL:=sto s.st) (st:=s.st) hS.R hg hn hr (fun _ _ _ => rfl) h
      have hp : ∃ q,a.tmps.getD b undef = .pointer (some q):=by
        unfold aLoad at h
        split at h
        · rename_i cs e
          rw [e] at hr
          generalize a.tmps.getD b undef = z at hr
          cases hr with | imm _ _ h => cases h with | ptr _ q => exact ⟨q,rfl⟩
        · rename_i id off e
          rw [e] at hr
          generalize a.tmps.getD b undef = z at hr
          cases hr with | ptr _ _ q h => exact ⟨_,rfl⟩
        · cases h
      obtain ⟨q,hq⟩:=hp
      refine ⟨u,?_,hru⟩
      rw [hq] at hu
      simp only [readRes,hq,asAddr,pure_bind]
      simpa [Instr.loadAt,Instr.sureAddr] using hu
    · cases hc
theorem res_all {nt : Nat} {slots : List Nat} {s : S} (hS : St gb X m F L XO W s.st s.ext) (hv : Vr nt slots m F L W a s.vars) : ∀ {rs : List ResultVar} {rs' : List RV} {vs : List AV},rs.mapM (compRV P slots) = some rs' → resVs s rs' = some vs →
    ∃ ws : List Value,(rs.mapM (readRes a.tmps)).run P W = .ok ws W ∧ ws.length = vs.length ∧ ∀ j v,vs[j]? = some v → RepA m F L W v (ws.getD j undef)
  | [],rs',vs,hc,h => by
    simp only [List.mapM_nil,pure,Option.some.injEq] at hc
    subst hc
    simp only [resVs,Option.some.injEq] at h
    subst h
    exact ⟨[],by simp,rfl,by simp⟩
  | r :: rs,rs',vs,hc,h => by
    simp only [List.mapM_cons,bind,Option.bind_eq_some_iff,pure,Option.some.injEq] at hc
    obtain ⟨r',h1,rs2,h2,rfl⟩:=hc
    simp only [resVs] at h
    split at h
    · rename_i v vs' h3 h4
      injection h with h; subst h
      obtain ⟨w,k1,k2⟩:=res_one h1 hS hv h3
      obtain ⟨ws,k3,k4,k5⟩:=res_all hS hv h2 h4
      refine ⟨w :: ws,by rw [List.mapM_cons]; simp only [Sem.run_bind,k1,Result.andThen_ok,k3,Sem.run_pure],by simp [k4],fun j v' hj => ?_⟩
      cases j with
      | zero => simp at hj; subst hj; exact k2
      | succ j => simpa using k5 j v' (by simpa using hj)
    · cases h
theorem results_ok {nt : Nat} {slots : List Nat} {s : S} {fn : Func} {res : List RV} {v : AV} (hc : fn.results.toList.mapM (compRV P slots) = some res) (hS : St gb X m F L XO W s.st s.ext) (hv : Vr nt slots m F L W a s.vars) (h : Vm.results s res = some v) :
    ∃ w,(Go.results fn a.tmps).run P W = .ok w W ∧ RepA m F L W v w:=by
  unfold Vm.results at h
  have hres : Go.results fn a.tmps = (fn.results.mapM (readRes a.tmps) >>= fun vs => pure (if h : vs.size = 1 then vs[0] else .tuple vs)):=by
    unfold Go.results readRes; rfl
  have key : ∀ vs,resVs s res = some vs → ∃ ws : List Value,(fn.results.mapM (readRes a.tmps)).run P W = .ok ws.toArray W ∧ ws.length = vs.length ∧ ∀ j v,vs[j]? = some v → RepA m F L W v (ws.getD j undef):=by
    intro vs hvs
    obtain ⟨ws,k1,k2,k3⟩:=res_all hS hv hc hvs
    exact ⟨ws,by rw [Array.mapM_eq_mapM_toList]; simp only [Sem.run_map,k1,Result.andThen_ok],k2,k3⟩
  split at h
  · rename_i v0 hvs
    injection h with h; subst h
    obtain ⟨ws,k1,k2,k3⟩:=key _ hvs
    obtain ⟨w,rfl⟩ : ∃ w,ws = [w]:=List.length_eq_one_iff.1 k2
    refine ⟨w,by rw [hres]; simp only [Sem.run_bind,k1,Result.andThen_ok]; simp,by simpa using k3 0 v0 rfl⟩
  · rename_i vs hne hvs
    injection h with h; subst h
    obtain ⟨ws,k1,k2,k3⟩:=key _ hvs
    have hlen : ws.length ≠ 1:=by
      intro h1
      rw [k2] at h1
      obtain ⟨v,rfl⟩:=List.length_eq_one_iff.1 h1
      exact hne v rfl
    refine ⟨.tuple ws.toArray,by rw [hres]; simp only [Sem.run_bind,k1,Result.andThen_ok]; simp [hlen],rep_mkTup (by simpa using k2) fun j d hj => ?_⟩
    have:=k3 j d hj
    rwa [show ws.toArray.getD j undef = ws.getD j undef by simp [Array.getD_eq_getD_getElem?,List.getD_eq_getElem?_getD]]
  · cases h
theorem leaves_ok {fn : Func} {tmps : Array Value} {R : Ending → World → Prop} : ∀ (ds : List Deferred) (W : World),(∀ d ∈ ds,∃ b,d.target = .collected b ∧ W.heap[b]? = some (.deferred (some []))) → (ds.map (·.target)).Nodup →
    (∀ W',Tr (fun b => ∃ d ∈ ds,d.target = .collected b) W W' → ∃ w,(Go.results fn tmps).run P W' = .ok w W' ∧ R (.returned w) W') → LeavesInM Fence.wide 0 P fn tmps R ds .returning W
  | [],W,_,_,h => h W (Tr.refl _ W)
  | d :: ds,W,hd,hn,h => by
    obtain ⟨b,h1,h2⟩:=hd d (by simp)
    rw [List.map_cons,List.nodup_cons] at hn
    have T : Tr (fun x => x = b) W { W with heap:=W.heap.setIfInBounds b (.deferred none) }:=tr_setObj h2 (by simp)
    refine ⟨by simp,.inl ⟨b,{ W with heap:=W.heap.setIfInBounds b (.deferred none) },h1,?_,leaves_ok ds _ (fun d' hd' => ?_) hn.2 fun W' T' => ?_⟩⟩
    · simp [Instr.takeDeferred,getObj,setObj,Sem.run,h2]
    · obtain ⟨b',k1,k2⟩:=hd d' (by simp [hd'])
      have hne : b' ≠ b:=by
        rintro rfl
        exact hn.1 (List.mem_map.2 ⟨d',hd',by rw [k1,h1]⟩)
      exact ⟨b',k1,(T.keep b' (Array.getElem?_eq_some_iff.1 k2).1 hne).trans k2⟩
    · refine h W' ((T.mono (O':=fun x => ∃ d' ∈ d :: ds,d'.target = .collected x) fun x _ e => ⟨d,by simp,by rw [e]; exact h1⟩).trans T' fun x _ ⟨d',k1,k2⟩ => ⟨d',by simp [k1],k2⟩)
theorem comp_facts {slots : List Nat} {keeps : List (List Nat)} {h : Hint} {glob : Nat → Option (List D)} {fn : Func} {f : IFn} (hc : compFn P slots keeps h glob fn = some f) :
    ∃ c,fn.body = some c ∧ slots.Nodup ∧ (∀ t ∈ slots,t < fn.ntmps) ∧ slots.take (fn.params.size + fn.nfree) = List.range (fn.params.size + fn.nfree) ∧ comp P slots glob { h with nt:=fn.ntmps } c keeps = some (f.body,[]) ∧ fn.results.toList.mapM (compRV P slots) = some f.res ∧ f.nv = slots.length ∧ f.np = fn.params.size + fn.nfree:=by
  unfold compFn at hc
  split at hc
  · rename_i c res hb hr
    split at hc
    · rename_i hs
      split at hc
      · rename_i ir hir
        injection hc with hc; subst hc
        exact ⟨c,hb,hs.1,fun t ht => by simpa using List.all_eq_true.1 hs.2.1 t ht,hs.2.2,hir,hr,rfl,rfl⟩
      · cases hc
    · cases hc
  · cases hc
theorem fn_entry {f : FuncId} {fn : Func} (hf : P.funcs[f]? = some fn) (hb : fn.body.isSome = true) (hn : (fn.name == "runtime.NumGoroutine") = false) : Entry P f:=by
  intro args W
  have hb' : fn.body.isNone = false:=by cases h : fn.body <;> simp [h] at hb ⊢
  simp only [callFunc,Sem.run_bind,run_program,Result.andThen_ok,hf,hn,hb',Bool.false_eq_true,if_false,Sem.run_pure]
theorem fn_sound (H : LowerOk P gb X lo) (hm : P.follows .mixedOrders = true) {slots : List Nat} {keeps : List (List Nat)} {h : Hint} {fn : Func} {fi : IFn} {f : FuncId} (hf : P.funcs[f]? = some fn) (hc : compFn P slots keeps h gb fn = some fi)
    (hrf : slots.Nodup → (∀ t ∈ slots,t < fn.ntmps) → ∀ (t : Nat) (ps : Array Tmp) (asg body : Code) (i : Nat) (qs : List Nat) (asg' body' : IR),slots.idxOf? t = some i → ps.toList.mapM (fun p => slots.idxOf? p) = some qs → (∃ ks ks',comp P slots gb { h with nt:=fn.ntmps } asg ks = some (asg',ks')) → (∃ ks ks',comp P slots gb { h with nt:=fn.ntmps } body ks = some (body',ks')) → CodeOk P gb X slots { h with nt:=fn.ntmps } lo (.rangeFunc (.tmp t) ps asg body) (.rfunc (.var i) qs asg' body'))
    {args : List AV} {v : AV} {ext' : Option Ext} {vs : Array Value} (hrun : runFn lo fi args st ext = some (v,st',ext')) (S : St gb X m F L XO W st ext) (hsz : vs.size = args.length) (hr : ∀ j d,args[j]? = some d → RepA m F L W d (vs.getD j undef)) :
    CallsIn Fence.wide 0 P f vs W fun e w => ∃ r m' F' XO',e = .returned r ∧ Post gb X m F L XO W st v st' ext' r w m' F' XO':=by
  obtain ⟨c,hb,hn,hlt,htk,hcomp,hres,hnv,hnp⟩:=comp_facts hc
  have hpar : args.length ≤ fn.params.size + fn.nfree:=by
    unfold runFn at hrun
    split at hrun
    · cases hrun
    · omega
  have hal : args.length ≤ slots.length:=by
    have:=congrArg List.length htk
    simp only [List.length_take,List.length_range] at this
    omega
  have hnle : ¬ fi.np < args.length:=by omega
  refine callsIn_of_wp_marks (F:=Fence.wide) (n:=0) hf hb True.intro ?_ rfl
  have hcode:=code_sound H hm hn (hrf hn hlt) c keeps [] fi.body hcomp
  have hstart : Vr fn.ntmps slots m F L W { tmps:=vs ++ Array.replicate (fn.ntmps - vs.size) undef,defers:=[] } (args ++ List.replicate (fi.nv - args.length) .junk):=by
    refine ⟨by simp; omega,by rw [hnv]; simp; omega,fun i t ht => ?_⟩
    by_cases hi : i < args.length
    · have hti : t = i:=by
        have h1 : (slots.take (fn.params.size + fn.nfree))[i]? = some t:=by rw [List.getElem?_take,if_pos (by omega)]; exact ht
        rw [htk,List.getElem?_range (by omega)] at h1
        exact (Option.some.inj h1).symm
      subst hti
      have e1 : (args ++ List.replicate (fi.nv - args.length) AV.junk).getD t .junk = args[t]:=by
        rw [List.getD_eq_getElem?_getD,List.getElem?_append_left hi,List.getElem?_eq_getElem hi]; rfl
      have e2 : (vs ++ Array.replicate (fn.ntmps - vs.size) undef).getD t undef = vs.getD t undef:=by
        simp only [Array.getD_eq_getD_getElem?]
        rw [Array.getElem?_append_left (by omega)]
      rw [e1,e2]
      exact hr t _ (List.getElem?_eq_getElem hi)
    · have e1 : (args ++ List.replicate (fi.nv - args.length) AV.junk).getD i .junk = .junk:=by
        rw [List.getD_eq_getElem?_getD,List.getElem?_append_right (by omega),List.getElem?_replicate]
        split <;> rfl
      rw [e1]; exact .junk _
  have fin : ∀ (x : AExit) (s' : Vm.S),(x = .normal ∨ x = .ret) → aCode lo { nb:=st.length,rd:=false } fi.body { vars:=args ++ List.replicate (fi.nv - args.length) .junk,st:=st,ext:=ext } = some (x,s') → Vm.results s' fi.res = some v → s'.st = st' → s'.ext = ext' →
      c.wpIn Fence.wide 0 P (bodyPostM Fence.wide 0 P fn fun e w => ∃ r m' F' XO',e = .returned r ∧ Post gb X m F L XO W st v st' ext' r w m' F' XO') { tmps:=vs ++ Array.replicate (fn.ntmps - vs.size) undef,defers:=[] } W:=by
    intro x s' hx ha hresv e1 e2
    subst e1; subst e2
    refine hcode W.heap.size none { nb:=st.length,rd:=false } L _ s' x _ W m F XO _ (fun _ => rfl) ha S hstart ⟨Nat.le_refl _,by simp,by simp⟩ fun a' W' hN => ?_
    obtain ⟨m',F',XO',k1,k2,k3,k4⟩:=hN
    have hleave : LeavesInM Fence.wide 0 P fn a'.tmps (fun e w => ∃ r m' F' XO',e = .returned r ∧ Post gb X m F L XO W st v s'.st s'.ext r w m' F' XO') a'.defers .returning W':=by
      refine leaves_ok a'.defers W' (fun d hd => ?_) k4.nd fun W2 T2 => ?_
      · obtain ⟨b,h1,h2,_⟩:=k4.all d hd
        exact ⟨b,h1,h2⟩
      · have hno : ∀ b,(∃ d ∈ a'.defers,d.target = .collected b) → ¬ ownA m' s'.st XO' b ∧ ¬ F' b ∧ W.heap.size ≤ b:=by
          rintro b ⟨d,hd,ht⟩
          obtain ⟨b',h1,_,h3,h4,h5⟩:=k4.all d hd
          rw [ht] at h1; injection h1 with h1; subst h1
          exact ⟨h3,h4,h5⟩
        have hF2 : ∀ b,F' b → ¬ ∃ d ∈ a'.defers,d.target = .collected b:=fun b hb hc => (hno b hc).2.1 hb
        have S2 : St gb X m' F' L XO' W2 s'.st s'.ext :=
          ⟨Rel.mono k1.R T2 (fun _ _ h => h) (fun i b hi => Nat.lt_of_lt_of_le (k1.R.hm i b hi) T2.size) (fun _ h => h) (fun b hb => Nat.lt_of_lt_of_le (k1.R.hF b hb) T2.size) (k1.notO (fun b hb hc => (hno b hc).1 (.inl hb)) hF2) hF2 k1.R.nF,k1.up,
           k1.x.mono (m:=m') (m':=m') H.xm ⟨fun _ _ h => h,fun _ h => h,fun _ h => .inl h,T2⟩ (fun b hb => ⟨k1.R.hF b hb,hF2 b hb⟩) (fun b hb hc => (hno b hc).1 (.inr hb)) (fun b hb => Nat.lt_of_lt_of_le (k1.R.hF b hb) T2.size),k1.ap⟩
        have V2 : Vr fn.ntmps slots m' F' L W2 a' s'.vars:=k2.mono fun u z hu => hu.mono (fun _ _ h => h) (fun _ h => h) (fun b hb => T2.keep b (k1.R.hF b hb) (hF2 b hb)) T2.rows
        obtain ⟨w,hw,hrw⟩:=results_ok hres S2 V2 hresv
        exact ⟨w,hw,w,m',F',XO',rfl,⟨⟨fun i b hi => k3.hm i b (S.up i b hi) hi,k3.hF,k3.nF,k3.tr.trans T2 fun b hlt hb => absurd (hno b hb).2.2 (by omega)⟩,S2,hrw,k3.ow,k3.xo,k3.rg⟩⟩
    rcases hx with rfl | rfl
    · exact hleave
    · exact hleave
  unfold runFn at hrun
  rw [if_neg hnle] at hrun
  split at hrun
  · rename_i s' ha
    split at hrun
    · rename_i v' hv
      simp only [Option.some.injEq,Prod.mk.injEq] at hrun
      obtain ⟨rfl,h2,h3⟩:=hrun
      exact fin _ s' (.inl rfl) ha hv h2 h3
    · cases hrun
  · rename_i s' ha
    split at hrun
    · rename_i v' hv
      simp only [Option.some.injEq,Prod.mk.injEq] at hrun
      obtain ⟨rfl,h2,h3⟩:=hrun
      exact fin _ s' (.inr rfl) ha hv h2 h3
    · cases hrun
  · cases hrun
end
end Go.Vm

/- Loops over functions: the owner's state,and one round. -/
namespace Go.Vm
open Go
def jumpOf : Option AExit → Option Code
  | none => none
  | some .normal => none
  | some (.exit i) => some (.exit i)
  | some .ret => some .ret
structure XP where
  m0 : Nat → Option Nat
  n0 : Nat
  nb : Nat
  slots : List Nat
  h : Hint
  T : Array Value
structure XCs (P : Program) (gb : Nat → Option (List D)) (m0 : Nat → Option Nat) (n0 nb : Nat) (slots : List Nat) (h : Hint) (T : Array Value) (l : Nat) (e : Ext) (XO F : Nat → Prop) (W : World) (m : Nat → Option Nat) (r : Loop) : Prop where
  nd : slots.Nodup
  lt : ∀ t ∈ slots,t < h.nt
  nbe : e.nb = nb
  tm : r.tmps = T
  asg : ∃ ks ks',comp P slots gb h r.assign ks = some (e.asg,ks')
  body : ∃ ks ks',comp P slots gb h r.body ks = some (e.body,ks')
  hl : W.heap[l]? = some (.loop r)
  ps : r.params.toList.mapM (fun p => slots.idxOf? p) = some e.ps
  pe : e.pend ≠ some .normal
  stt : r.state = if e.pend = none then .ready else .done
  pnd : r.pending = jumpOf e.pend
  R : Rel gb m F none W (sto e.st)
  up : ∀ i b,m i = some b → i < e.st.length
  own : ∀ b,own m (sto e.st) b → XO b ∧ b ≠ l
  lo : XO l
  vr : Vr h.nt slots m F none W { tmps:=r.tmps,defers:=[] } e.vars
  hm : ∀ i b,i < e.nb → m0 i = some b → m i = some b
  rg : ∀ i b,m i = some b → (∃ j,m0 j = some b) ∨ n0 ≤ b
  sz : n0 ≤ W.heap.size
def XC (P : Program) (gb : Nat → Option (List D)) (p : XP) : XT:=fun l e XO F W => ∃ m r,XCs P gb p.m0 p.n0 p.nb p.slots p.h p.T l e XO F W m r
section
variable {P : Program} {gb : Nat → Option (List D)}
theorem xc_mono (p : XP) : XMono (XC P gb p):=by
  rintro l e XO O F F' m1 m1' W W' ⟨m,r,k⟩ G hF hO hB
  have hl : l < W.heap.size:=(Array.getElem?_eq_some_iff.1 k.hl).1
  have hsO : ∀ i b,sto e.st i ≠ .dead → m i = some b → ¬ O b:=by
    intro i b hi h1
    cases hlv : lv (sto e.st i) with
    | true => exact hO b (k.own b ⟨i,hlv,h1⟩).1
    | false =>
      obtain ⟨b2,h2,h3⟩:=k.R.hs i hi
      rw [h1] at h2; injection h2 with h2; subst h2
      cases hob : sto e.st i with
      | dead => exact absurd hob hi
      | fbox cs => rw [hob] at h3; obtain ⟨_,_,_,_,_,h,_⟩:=h3; exact (hF b h).2
      | farr sz es => rw [hob] at h3; obtain ⟨_,_,_,_,_,_,h,_⟩:=h3; exact (hF b h).2
      | _ => rw [hob] at hlv; cases hlv
  have hR : Rel gb m F' none W' (sto e.st):=Rel.mono k.R G.tr (fun _ _ h => h) (fun i b hi => Nat.lt_of_lt_of_le (k.R.hm i b hi) G.tr.size) G.hF hB hsO (fun b hb => (hF b hb).2) fun i b hl hi hc => by
    rcases G.nF b hc with h1 | h1 | h1
    · exact k.R.nF i b hl hi h1
    · exact hO b (k.own b ⟨i,hl,hi⟩).1 h1
    · have:=k.R.hm i b hi; omega
  exact ⟨m,r,⟨k.nd,k.lt,k.nbe,k.tm,k.asg,k.body,(G.tr.keep l hl (hO l k.lo)).trans k.hl,k.ps,k.pe,k.stt,k.pnd,hR,k.up,k.own,k.lo,k.vr.mono fun u z hu => hu.mono (fun _ _ h => h) G.hF (fun b hb => G.tr.keep b (hF b hb).1 (hF b hb).2) G.tr.rows,k.hm,k.rg,Nat.le_trans k.sz G.tr.size⟩⟩
end
end Go.Vm

/- Loops over functions: the parameters of a round. -/
namespace Go.Vm
open Go
section
variable {P : Program} {gb : Nat → Option (List D)} {m : Nat → Option Nat} {F : Nat → Prop} {L : Option Nat} {W : World}
theorem setPs_vr {nt : Nat} {slots : List Nat} (hn : slots.Nodup) : ∀ {ps : List Nat} {qs : List Nat} {vs : List Value} {ds : List D} {T : Array Value} {vars : List AV},ps.mapM (fun p => slots.idxOf? p) = some qs → (∀ p ∈ ps,p < nt) → vs.length = ps.length → ds.length = ps.length → (∀ j d,ds[j]? = some d → RepD F W d (vs.getD j undef)) →
    Vr nt slots m F L W { tmps:=T,defers:=[] } vars → Vr nt slots m F L W { tmps:=(ps.zip vs).foldl (fun t p => t.setIfInBounds p.1 p.2) T,defers:=[] } (setPs vars qs ds)
  | [],qs,vs,ds,T,vars,hq,_,_,_,_,hv => by
    simp only [List.mapM_nil,pure,Option.some.injEq] at hq
    subst hq
    simpa [setPs] using hv
  | p :: ps,qs,vs,ds,T,vars,hq,hlt,hl1,hl2,hr,hv => by
    simp only [List.mapM_cons,bind,Option.bind_eq_some_iff,pure,Option.some.injEq] at hq
    obtain ⟨q,h1,qs',h2,rfl⟩:=hq
    cases vs with
    | nil => simp at hl1
    | cons v vs =>
      cases ds with
      | nil => simp at hl2
      | cons d ds =>
        simp only [List.zip_cons_cons,List.foldl_cons,setPs]
        have hd : RepA m F L W (.imm d) v:=.imm _ _ (hr 0 d rfl)
        have:=Vr.put (dst:=some p) (v:=.imm d) (w:=v) hv hn (fun t ht => by injection ht with ht; subst ht; exact hlt _ (by simp)) hd
        simp only [Option.bind_some,h1,setW,Act.put] at this
        exact setPs_vr hn h2 (fun x hx => hlt x (by simp [hx])) (by simpa using hl1) (by simpa using hl2) (fun j e hj => by simpa using hr (j + 1) e (by simpa using hj)) this
end
end Go.Vm

/- Loops over functions: a round. -/
namespace Go.Vm
open Go
def RfOk (P : Program) (gb : Nat → Option (List D)) (X : XT) (lo : Lower) : Prop :=
  ∀ (slots : List Nat) (h : Hint) (t : Nat) (ps : Array Tmp) (asg body : Code) (i : Nat) (qs : List Nat) (asg' body' : IR),slots.Nodup → (∀ t ∈ slots,t < h.nt) → slots.idxOf? t = some i → ps.toList.mapM (fun p => slots.idxOf? p) = some qs →
    (∃ ks ks',comp P slots gb h asg ks = some (asg',ks')) → (∃ ks ks',comp P slots gb h body ks = some (body',ks')) → CodeOk P gb X slots h lo (.rangeFunc (.tmp t) ps asg body) (.rfunc (.var i) qs asg' body')
section
variable {P : Program} {gb : Nat → Option (List D)} {X : XT} {lo : Lower} {F XO : Nat → Prop} {W : World} {l : Nat} {e e' : Ext}
theorem tr_putObj {b : Nat} {ob ob' : Obj} (hb : W.heap[b]? = some ob) (h : ∀ c t f,ob ≠ .cells c t f) : Tr (fun x => x = b) W (W.putObj b ob'):=tr_setObj hb h
theorem st_put {m : Nat → Option Nat} {st : List AO} {r : Loop} {ob' : Obj} {XO : Nat → Prop} {ext : Option Ext} (S : St gb X m F none XO W st ext) (hl : W.heap[l]? = some (.loop r)) (hno : ∀ b,own m (sto st) b → b ≠ l) (hFl : ¬ F l) : St gb X m F none XO (W.putObj l ob') st ext:=by
  have T:=tr_putObj (ob':=ob') hl (by simp)
  exact ⟨Rel.mono S.R T (fun _ _ h => h) (fun i b hi => Nat.lt_of_lt_of_le (S.R.hm i b hi) T.size) (fun _ h => h) (fun b hb => Nat.lt_of_lt_of_le (S.R.hF b hb) T.size) (S.notO (fun b hb => hno b hb) fun b hb e => hFl (e ▸ hb)) (fun b hb e => hFl (e ▸ hb)) S.R.nF,S.up,(by have:=S.x; cases ext <;> exact this),S.ap⟩
theorem code_ok (H : LowerOk P gb X lo) (hm : P.follows .mixedOrders = true) (hrf : RfOk P gb X lo) {slots : List Nat} {h : Hint} (hn : slots.Nodup) (hlt : ∀ t ∈ slots,t < h.nt) {c : Code} {ir : IR} (hc : ∃ ks ks',comp P slots gb h c ks = some (ir,ks')) : CodeOk P gb X slots h lo c ir:=by
  obtain ⟨ks,ks',hc⟩:=hc
  exact code_sound H hm hn (fun t ps asg body i qs asg' body' => hrf slots h t ps asg body i qs asg' body' hn hlt) c ks ks' ir hc
end
end Go.Vm

/- Loops over functions: a round is sound. -/
namespace Go.Vm
open Go
section
variable {P : Program} {gb : Nat → Option (List D)} {xp : XP} {X : XT} {lo : Lower} {F XO : Nat → Prop} {W : World} {l : Nat} {e e' : Ext}
theorem mapM_len {f : Nat → Option Nat} : ∀ {ps qs : List Nat},ps.mapM f = some qs → qs.length = ps.length
  | [],qs,h => by simp only [List.mapM_nil,pure,Option.some.injEq] at h; subst h; rfl
  | p :: ps,qs,h => by
    simp only [List.mapM_cons,bind,Option.bind_eq_some_iff,pure,Option.some.injEq] at h
    obtain ⟨q,_,qs',h2,rfl⟩:=h
    simp [mapM_len h2]
theorem mapM_lt {slots : List Nat} {n : Nat} : ∀ {ps qs : List Nat},ps.mapM (fun p => slots.idxOf? p) = some qs → (∀ t ∈ slots,t < n) → ∀ p ∈ ps,p < n
  | [],_,_,_ => by simp
  | p :: ps,qs,h,hl => by
    simp only [List.mapM_cons,bind,Option.bind_eq_some_iff,pure,Option.some.injEq] at h
    obtain ⟨q,h1,qs',h2,rfl⟩:=h
    intro x hx
    rcases List.mem_cons.1 hx with e | hx
    · subst e; exact hl _ (List.mem_of_getElem? (idxOf_get h1))
    · exact mapM_lt h2 hl x hx
theorem round_sound (H : LowerOk P gb X lo) (hm : P.follows .mixedOrders = true) (hrf : RfOk P gb X lo) {ds : List D} {b : Bool} {vs : Array Value} (h : runRound lo e ds = some (e',b)) (hx : XC P gb xp l e XO F W) (hXO : ∀ b,XO b → b < W.heap.size ∧ ¬ F b) (hF : ∀ b,F b → b < W.heap.size) (hsz : vs.size = ds.length) (hr : ∀ j d,ds[j]? = some d → RepD F W d (vs.getD j undef)) :
    YieldAt Fence.wide 0 P l vs W fun en w => ∃ F' XO',en = .returned (.bool b) ∧ Grow XO (fun _ => none) F W (fun _ => none) F' w ∧ XC P gb xp l e' XO' F' w ∧ (∀ b,XO' b → b < w.heap.size ∧ ¬ F' b) ∧ (∀ b,F' b → b < w.heap.size) ∧ (∀ b,XO' b → XO b ∨ W.heap.size ≤ b):=by
  obtain ⟨m,r,k⟩:=hx
  obtain ⟨m0,n0,nb,slots,hh,T⟩:=xp
  simp only at k
  have hpl:=mapM_lt k.ps k.lt
  unfold runRound at h
  split at h
  · cases h
  · rename_i hpend
    split at h
    · cases h
    · rename_i hlen
      have hlen' : ds.length = e.ps.length:=Classical.byContradiction hlen
      have hps:=mapM_len k.ps
      have hvs : vs.size = r.params.size:=by rw [hsz,hlen',hps]; simp
      split at h
      · rename_i s1 ha1
        split at h
        · rename_i x s2 ha2
          simp only [Option.some.injEq,Prod.mk.injEq] at h
          obtain ⟨rfl,rfl⟩:=h
          refine ⟨r.fn,_,r.assign,r.body,run_yield k.hl hvs,roundIn_of_wpIn True.intro ?_⟩
          have S0 : St gb X m F none (fun _ => False) W e.st none:=⟨k.R,k.up,fun _ h => h,fun _ _ h => h⟩
          have hfold : (r.params.zip vs).foldl (fun t p => t.setIfInBounds p.1 p.2) r.tmps = (r.params.toList.zip vs.toList).foldl (fun t p => t.setIfInBounds p.1 p.2) r.tmps:=by
            rw [← Array.foldl_toList,Array.toList_zip]
          have V0 : Vr hh.nt slots m F none W { tmps:=(r.params.toList.zip vs.toList).foldl (fun t p => t.setIfInBounds p.1 p.2) r.tmps,defers:=[] } (setPs e.vars e.ps ds) :=
            setPs_vr k.nd k.ps hpl (by simpa using hvs) (by rw [hlen',hps]) (fun j d hj => by
              have:=hr j d hj
              rwa [show vs.toList.getD j undef = vs.getD j undef by simp [List.getD_eq_getElem?_getD,Array.getD_eq_getD_getElem?]]) k.vr
          have hl:=k.hl
          have hFl : ¬ F l:=(hXO l k.lo).2
          refine code_ok H hm hrf k.nd k.lt k.asg W.heap.size (some l) { nb:=e.st.length,rd:=true } none _ s1 .normal _ W m F (fun _ => False) _ (fun h => nomatch h) ha1 S0 (by rw [← hfold] at V0; exact V0) ⟨Nat.le_refl _,by simp,by simp⟩ fun a1 W1 hN => ?_
          obtain ⟨m1,F1,XO1,S1,V1,M1,D1⟩:=hN
          have hlt : l < W.heap.size:=(Array.getElem?_eq_some_iff.1 hl).1
          have hnl : ¬ ownA m e.st (fun _ => False) l:=fun hc => hc.elim (fun hc => (k.own l hc).2 rfl) fun h => h
          have hl1 : W1.heap[l]? = some (.loop r):=(M1.tr.keep l hlt hnl).trans hl
          have hFl1 : ¬ F1 l:=fun hc => (M1.nF l hc).elim hFl fun h => h.elim hnl fun h => by omega
          have hst : r.state = .ready:=by rw [k.stt,hpend]; simp
          refine ⟨_,run_beginRound hl1 hst,?_⟩
          have S1':=st_put (ob':=.loop { r with state:=.busy }) S1 hl1 (fun b hb => (M1.ow b hb).elim (fun h => (k.own b h).2) fun h e => by subst e; omega) hFl1
          have T1:=tr_putObj (ob':=.loop { r with state:=.busy }) hl1 (by simp)
          have V1' : Vr hh.nt slots m1 F1 none (W1.putObj l (.loop { r with state:=.busy })) a1 s1.vars:=V1.mono fun u z hu => hu.mono (fun _ _ h => h) (fun _ h => h) (fun b hb => T1.keep b (S1.R.hF b hb) fun e => hFl1 (e ▸ hb)) T1.rows
          have D1' : DOk W.heap.size a1.defers (W1.putObj l (.loop { r with state:=.busy })) m1 s1.st F1 XO1:=by
            refine ⟨Nat.le_trans D1.sz T1.size,fun d hd => ?_,D1.nd⟩
            obtain ⟨q,q1,q2,q3⟩:=D1.all d hd
            exact ⟨q,q1,(T1.keep q (Array.getElem?_eq_some_iff.1 q2).1 fun e => by subst e; rw [hl1] at q2; cases q2).trans q2,q3⟩
          refine code_ok H hm hrf k.nd k.lt k.body W.heap.size (some l) { nb:=e.st.length,rd:=true } none s1 s2 x a1 _ m1 F1 XO1 _ (fun h => nomatch h) ha2 S1' V1' D1' fun a2 W2 hN2 => ?_
          obtain ⟨m2,F2,XO2,S2,V2,M2,D2⟩:=hN2
          have hnone : ∀ {XO : Nat → Prop} {F : Nat → Prop} {ext : Option Ext} {W : World},XR X none ext XO F W → ∀ b,¬ XO b:=fun {XO F ext W} h => by cases ext <;> first | exact h | exact h.elim
          have hown1 : ∀ b,ownA m1 s1.st XO1 b → own m (sto e.st) b ∨ W.heap.size ≤ b:=fun b hb => hb.elim (M1.ow b) fun h => absurd h (hnone S1.x b)
          have hnl1 : ¬ ownA m1 s1.st XO1 l:=fun hc => (hown1 l hc).elim (fun h => (k.own l h).2 rfl) fun h => by omega
          have hlt1 : l < W1.heap.size:=(Array.getElem?_eq_some_iff.1 hl1).1
          have hl1' : (W1.putObj l (.loop { r with state:=.busy })).heap[l]? = some (.loop { r with state:=.busy }):=World.putObj_heap_same hlt1
          have hl2 : W2.heap[l]? = some (.loop { r with state:=.busy }):=(M2.tr.keep l (by simpa using hlt1) hnl1).trans hl1'
          -- what was before the round,told at its end
          have hm12 : ∀ i b,m i = some b → m2 i = some b:=fun i b hi => M2.hm i b (k.up i b hi) (M1.hm i b (k.up i b hi) hi)
          have hF12 : ∀ b,F b → F2 b:=fun b hb => M2.hF b (M1.hF b hb)
          have hnF2 : ∀ b,F2 b → F b ∨ XO b ∨ W.heap.size ≤ b:=fun b hb => by
            rcases M2.nF b hb with h | h | h
            · rcases M1.nF b h with h | h | h
              · exact .inl h
              · exact h.elim (fun h => .inr (.inl (k.own b h).1)) fun h => h.elim
              · exact .inr (.inr h)
            · exact (hown1 b h).elim (fun h => .inr (.inl (k.own b h).1)) fun h => .inr (.inr h)
            · have:=M1.tr.size
              have : W1.heap.size ≤ b:=by simpa using h
              exact .inr (.inr (by omega))
          have T2 : Tr XO W W2:=by
            have t1 : Tr XO W W1:=M1.tr.mono fun b _ h => h.elim (fun h => (k.own b h).1) fun h => h.elim
            have t2 : Tr XO W (W1.putObj l (.loop { r with state:=.busy })):=t1.trans T1 fun b _ h => h ▸ k.lo
            exact t2.trans M2.tr fun b hb h => (hown1 b h).elim (fun h => (k.own b h).1) fun h => absurd h (by omega)
          have hFl2 : ¬ F2 l:=fun hc => (M2.nF l hc).elim hFl1 fun h => h.elim hnl1 fun h => by
            have : W1.heap.size ≤ l:=by simpa using h
            omega
          obtain ⟨l2,hl2e⟩ : ∃ l2,l2 = keepIds e.nb (idsL e.vars) s2.st:=⟨_,rfl⟩
          have hn2 : l2.Nodup:=by rw [hl2e]; exact keep_nodup _ _ _
          obtain ⟨pe,hpe⟩ : ∃ pe : Option AExit,pe = if x = .normal then none else some x:=⟨_,rfl⟩
          have fin : ∃ v w',(Instr.endRound l (jumpOf pe)).run P W2 = .ok v w' ∧ ∃ F' XO',Ending.returned v = .returned (.bool (decide (x = .normal))) ∧ Grow XO (fun _ => none) F W (fun _ => none) F' w' ∧ XC P gb { m0:=m0,n0:=n0,nb:=nb,slots:=slots,h:=hh,T:=T } l { e with vars:=(gc e.nb e.vars s2.st).1,st:=(gc e.nb e.vars s2.st).2,pend:=if x = .normal then none else some x } XO' F' w' ∧ (∀ b,XO' b → b < w'.heap.size ∧ ¬ F' b) ∧ (∀ b,F' b → b < w'.heap.size) ∧ (∀ b,XO' b → XO b ∨ W.heap.size ≤ b):=by
            have T3:=tr_putObj (ob':=.loop { ({ r with state:=.busy } : Loop) with state:=if (jumpOf pe).isNone then .ready else .done,pending:=jumpOf pe }) hl2 (by simp)
            have hs2:=M2.tr.size
            have hs1:=M1.tr.size
            have hs2' : W1.heap.size ≤ W2.heap.size:=by simpa using hs2
            have hs3:=T3.size
            have howW : ∀ b,own m2 (sto s2.st) b → XO b ∨ W.heap.size ≤ b:=fun b hb => by
              rcases M2.ow b hb with h | h
              · exact (hown1 b (.inl h)).imp (fun h => (k.own b h).1) id
              · have : W1.heap.size ≤ b:=by simpa using h
                exact .inr (by omega)
            have hol : ∀ b,own m2 (sto s2.st) b → b ≠ l:=fun b hb e => by
              subst e
              rcases M2.ow b hb with h | h
              · exact hnl1 (.inl h)
              · have : W1.heap.size ≤ b:=by simpa using h
                omega
            have hop : ∀ b,own (fun j : Nat => (l2[j]?).bind m2) (sto (pickSt (idx l2) l2 s2.st)) b → own m2 (sto s2.st) b:=fun b hb => own_pick hb
            refine ⟨_,_,run_endRound _ hl2,F2,fun b => own (fun j : Nat => (l2[j]?).bind m2) (sto (pickSt (idx l2) l2 s2.st)) b ∨ b = l,?_,⟨fun _ _ h => h,hF12,hnF2,T2.trans T3 fun b _ h => h ▸ k.lo⟩,?_,fun b hb => ?_,fun b hb => Nat.lt_of_lt_of_le (S2.R.hF b hb) hs3,fun b hb => ?_⟩
            · subst hpe; cases x <;> rfl
            · have hgc : gc e.nb e.vars s2.st = (renL (idx l2) e.vars,pickSt (idx l2) l2 s2.st):=by simp only [gc,← hl2e]
              rw [hgc]
              have Sp : St gb X (fun j : Nat => (l2[j]?).bind m2) F2 none XO2 W2 (pickSt (idx l2) l2 s2.st) s2.ext:=by
                refine ⟨pick_rel S2.R hn2,fun i b hi => ?_,S2.x,fun b hb => S2.ap b (hop b hb)⟩
                cases hj : l2[i]? with
                | none => simp [hj] at hi
                | some j => have:=(List.getElem?_eq_some_iff.1 hj).1; simpa [pickSt] using this
              have Sq:=st_put (ob':=.loop { ({ r with state:=.busy } : Loop) with state:=if (jumpOf pe).isNone then .ready else .done,pending:=jumpOf pe }) Sp hl2 (fun b hb => hol b (hop b hb)) hFl2
              have mono2 : ∀ {u : AV} {z : Value},RepA m F none W u z → RepA m2 F2 none W2 u z:=fun hu => hu.mono hm12 hF12 (fun b hb => T2.keep b (hF b hb) fun hc => (hXO b hc).2 hb) T2.rows
              have mono3 : ∀ {u : AV} {z : Value},RepA (fun j : Nat => (l2[j]?).bind m2) F2 none W2 u z → RepA (fun j : Nat => (l2[j]?).bind m2) F2 none (W2.putObj l (.loop { ({ r with state:=.busy } : Loop) with state:=if (jumpOf pe).isNone then .ready else .done,pending:=jumpOf pe })) u z:=fun hu => hu.mono (fun _ _ h => h) (fun _ h => h) (fun b hb => T3.keep b (S2.R.hF b hb) fun e => hFl2 (e ▸ hb)) T3.rows
              refine ⟨fun j : Nat => (l2[j]?).bind m2,{ ({ r with state:=.busy } : Loop) with state:=if (jumpOf pe).isNone then .ready else .done,pending:=jumpOf pe },⟨k.nd,k.lt,k.nbe,k.tm,k.asg,k.body,World.putObj_heap_same (Array.getElem?_eq_some_iff.1 hl2).1,k.ps,?_,?_,?_,Sq.R,Sq.up,fun b hb => ⟨.inl hb,hol b (hop b hb)⟩,.inr rfl,⟨k.vr.sz,?_,fun i t ht => ?_⟩,fun i b hi hb => ?_,fun i b hi => ?_,by rw [World.putObj_size]; have h0 : n0 ≤ W.heap.size:=k.sz; show n0 ≤ _; omega⟩⟩
              · cases x <;> simp
              · subst hpe; cases x <;> rfl
              · rw [← hpe]
              · simp only [renL_map,List.length_map]; exact k.vr.ln
              · have hi : i < e.vars.length:=by rw [k.vr.ln]; exact (List.getElem?_eq_some_iff.1 ht).1
                have e3 : (renL (idx l2) e.vars).getD i .junk = ren (idx l2) (e.vars.getD i .junk):=by
                  rw [renL_map,List.getD_eq_getElem?_getD,List.getElem?_map,List.getD_eq_getElem?_getD,List.getElem?_eq_getElem hi]; rfl
                simp only
                rw [e3]
                exact mono3 (pick_rep (mono2 (k.vr.vr i t ht)))
              · have : l2[i]? = some i:=by rw [hl2e]; exact keep_get hi
                simp only [this,Option.bind_some]
                exact hm12 i b (k.hm i b hi hb)
              · cases hj : l2[i]? with
                | none => simp [hj] at hi
                | some j =>
                  simp only [hj,Option.bind_some] at hi
                  have hsz0 : n0 ≤ W.heap.size:=k.sz
                  show (∃ j,m0 j = some b) ∨ n0 ≤ b
                  rcases M2.rg j b hi with ⟨j1,h1⟩ | h1
                  · rcases M1.rg j1 b h1 with ⟨j2,h2⟩ | h2
                    · exact k.rg j2 b h2
                    · exact .inr (by omega)
                  · have : W1.heap.size ≤ b:=by simpa using h1
                    exact .inr (by omega)
            · rcases hb with hb | hb
              · obtain ⟨i,h1,h2⟩:=hop b hb
                exact ⟨Nat.lt_of_lt_of_le (S2.R.hm i b h2) hs3,S2.R.nF i b h1 h2⟩
              · subst hb; exact ⟨by rw [World.putObj_size]; omega,hFl2⟩
            · rcases hb with hb | hb
              · exact howW b (hop b hb)
              · exact .inl (hb ▸ k.lo)
          cases x with
          | normal => subst hpe; exact fin
          | exit i => subst hpe; exact fin
          | ret => subst hpe; exact fin
        · cases h
      · cases h
end
end Go.Vm

/- Loops over functions: the statement. -/
namespace Go.Vm
open Go
section
variable {P : Program} {gb : Nat → Option (List D)} {X : XT} {lo : Lower} {F : Nat → Prop} {W : World}
theorem tr_alloc (W : World) (o : Obj) : Tr (fun _ => False) W (W.alloc o):=by
  refine ⟨rfl,rfl,rfl,by simp [World.size_alloc],fun b hb _ => ?_,fun b s hr => ?_⟩
  · show (W.heap.push o)[b]? = W.heap[b]?
    rw [Array.getElem?_push,if_neg (by omega)]
  · unfold rowSize at hr ⊢
    have hb : b < W.heap.size:=by
      apply Classical.byContradiction
      intro h
      rw [Array.getElem?_eq_none (by omega)] at hr
      cases hr
    have : (W.alloc o).heap[b]? = W.heap[b]?:=by
      show (W.heap.push o)[b]? = W.heap[b]?
      rw [Array.getElem?_push,if_neg (by omega)]
    rw [this]; exact hr
theorem run_ofValue {f : FuncId} {vx vy args : Array Value} : (Deferred.ofValue (.func (.func f) vx vy) args).run P W = .ok { target:=.fn (.func f) vy,args:=vx ++ args } W:=by
  simp [Deferred.ofValue]
theorem rf_ok (HA : ∀ p : XP,LowerOk P gb (XC P gb p) lo) : RfOk P gb X lo:=by
  intro slots h t ps asg body i qs asg' body' hn hlt hi hqs hasg hbody n0 ro cx L s s' x a W m F XO Q hro ha hS hv hd hQ
  simp only [aCode] at ha
  split at ha
  · cases ha
  rename_i hc
  have hrd : cx.rd = false:=by cases h : cx.rd <;> simp [h] at hc ⊢
  have hext : s.ext = none:=by cases h : s.ext <;> simp [h] at hc ⊢
  have hro0:=hro hrd
  subst hro0
  rw [hext] at hS
  have hL : L = none:=by
    cases L with
    | none => rfl
    | some l => exact hS.x.elim
  subst hL
  have hXO : ∀ b,¬ XO b:=hS.x
  split at ha
  · rename_i g fa fb hf
    split at ha
    · rename_i v1 st1 e hcall
      simp only [Option.some.injEq,Prod.mk.injEq] at ha
      obtain ⟨rfl,rfl⟩:=ha
      have hrf:=hv.vr i t (idxOf_get hi)
      have hf' : s.vars.getD i .junk = .imm (.fn g fa fb):=hf
      rw [hf'] at hrf
      obtain ⟨vx,vy,hval,hx,hy⟩ : ∃ vx vy,a.tmps.getD t undef = .func (.func g) vx vy ∧ (vx.size = fa.length ∧ ∀ j d,fa[j]? = some d → RepD F W d (vx.getD j undef)) ∧ (vy.size = fb.length ∧ ∀ j d,fb[j]? = some d → RepD F W d (vy.getD j undef)):=by
        generalize a.tmps.getD t undef = z at hrf
        cases hrf with
        | imm _ _ h => cases h with | fn _ _ _ vx vy hx hy rx ry => exact ⟨vx,vy,rfl,⟨hx,rx⟩,hy,ry⟩
      -- the world with the record
      obtain ⟨r,hr⟩ : ∃ r : FuncId → Loop,r = fun fn => { state:=.ready,pending:=none,fn,tmps:=a.tmps,params:=ps,assign:=asg,body:=body,defers:=W.heap.size }:=⟨_,rfl⟩
      refine wpIn_rangeFunc fun fn hfn => ?_
      obtain ⟨W1,hW1⟩ : ∃ W1,W1 = (W.alloc (.deferred (some []))).alloc (.loop (r fn)):=⟨_,rfl⟩
      have hsz1 : W1.heap.size = W.heap.size + 2:=by rw [hW1]; simp [World.size_alloc]
      have T1 : Tr (fun _ => False) W W1:=by rw [hW1]; exact (tr_alloc _ _).trans (tr_alloc _ _) fun _ _ h => h
      have hl1 : W1.heap[W.heap.size + 1]? = some (.loop (r fn)):=by
        rw [hW1]
        have:=World.alloc_heap_new (W.alloc (.deferred (some []))) (.loop (r fn))
        simpa [World.size_alloc] using this
      have hd1 : W1.heap[W.heap.size]? = some (.deferred (some [])):=by
        rw [hW1]
        rw [(tr_alloc (W.alloc (.deferred (some []))) (.loop (r fn))).keep W.heap.size (by simp [World.size_alloc]) (fun h => h)]
        exact World.alloc_heap_new _ _
      have hF1 : ∀ b,F b → W1.heap[b]? = W.heap[b]?:=fun b hb => T1.keep b (hS.R.hF b hb) fun h => h
      have mono1 : ∀ {u : AV} {z : Value},RepA m F none W u z → RepA m F none W1 u z:=fun hu => hu.mono (fun _ _ h => h) (fun _ h => h) hF1 T1.rows
      obtain ⟨xp,hxp⟩ : ∃ xp : XP,xp = { m0:=m,n0:=W.heap.size,nb:=cx.nb,slots:=slots,h:=h,T:=a.tmps }:=⟨_,rfl⟩
      have R1 : Rel gb m F none W1 (sto s.st):=Rel.mono hS.R T1 (fun _ _ h => h) (fun i b hi => Nat.lt_of_lt_of_le (hS.R.hm i b hi) T1.size) (fun _ h => h) (fun b hb => Nat.lt_of_lt_of_le (hS.R.hF b hb) T1.size) (fun _ _ _ _ h => h) (fun _ _ h => h) hS.R.nF
      have hlast : ∀ b,own m (sto s.st) b → b < W.heap.size:=fun b ⟨i,_,h⟩ => hS.R.hm i b h
      have hX : XC P gb xp (W.heap.size + 1) { ps:=qs,asg:=asg',body:=body',vars:=s.vars,st:=s.st,nb:=cx.nb,pend:=none } (fun b => own m (sto s.st) b ∨ b = W.heap.size + 1) F W1:=by
        subst hxp
        refine ⟨m,r fn,⟨hn,hlt,rfl,by rw [hr],by rw [hr]; exact hasg,by rw [hr]; exact hbody,hl1,by rw [hr]; exact hqs,by simp,by rw [hr]; simp,by rw [hr]; rfl,R1,hS.up,fun b hb => ⟨.inl hb,fun e => by have:=hlast b hb; omega⟩,.inr rfl,?_,fun _ _ _ h => h,fun i b h => .inl ⟨i,h⟩,by simp only; omega⟩⟩
        refine ⟨by rw [hr]; exact hv.sz,hv.ln,fun i t ht => ?_⟩
        have:=mono1 (hv.vr i t ht)
        rw [hr]; exact this
      have S1 : St gb (XC P gb xp) (fun _ => none) F (some (W.heap.size + 1)) (fun b => own m (sto s.st) b ∨ b = W.heap.size + 1) W1 [] (some { ps:=qs,asg:=asg',body:=body',vars:=s.vars,st:=s.st,nb:=cx.nb,pend:=none }):=by
        refine ⟨⟨R1.gl,fun i hi => absurd rfl hi,fun _ _ _ _ _ h => (nomatch h),fun _ _ _ h => (nomatch h),R1.hF,fun _ _ h => (nomatch h)⟩,fun _ _ h => (nomatch h),⟨hX,fun b hb => ?_⟩,fun b h => ?_⟩
        · rcases hb with hb | hb
          · exact ⟨by have:=hlast b hb; omega,fun hc => (hS.ownF b hc).2 hb⟩
          · exact ⟨by omega,fun hc => by have:=hS.R.hF b hc; omega⟩
        · obtain ⟨i,_,h⟩:=h; cases h
      have hargs : (vx ++ #[Value.func (.yield (W.heap.size + 1)) #[] #[]] ++ vy).size = (fa.map AV.imm ++ [AV.yield] ++ fb.map AV.imm).length ∧
          ∀ j d,(fa.map AV.imm ++ [AV.yield] ++ fb.map AV.imm)[j]? = some d → RepA (fun _ => none) F (some (W.heap.size + 1)) W1 d ((vx ++ #[Value.func (.yield (W.heap.size + 1)) #[] #[]] ++ vy).getD j undef):=by
        refine rep_app (rep_app ⟨by simpa using hx.1,imm_args fun j d hj => (hx.2 j d hj).mono (fun _ h => h) hF1⟩ ⟨rfl,fun j d hj => ?_⟩) ⟨by simpa using hy.1,imm_args fun j d hj => (hy.2 j d hj).mono (fun _ h => h) hF1⟩
        cases j with
        | zero => simp at hj; subst hj; exact .yield _ rfl
        | succ j => simp at hj
      refine ⟨W.heap.size + 1,[{ target:=.collected W.heap.size,args:=#[] }],W1,{ target:=.fn (.func g) vy,args:=vx ++ #[Value.func (.yield (W.heap.size + 1)) #[] #[]] },W1,g,vx ++ #[Value.func (.yield (W.heap.size + 1)) #[] #[]] ++ vy,W1,?_,?_,fun f' _ => fen_fn none f',?_,(fun hc => by rw [fen_depth] at hc; cases hc),?_⟩
      · rw [hW1,hr]; exact run_enterLoop_outer fn a.tmps ps asg body
      · have:=run_ofValue (P:=P) (W:=W1) (f:=g) (vx:=vx) (vy:=vy) (args:=#[Value.func (.yield (W.heap.size + 1)) #[] #[]])
        simpa [resolve,Act.eval,hval] using this
      · simp only [invoke]
        exact (HA xp).ent hcall _ _
      · refine ((HA xp).call hcall S1 hargs.1 hargs.2).mono fun en w hen => ?_
        obtain ⟨rv,m',F',XO',rfl,p⟩:=hen
        obtain ⟨⟨m2,r2,k⟩,hXO'⟩:=p.s.x
        subst hxp
        simp only at k
        have hst : r2.state ≠ .busy:=by rw [k.stt]; split <;> simp
        have T3:=tr_putObj (ob':=.loop { r2 with state:=.exhausted }) k.hl (by simp)
        have hol : ∀ b,own m2 (sto e.st) b → b ≠ W.heap.size + 1:=fun b hb => (k.own b hb).2
        have hFl : ¬ F' (W.heap.size + 1):=(hXO' _ k.lo).2
        have Sx : St gb X m2 F' none (fun _ => False) w e.st none:=⟨k.R,k.up,fun _ h => h,fun _ _ h => h⟩
        have Sf:=st_put (ob':=.loop { r2 with state:=.exhausted }) Sx k.hl hol hFl
        have hV : Vr h.nt slots m2 F' none (w.putObj (W.heap.size + 1) (.loop { r2 with state:=.exhausted })) { a with defers:=[{ target:=.collected W.heap.size,args:=#[] }] ++ a.defers } e.vars:=by
          refine ⟨hv.sz,k.vr.ln,fun i t ht => ?_⟩
          have:=k.vr.vr i t ht
          rw [k.tm] at this
          exact this.mono (fun _ _ h => h) (fun _ h => h) (fun b hb => T3.keep b (k.R.hF b hb) fun e => hFl (e ▸ hb)) T3.rows
        have hO1 : ∀ b,ownA (fun _ => none) [] (fun b => own m (sto s.st) b ∨ b = W.heap.size + 1) b → own m (sto s.st) b ∨ b = W.heap.size + 1:=by
          rintro b (⟨i,_,h⟩ | h)
          · cases h
          · exact h
        have M : Mv cx.nb m F XO W s.st m2 F' (fun _ => False) (w.putObj (W.heap.size + 1) (.loop { r2 with state:=.exhausted })) e.st:=by
          refine ⟨fun i b hi hb => k.hm i b (by rw [k.nbe]; exact hi) hb,p.gr.hF,fun b hb => ?_,?_,fun b hb => ?_,fun b h => h.elim,fun i b hi => k.rg i b hi⟩
          · rcases p.gr.nF b hb with h | h | h
            · exact .inl h
            · rcases hO1 b h with h | h
              · exact .inr (.inl (.inl h))
              · exact .inr (.inr (by omega))
            · exact .inr (.inr (by omega))
          · have t1 : Tr (ownA m s.st XO) W w:=(T1.mono (O':=ownA m s.st XO) fun _ _ h => h.elim).trans p.gr.tr fun b hb h => by
              rcases hO1 b h with h | h
              · exact .inl h
              · omega
            exact t1.trans T3 fun b hb h => by omega
          · rcases p.xo b (k.own b hb).1 with h | h
            · rcases h with h | h
              · exact .inl h
              · exact .inr (by omega)
            · exact .inr (by omega)
        have hdk : w.heap[W.heap.size]? = some (.deferred (some [])):=by
          rw [p.gr.tr.keep W.heap.size (by omega) fun hc => by
            rcases hO1 _ hc with h | h
            · have:=hlast _ h; omega
            · omega]
          exact hd1
        have hnd : W.heap.size ≠ W.heap.size + 1:=by omega
        have hD : DOk n0 ([{ target:=.collected W.heap.size,args:=#[] }] ++ a.defers) (w.putObj (W.heap.size + 1) (.loop { r2 with state:=.exhausted })) m2 e.st F' (fun _ => False):=by
          have D0:=hd.mv M
          refine ⟨D0.sz,fun d hdm => ?_,?_⟩
          · rcases List.mem_cons.1 hdm with rfl | hdm
            · refine ⟨W.heap.size,rfl,?_,fun hc => ?_,fun hc => ?_,hd.sz⟩
              · rw [World.putObj_heap_other hnd]; exact hdk
              · rcases hc with hc | hc
                · rcases p.xo _ (k.own _ hc).1 with h | h
                  · rcases h with h | h
                    · have:=hlast _ h; omega
                    · omega
                  · omega
                · exact hc
              · rcases p.gr.nF _ hc with h | h | h
                · have:=hS.R.hF _ h; omega
                · rcases hO1 _ h with h | h
                  · have:=hlast _ h; omega
                  · omega
                · omega
            · exact D0.all d hdm
          · simp only [List.cons_append,List.nil_append,List.map_cons,List.nodup_cons]
            refine ⟨fun hc => ?_,hd.nd⟩
            obtain ⟨d,hdm,hdt⟩:=List.mem_map.1 hc
            obtain ⟨b,h1,h2,_⟩:=hd.all d hdm
            rw [hdt] at h1
            injection h1 with h1
            subst h1
            have:=(Array.getElem?_eq_some_iff.1 h2).1
            omega
        have fin:=hQ { a with defers:=[{ target:=.collected W.heap.size,args:=#[] }] ++ a.defers } (w.putObj (W.heap.size + 1) (.loop { r2 with state:=.exhausted })) ⟨m2,F',fun _ => False,Sf,hV,M,hD⟩
        refine ⟨r2.pending,_,run_endLoop k.hl hst,?_⟩
        have hpn:=k.pnd
        cases hp : e.pend with
        | none =>
          rw [hp] at fin hpn
          have hpn' : r2.pending = none:=hpn
          split
          · exact fin
          · rename_i c hcc; rw [hpn'] at hcc; cases hcc
        | some q =>
          rw [hp] at fin hpn
          cases q with
          | normal => exact absurd hp k.pe
          | exit i =>
            have hpn' : r2.pending = some (.exit i):=hpn
            split
            · rename_i hcc; rw [hpn'] at hcc; cases hcc
            · rename_i c hcc; rw [hpn'] at hcc; injection hcc with hcc; subst hcc; exact wpIn_exit fin
          | ret =>
            have hpn' : r2.pending = some .ret:=hpn
            split
            · rename_i hcc; rw [hpn'] at hcc; cases hcc
            · rename_i c hcc; rw [hpn'] at hcc; injection hcc with hcc; subst hcc; exact wpIn_ret fin
    · cases ha
  · cases ha
end
end Go.Vm

/- Soundness: all levels. -/
namespace Go.Vm
open Go
def FnOk (P : Program) (gb : Nat → Option (List D)) (f : FuncId) (fi : IFn) : Prop :=
  ∃ slots keeps h fn,P.funcs[f]? = some fn ∧ compFn P slots keeps h gb fn = some fi ∧ (fn.name == "runtime.NumGoroutine") = false
structure PrimOk (P : Program) (gb : Nat → Option (List D)) (f : FuncId) (g : List AV → List AO → Option (AV × List AO)) : Prop where
  ent : Entry P f
  call : ∀ {args st v st' m F L W} {vs : Array Value},g args st = some (v,st') → Rel gb m F L W (sto st) → (∀ i b,m i = some b → i < st.length) → vs.size = args.length → (∀ j a,args[j]? = some a → RepA m F L W a (vs.getD j undef)) →
    CallsIn Fence.wide 0 P f vs W fun e w => ∃ r m' F',e = .returned r ∧ Grow (own m (sto st)) m F W m' F' w ∧ Rel gb m' F' L w (sto st') ∧ (∀ i b,m' i = some b → i < st'.length) ∧ RepA m' F' L w v r ∧ (∀ b,own m' (sto st') b → own m (sto st) b ∨ W.heap.size ≤ b) ∧ (∀ i b,m' i = some b → (∃ j,m j = some b) ∨ W.heap.size ≤ b)
section
variable {P : Program} {gb : Nat → Option (List D)}
theorem prim_post {X : XT} (hX : XMono X) {m : Nat → Option Nat} {F : Nat → Prop} {L : Option Nat} {XO : Nat → Prop} {W : World} {st st' : List AO} {ext : Option Ext} {v : AV} {r : Value} {w : World} {m' : Nat → Option Nat} {F' : Nat → Prop}
    (S : St gb X m F L XO W st ext) (G : Grow (own m (sto st)) m F W m' F' w) (R : Rel gb m' F' L w (sto st')) (up : ∀ i b,m' i = some b → i < st'.length) (rv : RepA m' F' L w v r)
    (ow : ∀ b,own m' (sto st') b → own m (sto st) b ∨ W.heap.size ≤ b) (rg : ∀ i b,m' i = some b → (∃ j,m j = some b) ∨ W.heap.size ≤ b) (hXO : ∀ b,XO b → b < W.heap.size) : Post gb X m F L XO W st v st' ext r w m' F' XO:=by
  refine ⟨⟨G.hm,G.hF,fun b hb => ?_,⟨G.tr.os,G.tr.tape,G.tr.output,G.tr.size,fun b hb h => G.tr.keep b hb fun h1 => h (.inl h1),G.tr.rows⟩⟩,⟨R,up,S.x.mono hX G S.ownF (fun b hb ho => S.ap b ho hb) R.hF,fun b hb hx => ?_⟩,rv,ow,fun b hb => .inl hb,rg⟩
  · rcases G.nF b hb with h | h | h
    · exact .inl h
    · exact .inr (.inl (.inl h))
    · exact .inr (.inr h)
  · rcases ow b hb with h | h
    · exact S.ap b h hx
    · have:=hXO b hx; omega
theorem level_okP (E : Env) (hm : P.follows .mixedOrders = true) (hfn : ∀ f fi,E.fn f = some fi → FnOk P gb f fi) (hp : ∀ f g,E.prim f = some g → PrimOk P gb f g) : ∀ (n : Nat) (p : XP),LowerOk P gb (XC P gb p) (level E n)
  | 0,p => ⟨xc_mono p,fun h => (nomatch h),fun h => (nomatch h),fun h => (nomatch h)⟩
  | n + 1,p => by
    have HA:=level_okP E hm hfn hp n
    refine ⟨xc_mono p,?_,?_,?_⟩
    · intro f args st ext v st' ext' m F L XO W vs hc S hsz hr
      simp only [level] at hc
      split at hc
      · rename_i fi hf
        obtain ⟨slots,keeps,h,fn,h1,h2,_⟩:=hfn f fi hf
        exact fn_sound (HA p) hm h1 h2 (fun hn hlt t ps asg body i qs asg' body' => rf_ok HA slots { h with nt:=fn.ntmps } t ps asg body i qs asg' body' hn hlt) hc S hsz hr
      · unfold runPrim at hc
        cases hg : E.prim f with
        | none => rw [hg] at hc; cases hc
        | some g =>
          rw [hg] at hc
          simp only at hc
          cases hr' : g args st with
          | none => rw [hr'] at hc; cases hc
          | some q =>
            rw [hr'] at hc
            simp only [Option.some.injEq,Prod.mk.injEq] at hc
            obtain ⟨rfl,rfl,rfl⟩:=hc
            refine ((hp f g hg).call hr' S.R S.up hsz hr).mono fun e w ⟨r,m',F',he,G,R',up',rv,ow,rg⟩ => ⟨r,m',F',XO,he,prim_post (xc_mono p) S G R' up' rv ow rg ?_⟩
            intro b hb
            have hx:=S.x
            cases L with
            | none => cases ext with
              | none => exact absurd hb (hx b)
              | some e => exact hx.elim
            | some l => cases ext with
              | none => exact hx.elim
              | some e => exact (hx.2 b hb).1
    · intro f args st ext r hc
      simp only [level] at hc
      split at hc
      · rename_i fi hf
        obtain ⟨slots,keeps,h,fn,h1,h2,h3⟩:=hfn f fi hf
        obtain ⟨c,hb,_⟩:=comp_facts h2
        exact fn_entry h1 (by rw [hb]; rfl) h3
      · unfold runPrim at hc
        cases hg : E.prim f with
        | none => rw [hg] at hc; cases hc
        | some g => exact (hp f g hg).ent
    · intro l e ds e' b XO F W vs hc hx hXO hF hsz hr
      exact round_sound (HA p) hm (rf_ok HA) hc hx hXO hF hsz hr
end
end Go.Vm

/- Chapter 04: each function's code in the model compiles to the machine's code. -/
set_option maxRecDepth 100000
namespace Go.Vm.P4D
open Go Go.Vm Go.Proofs
theorem k3 : FnOk Tryd.prog glob 3 ir3:=⟨ir3.slots,ks3,hi3,Tryd.f3,Tryd.func3,by kernel_rfl,by kernel_rfl⟩
theorem k7 : FnOk Tryd.prog glob 7 ir7:=⟨ir7.slots,ks7,hi7,Tryd.f7,Tryd.func7,by kernel_rfl,by kernel_rfl⟩
theorem k8 : FnOk Tryd.prog glob 8 ir8:=⟨ir8.slots,ks8,hi8,Tryd.f8,Tryd.func8,by kernel_rfl,by kernel_rfl⟩
theorem k9 : FnOk Tryd.prog glob 9 ir9:=⟨ir9.slots,ks9,hi9,Tryd.f9,Tryd.func9,by kernel_rfl,by kernel_rfl⟩
theorem k10 : FnOk Tryd.prog glob 10 ir10:=⟨ir10.slots,ks10,hi10,Tryd.f10,Tryd.func10,by kernel_rfl,by kernel_rfl⟩
theorem k11 : FnOk Tryd.prog glob 11 ir11:=⟨ir11.slots,ks11,hi11,Tryd.f11,Tryd.func11,by kernel_rfl,by kernel_rfl⟩
theorem k12 : FnOk Tryd.prog glob 12 ir12:=⟨ir12.slots,ks12,hi12,Tryd.f12,Tryd.func12,by kernel_rfl,by kernel_rfl⟩
theorem k13 : FnOk Tryd.prog glob 13 ir13:=⟨ir13.slots,ks13,hi13,Tryd.f13,Tryd.func13,by kernel_rfl,by kernel_rfl⟩
theorem k14 : FnOk Tryd.prog glob 14 ir14:=⟨ir14.slots,ks14,hi14,Tryd.f14,Tryd.func14,by kernel_rfl,by kernel_rfl⟩
theorem k15 : FnOk Tryd.prog glob 15 ir15:=⟨ir15.slots,ks15,hi15,Tryd.f15,Tryd.func15,by kernel_rfl,by kernel_rfl⟩
theorem k16 : FnOk Tryd.prog glob 16 ir16:=⟨ir16.slots,ks16,hi16,Tryd.f16,Tryd.func16,by kernel_rfl,by kernel_rfl⟩
theorem k17 : FnOk Tryd.prog glob 17 ir17:=⟨ir17.slots,ks17,hi17,Tryd.f17,Tryd.func17,by kernel_rfl,by kernel_rfl⟩
theorem k18 : FnOk Tryd.prog glob 18 ir18:=⟨ir18.slots,ks18,hi18,Tryd.f18,Tryd.func18,by kernel_rfl,by kernel_rfl⟩
theorem k19 : FnOk Tryd.prog glob 19 ir19:=⟨ir19.slots,ks19,hi19,Tryd.f19,Tryd.func19,by kernel_rfl,by kernel_rfl⟩
theorem k20 : FnOk Tryd.prog glob 20 ir20:=⟨ir20.slots,ks20,hi20,Tryd.f20,Tryd.func20,by kernel_rfl,by kernel_rfl⟩
theorem k21 : FnOk Tryd.prog glob 21 ir21:=⟨ir21.slots,ks21,hi21,Tryd.f21,Tryd.func21,by kernel_rfl,by kernel_rfl⟩
theorem k22 : FnOk Tryd.prog glob 22 ir22:=⟨ir22.slots,ks22,hi22,Tryd.f22,Tryd.func22,by kernel_rfl,by kernel_rfl⟩
theorem k23 : FnOk Tryd.prog glob 23 ir23:=⟨ir23.slots,ks23,hi23,Tryd.f23,Tryd.func23,by kernel_rfl,by kernel_rfl⟩
theorem k24 : FnOk Tryd.prog glob 24 ir24:=⟨ir24.slots,ks24,hi24,Tryd.f24,Tryd.func24,by kernel_rfl,by kernel_rfl⟩
theorem k25 : FnOk Tryd.prog glob 25 ir25:=⟨ir25.slots,ks25,hi25,Tryd.f25,Tryd.func25,by kernel_rfl,by kernel_rfl⟩
theorem k26 : FnOk Tryd.prog glob 26 ir26:=⟨ir26.slots,ks26,hi26,Tryd.f26,Tryd.func26,by kernel_rfl,by kernel_rfl⟩
theorem k32 : FnOk Tryd.prog glob 32 ir32:=⟨ir32.slots,ks32,hi32,Tryd.f32,Tryd.func32,by kernel_rfl,by kernel_rfl⟩
theorem k34 : FnOk Tryd.prog glob 34 ir34:=⟨ir34.slots,ks34,hi34,Tryd.f34,Tryd.func34,by kernel_rfl,by kernel_rfl⟩
theorem k36 : FnOk Tryd.prog glob 36 ir36:=⟨ir36.slots,ks36,hi36,Tryd.f36,Tryd.func36,by kernel_rfl,by kernel_rfl⟩
theorem k40 : FnOk Tryd.prog glob 40 ir40:=⟨ir40.slots,ks40,hi40,Tryd.f40,Tryd.func40,by kernel_rfl,by kernel_rfl⟩
theorem k43 : FnOk Tryd.prog glob 43 ir43:=⟨ir43.slots,ks43,hi43,Tryd.f43,Tryd.func43,by kernel_rfl,by kernel_rfl⟩
theorem k44 : FnOk Tryd.prog glob 44 ir44:=⟨ir44.slots,ks44,hi44,Tryd.f44,Tryd.func44,by kernel_rfl,by kernel_rfl⟩
theorem k45 : FnOk Tryd.prog glob 45 ir45:=⟨ir45.slots,ks45,hi45,Tryd.f45,Tryd.func45,by kernel_rfl,by kernel_rfl⟩
theorem k46 : FnOk Tryd.prog glob 46 ir46:=⟨ir46.slots,ks46,hi46,Tryd.f46,Tryd.func46,by kernel_rfl,by kernel_rfl⟩
theorem k47 : FnOk Tryd.prog glob 47 ir47:=⟨ir47.slots,ks47,hi47,Tryd.f47,Tryd.func47,by kernel_rfl,by kernel_rfl⟩
theorem k48 : FnOk Tryd.prog glob 48 ir48:=⟨ir48.slots,ks48,hi48,Tryd.f48,Tryd.func48,by kernel_rfl,by kernel_rfl⟩
theorem k49 : FnOk Tryd.prog glob 49 ir49:=⟨ir49.slots,ks49,hi49,Tryd.f49,Tryd.func49,by kernel_rfl,by kernel_rfl⟩
theorem k50 : FnOk Tryd.prog glob 50 ir50:=⟨ir50.slots,ks50,hi50,Tryd.f50,Tryd.func50,by kernel_rfl,by kernel_rfl⟩
theorem k51 : FnOk Tryd.prog glob 51 ir51:=⟨ir51.slots,ks51,hi51,Tryd.f51,Tryd.func51,by kernel_rfl,by kernel_rfl⟩
theorem k52 : FnOk Tryd.prog glob 52 ir52:=⟨ir52.slots,ks52,hi52,Tryd.f52,Tryd.func52,by kernel_rfl,by kernel_rfl⟩
theorem k53 : FnOk Tryd.prog glob 53 ir53:=⟨ir53.slots,ks53,hi53,Tryd.f53,Tryd.func53,by kernel_rfl,by kernel_rfl⟩
theorem k54 : FnOk Tryd.prog glob 54 ir54:=⟨ir54.slots,ks54,hi54,Tryd.f54,Tryd.func54,by kernel_rfl,by kernel_rfl⟩
theorem k55 : FnOk Tryd.prog glob 55 ir55:=⟨ir55.slots,ks55,hi55,Tryd.f55,Tryd.func55,by kernel_rfl,by kernel_rfl⟩
theorem k56 : FnOk Tryd.prog glob 56 ir56:=⟨ir56.slots,ks56,hi56,Tryd.f56,Tryd.func56,by kernel_rfl,by kernel_rfl⟩
theorem k57 : FnOk Tryd.prog glob 57 ir57:=⟨ir57.slots,ks57,hi57,Tryd.f57,Tryd.func57,by kernel_rfl,by kernel_rfl⟩
theorem k58 : FnOk Tryd.prog glob 58 ir58:=⟨ir58.slots,ks58,hi58,Tryd.f58,Tryd.func58,by kernel_rfl,by kernel_rfl⟩
theorem k59 : FnOk Tryd.prog glob 59 ir59:=⟨ir59.slots,ks59,hi59,Tryd.f59,Tryd.func59,by kernel_rfl,by kernel_rfl⟩
theorem k60 : FnOk Tryd.prog glob 60 ir60:=⟨ir60.slots,ks60,hi60,Tryd.f60,Tryd.func60,by kernel_rfl,by kernel_rfl⟩
theorem k61 : FnOk Tryd.prog glob 61 ir61:=⟨ir61.slots,ks61,hi61,Tryd.f61,Tryd.func61,by kernel_rfl,by kernel_rfl⟩
theorem k62 : FnOk Tryd.prog glob 62 ir62:=⟨ir62.slots,ks62,hi62,Tryd.f62,Tryd.func62,by kernel_rfl,by kernel_rfl⟩
theorem k63 : FnOk Tryd.prog glob 63 ir63:=⟨ir63.slots,ks63,hi63,Tryd.f63,Tryd.func63,by kernel_rfl,by kernel_rfl⟩
theorem k64 : FnOk Tryd.prog glob 64 ir64:=⟨ir64.slots,ks64,hi64,Tryd.f64,Tryd.func64,by kernel_rfl,by kernel_rfl⟩
theorem k65 : FnOk Tryd.prog glob 65 ir65:=⟨ir65.slots,ks65,hi65,Tryd.f65,Tryd.func65,by kernel_rfl,by kernel_rfl⟩
theorem k66 : FnOk Tryd.prog glob 66 ir66:=⟨ir66.slots,ks66,hi66,Tryd.f66,Tryd.func66,by kernel_rfl,by kernel_rfl⟩
theorem k67 : FnOk Tryd.prog glob 67 ir67:=⟨ir67.slots,ks67,hi67,Tryd.f67,Tryd.func67,by kernel_rfl,by kernel_rfl⟩
theorem k68 : FnOk Tryd.prog glob 68 ir68:=⟨ir68.slots,ks68,hi68,Tryd.f68,Tryd.func68,by kernel_rfl,by kernel_rfl⟩
theorem k69 : FnOk Tryd.prog glob 69 ir69:=⟨ir69.slots,ks69,hi69,Tryd.f69,Tryd.func69,by kernel_rfl,by kernel_rfl⟩
theorem k70 : FnOk Tryd.prog glob 70 ir70:=⟨ir70.slots,ks70,hi70,Tryd.f70,Tryd.func70,by kernel_rfl,by kernel_rfl⟩
theorem k71 : FnOk Tryd.prog glob 71 ir71:=⟨ir71.slots,ks71,hi71,Tryd.f71,Tryd.func71,by kernel_rfl,by kernel_rfl⟩
theorem k72 : FnOk Tryd.prog glob 72 ir72:=⟨ir72.slots,ks72,hi72,Tryd.f72,Tryd.func72,by kernel_rfl,by kernel_rfl⟩
theorem k73 : FnOk Tryd.prog glob 73 ir73:=⟨ir73.slots,ks73,hi73,Tryd.f73,Tryd.func73,by kernel_rfl,by kernel_rfl⟩
theorem k74 : FnOk Tryd.prog glob 74 ir74:=⟨ir74.slots,ks74,hi74,Tryd.f74,Tryd.func74,by kernel_rfl,by kernel_rfl⟩
theorem k75 : FnOk Tryd.prog glob 75 ir75:=⟨ir75.slots,ks75,hi75,Tryd.f75,Tryd.func75,by kernel_rfl,by kernel_rfl⟩
theorem k76 : FnOk Tryd.prog glob 76 ir76:=⟨ir76.slots,ks76,hi76,Tryd.f76,Tryd.func76,by kernel_rfl,by kernel_rfl⟩
theorem k77 : FnOk Tryd.prog glob 77 ir77:=⟨ir77.slots,ks77,hi77,Tryd.f77,Tryd.func77,by kernel_rfl,by kernel_rfl⟩
theorem k78 : FnOk Tryd.prog glob 78 ir78:=⟨ir78.slots,ks78,hi78,Tryd.f78,Tryd.func78,by kernel_rfl,by kernel_rfl⟩
theorem k79 : FnOk Tryd.prog glob 79 ir79:=⟨ir79.slots,ks79,hi79,Tryd.f79,Tryd.func79,by kernel_rfl,by kernel_rfl⟩
theorem k80 : FnOk Tryd.prog glob 80 ir80:=⟨ir80.slots,ks80,hi80,Tryd.f80,Tryd.func80,by kernel_rfl,by kernel_rfl⟩
theorem k81 : FnOk Tryd.prog glob 81 ir81:=⟨ir81.slots,ks81,hi81,Tryd.f81,Tryd.func81,by kernel_rfl,by kernel_rfl⟩
theorem k82 : FnOk Tryd.prog glob 82 ir82:=⟨ir82.slots,ks82,hi82,Tryd.f82,Tryd.func82,by kernel_rfl,by kernel_rfl⟩
theorem k84 : FnOk Tryd.prog glob 84 ir84:=⟨ir84.slots,ks84,hi84,Tryd.f84,Tryd.func84,by kernel_rfl,by kernel_rfl⟩
theorem k85 : FnOk Tryd.prog glob 85 ir85:=⟨ir85.slots,ks85,hi85,Tryd.f85,Tryd.func85,by kernel_rfl,by kernel_rfl⟩
theorem k86 : FnOk Tryd.prog glob 86 ir86:=⟨ir86.slots,ks86,hi86,Tryd.f86,Tryd.func86,by kernel_rfl,by kernel_rfl⟩
theorem k87 : FnOk Tryd.prog glob 87 ir87:=⟨ir87.slots,ks87,hi87,Tryd.f87,Tryd.func87,by kernel_rfl,by kernel_rfl⟩
theorem k89 : FnOk Tryd.prog glob 89 ir89:=⟨ir89.slots,ks89,hi89,Tryd.f89,Tryd.func89,by kernel_rfl,by kernel_rfl⟩
theorem k90 : FnOk Tryd.prog glob 90 ir90:=⟨ir90.slots,ks90,hi90,Tryd.f90,Tryd.func90,by kernel_rfl,by kernel_rfl⟩
theorem k91 : FnOk Tryd.prog glob 91 ir91:=⟨ir91.slots,ks91,hi91,Tryd.f91,Tryd.func91,by kernel_rfl,by kernel_rfl⟩
theorem k92 : FnOk Tryd.prog glob 92 ir92:=⟨ir92.slots,ks92,hi92,Tryd.f92,Tryd.func92,by kernel_rfl,by kernel_rfl⟩
theorem k93 : FnOk Tryd.prog glob 93 ir93:=⟨ir93.slots,ks93,hi93,Tryd.f93,Tryd.func93,by kernel_rfl,by kernel_rfl⟩
theorem k94 : FnOk Tryd.prog glob 94 ir94:=⟨ir94.slots,ks94,hi94,Tryd.f94,Tryd.func94,by kernel_rfl,by kernel_rfl⟩
theorem k95 : FnOk Tryd.prog glob 95 ir95:=⟨ir95.slots,ks95,hi95,Tryd.f95,Tryd.func95,by kernel_rfl,by kernel_rfl⟩
theorem k96 : FnOk Tryd.prog glob 96 ir96:=⟨ir96.slots,ks96,hi96,Tryd.f96,Tryd.func96,by kernel_rfl,by kernel_rfl⟩
theorem k97 : FnOk Tryd.prog glob 97 ir97:=⟨ir97.slots,ks97,hi97,Tryd.f97,Tryd.func97,by kernel_rfl,by kernel_rfl⟩
theorem k100 : FnOk Tryd.prog glob 100 ir100:=⟨ir100.slots,ks100,hi100,Tryd.f100,Tryd.func100,by kernel_rfl,by kernel_rfl⟩
theorem k101 : FnOk Tryd.prog glob 101 ir101:=⟨ir101.slots,ks101,hi101,Tryd.f101,Tryd.func101,by kernel_rfl,by kernel_rfl⟩
theorem k103 : FnOk Tryd.prog glob 103 ir103:=⟨ir103.slots,ks103,hi103,Tryd.f103,Tryd.func103,by kernel_rfl,by kernel_rfl⟩
theorem k128 : FnOk Tryd.prog glob 128 ir128:=⟨ir128.slots,ks128,hi128,Tryd.f128,Tryd.func128,by kernel_rfl,by kernel_rfl⟩
theorem k129 : FnOk Tryd.prog glob 129 ir129:=⟨ir129.slots,ks129,hi129,Tryd.f129,Tryd.func129,by kernel_rfl,by kernel_rfl⟩
theorem k130 : FnOk Tryd.prog glob 130 ir130:=⟨ir130.slots,ks130,hi130,Tryd.f130,Tryd.func130,by kernel_rfl,by kernel_rfl⟩
theorem k131 : FnOk Tryd.prog glob 131 ir131:=⟨ir131.slots,ks131,hi131,Tryd.f131,Tryd.func131,by kernel_rfl,by kernel_rfl⟩
theorem fns_ok : ∀ f fi,E.fn f = some fi → FnOk Tryd.prog glob f fi:=by
  intro f fi h
  unfold E fnT at h
  simp only at h
  split at h
  · injection h with h; subst h; exact k3
  · injection h with h; subst h; exact k7
  · injection h with h; subst h; exact k8
  · injection h with h; subst h; exact k9
  · injection h with h; subst h; exact k10
  · injection h with h; subst h; exact k11
  · injection h with h; subst h; exact k12
  · injection h with h; subst h; exact k13
  · injection h with h; subst h; exact k14
  · injection h with h; subst h; exact k15
  · injection h with h; subst h; exact k16
  · injection h with h; subst h; exact k17
  · injection h with h; subst h; exact k18
  · injection h with h; subst h; exact k19
  · injection h with h; subst h; exact k20
  · injection h with h; subst h; exact k21
  · injection h with h; subst h; exact k22
  · injection h with h; subst h; exact k23
  · injection h with h; subst h; exact k24
  · injection h with h; subst h; exact k25
  · injection h with h; subst h; exact k26
  · injection h with h; subst h; exact k32
  · injection h with h; subst h; exact k34
  · injection h with h; subst h; exact k36
  · injection h with h; subst h; exact k40
  · injection h with h; subst h; exact k43
  · injection h with h; subst h; exact k44
  · injection h with h; subst h; exact k45
  · injection h with h; subst h; exact k46
  · injection h with h; subst h; exact k47
  · injection h with h; subst h; exact k48
  · injection h with h; subst h; exact k49
  · injection h with h; subst h; exact k50
  · injection h with h; subst h; exact k51
  · injection h with h; subst h; exact k52
  · injection h with h; subst h; exact k53
  · injection h with h; subst h; exact k54
  · injection h with h; subst h; exact k55
  · injection h with h; subst h; exact k56
  · injection h with h; subst h; exact k57
  · injection h with h; subst h; exact k58
  · injection h with h; subst h; exact k59
  · injection h with h; subst h; exact k60
  · injection h with h; subst h; exact k61
  · injection h with h; subst h; exact k62
  · injection h with h; subst h; exact k63
  · injection h with h; subst h; exact k64
  · injection h with h; subst h; exact k65
  · injection h with h; subst h; exact k66
  · injection h with h; subst h; exact k67
  · injection h with h; subst h; exact k68
  · injection h with h; subst h; exact k69
  · injection h with h; subst h; exact k70
  · injection h with h; subst h; exact k71
  · injection h with h; subst h; exact k72
  · injection h with h; subst h; exact k73
  · injection h with h; subst h; exact k74
  · injection h with h; subst h; exact k75
  · injection h with h; subst h; exact k76
  · injection h with h; subst h; exact k77
  · injection h with h; subst h; exact k78
  · injection h with h; subst h; exact k79
  · injection h with h; subst h; exact k80
  · injection h with h; subst h; exact k81
  · injection h with h; subst h; exact k82
  · injection h with h; subst h; exact k84
  · injection h with h; subst h; exact k85
  · injection h with h; subst h; exact k86
  · injection h with h; subst h; exact k87
  · injection h with h; subst h; exact k89
  · injection h with h; subst h; exact k90
  · injection h with h; subst h; exact k91
  · injection h with h; subst h; exact k92
  · injection h with h; subst h; exact k93
  · injection h with h; subst h; exact k94
  · injection h with h; subst h; exact k95
  · injection h with h; subst h; exact k96
  · injection h with h; subst h; exact k97
  · injection h with h; subst h; exact k100
  · injection h with h; subst h; exact k101
  · injection h with h; subst h; exact k103
  · injection h with h; subst h; exact k128
  · injection h with h; subst h; exact k129
  · injection h with h; subst h; exact k130
  · injection h with h; subst h; exact k131
  · cases h
end Go.Vm.P4D

/- Chapter 04: what the laws' arguments hold,as plain data: lists. -/
set_option maxRecDepth 100000
namespace Go.Vm.P4
open Go Go.Vm Go.ChangeShapes
def Old (W : World) (b : Nat) : Prop:=b < W.heap.size
theorem list_of {α : Type} {Q : Nat → α → Prop} : ∀ n : Nat,(∀ i,i < n → ∃ a,Q i a) → ∃ l : List α,l.length = n ∧ ∀ i a,l[i]? = some a → Q i a
  | 0,_ => ⟨[],rfl,fun i a h => by simp at h⟩
  | n + 1,h => by
    obtain ⟨l,hl,hq⟩:=list_of n fun i hi => h i (by omega)
    obtain ⟨a,ha⟩:=h n (by omega)
    refine ⟨l ++ [a],by simp [hl],fun i b hb => ?_⟩
    by_cases hi : i < n
    · rw [List.getElem?_append_left (by omega)] at hb; exact hq i b hb
    · have hlt:=(List.getElem?_eq_some_iff.1 hb).1
      have e : i = n:=by simp at hlt; omega
      subst e
      rw [List.getElem?_append_right (by omega),hl,Nat.sub_self] at hb
      simp at hb; subst hb; exact ha
section
variable {H : Type} {enc : TypeId × Value → H} {P : Program} {W : World} {sp : Nat → Bool} {held : Bool}
def Holds (W : World) (ds : List D) (cs : List Value) : Prop:=cs.length = ds.length ∧ ∀ (j : Nat) d,ds[j]? = some d → ∃ c,cs[j]? = some c ∧ c.oneCell' = true ∧ RepD (Old W) W d c
theorem rd_slice {t e : TypeId} {α : Type} {en : α → List D} {sz : Nat} (ht : P.underlying t = some (.slice e)) (hsz : P.cellsOf e = sz) (hs0 : 0 < sz)
    (hel : ∀ n cs x,DataW.trod enc P W 0 sp held n e cs = some x → ∃ a : α,(en a).length = sz ∧ Holds W (en a) cs)
    {n : Nat} {cs : List Value} {x : DataW H × List MemPlace} (h : DataW.trod enc P W 0 sp held n t cs = some x) : ∃ (b : Bool) (l : List α),Holds W [slD b sz (l.map en)] cs:=by
  rcases DataW.trod_slice ht h with ⟨rfl,_⟩ | ⟨a,len,cap,elems,rest,n',rfl,rfl,_,_,hlc,_,hlen,hE,_,_⟩
  · refine ⟨true,[],rfl,fun j d hj => ?_⟩
    have e0 : j = 0:=by have:=(List.getElem?_eq_some_iff.1 hj).1; simp at this; omega
    subst e0
    simp only [List.getElem?_cons_zero,Option.some.injEq] at hj
    subst hj
    exact ⟨_,rfl,rfl,.nil⟩
  · have hspot : 0 < len → a.spot = none:=by
      intro h0
      have hb:=hE 0 h0
      rw [List.getElem?_eq_getElem (by omega),hsz] at hb
      obtain ⟨cs,hcs,htr⟩:=Option.bind_eq_some_iff.1 hb
      obtain ⟨y,hy,hl,hh⟩:=hel _ _ _ htr
      have hj0 : 0 < (en y).length:=by omega
      obtain ⟨c,hc,_,_⟩:=hh 0 _ (List.getElem?_eq_getElem hj0)
      have hcell:=(World.cells?_some hcs).2.2 0 hs0
      rw [hc] at hcell
      have:=World.cell?_spot hcell
      simpa [Addr.add] using this
    have key : ∀ i,i < len → ∃ y : α,(en y).length = sz ∧ ∀ j d,(en y)[j]? = some d → ∃ c,W.cell? ⟨a.block,a.off + (i * sz + j),none⟩ = some c ∧ c.oneCell' = true ∧ RepD (Old W) W d c ∧ a.spot = none ∧ a.block < W.heap.size:=by
      intro i hi
      have hb:=hE i hi
      rw [List.getElem?_eq_getElem (by omega),hsz] at hb
      obtain ⟨cs,hcs,htr⟩:=Option.bind_eq_some_iff.1 hb
      obtain ⟨y,hy,hl,hh⟩:=hel _ _ _ htr
      refine ⟨y,hy,fun j d hj => ?_⟩
      obtain ⟨c,hc,h1,h2⟩:=hh j d hj
      have hjs : j < sz:=by have:=(List.getElem?_eq_some_iff.1 hj).1; omega
      have hcell:=(World.cells?_some hcs).2.2 j hjs
      rw [hc] at hcell
      have hbl:=World.cells?_block hcs hs0
      have hsp' : a.spot = none:=hspot (by omega)
      have hblk : a.block < W.heap.size:=by
        have : (a.add (i * sz)).block = a.block:=block_add a _
        omega
      refine ⟨c,?_,h1,h2,hsp',hblk⟩
      obtain ⟨bb,oo,ss⟩:=a
      simp only at hsp'
      subst hsp'
      have ea : ((⟨bb,oo,none⟩ : Addr).add (i * sz)).add j = ⟨bb,oo + (i * sz + j),none⟩:=by
        rw [add_none,add_none,Nat.add_assoc]
      rw [ea] at hcell
      exact hcell
    obtain ⟨l,hl,hq⟩:=list_of len key
    refine ⟨false,l,rfl,fun j d hj => ?_⟩
    have e0 : j = 0:=by have:=(List.getElem?_eq_some_iff.1 hj).1; simp at this; omega
    subst e0
    simp only [List.getElem?_cons_zero,Option.some.injEq] at hj
    subst hj
    refine ⟨_,rfl,rfl,?_⟩
    have hgen : ∀ (i : Nat) (e : List D),(l.map en)[i]? = some e → ∃ y,l[i]? = some y ∧ e = en y:=by
      intro i e he
      rw [List.getElem?_map,Option.map_eq_some_iff] at he
      obtain ⟨y,h1,h2⟩:=he
      exact ⟨y,h1,h2.symm⟩
    have hsl:=RepD.sl (F:=Old W) (W:=W) sz (l.map en) a cap (fun i j => (W.cell? ⟨a.block,a.off + (i * sz + j),none⟩).getD undef) (fun hne => by
        have : 0 < (l.map en).length:=List.length_pos_iff.2 hne
        obtain ⟨y,hy1,hy2⟩:=hgen 0 _ (List.getElem?_eq_getElem this)
        obtain ⟨h1,h2⟩:=hq 0 y hy1
        obtain ⟨c,_,_,_,h3,_⟩:=h2 0 _ (List.getElem?_eq_getElem (show 0 < (en y).length by omega))
        exact h3) (by simp [hl,hlc])
      (fun e he => by
        obtain ⟨y,hy,rfl⟩:=List.mem_map.1 he
        obtain ⟨i,hi,hiy⟩:=List.mem_iff_getElem.1 hy
        exact (hq i y (by rw [List.getElem?_eq_getElem hi,hiy])).1)
      (fun i e j d hi hj => by
        obtain ⟨y,hy1,rfl⟩:=hgen i e hi
        obtain ⟨c,c1,c2,c3,c4,c5⟩:=(hq i y hy1).2 j d hj
        rw [c1]
        exact ⟨c5,rfl,c2⟩)
      (fun i e j d hi hj => by
        obtain ⟨y,hy1,rfl⟩:=hgen i e hi
        obtain ⟨c,c1,c2,c3,c4,c5⟩:=(hq i y hy1).2 j d hj
        rw [c1]
        exact c3)
    rw [List.length_map,hl] at hsl
    have : slD false sz (l.map en) = .sl sz (l.map en):=by cases l.map en <;> rfl
    rw [this]
    exact hsl
theorem holds_one {d : D} {v : Value} (h1 : v.oneCell' = true) (h2 : RepD (Old W) W d v) : Holds W [d] [v]:=by
  refine ⟨rfl,fun j e hj => ?_⟩
  have e0 : j = 0:=by have:=(List.getElem?_eq_some_iff.1 hj).1; simp at this; omega
  subst e0
  simp only [List.getElem?_cons_zero,Option.some.injEq] at hj
  subst hj
  exact ⟨_,rfl,h1,h2⟩
theorem holds_app {a b : List D} {x y : List Value} (h1 : Holds W a x) (h2 : Holds W b y) : Holds W (a ++ b) (x ++ y):=by
  refine ⟨by rw [List.length_append,List.length_append,h1.1,h2.1],fun j d hj => ?_⟩
  by_cases hl : j < a.length
  · rw [List.getElem?_append_left hl] at hj
    obtain ⟨c,h3,h4⟩:=h1.2 j d hj
    exact ⟨c,by rw [List.getElem?_append_left (by rw [h1.1]; exact hl)]; exact h3,h4⟩
  · rw [List.getElem?_append_right (by omega)] at hj
    obtain ⟨c,h3,h4⟩:=h2.2 _ d hj
    exact ⟨c,by rw [List.getElem?_append_right (by rw [h1.1]; omega),h1.1]; exact h3,h4⟩
theorem two_of {cs : List Value} (h : cs.length = 2) : ∃ a b,cs = [a,b]:=by
  match cs,h with
  | [a,b],_ => exact ⟨a,b,rfl⟩
theorem four_of {cs : List Value} (h : cs.length = 4) : ∃ a b c d,cs = [a,b,c,d]:=by
  match cs,h with
  | [a,b,c,d],_ => exact ⟨a,b,c,d,rfl⟩
theorem six_of {cs : List Value} (h : cs.length = 6) : ∃ a b c d e f,cs = [a,b,c,d,e,f]:=by
  match cs,h with
  | [a,b,c,d,e,f],_ => exact ⟨a,b,c,d,e,f,rfl⟩
theorem ds_agg {ds : List D} {vs : Array Value} (h : Holds W ds vs.toList) : RepD (Old W) W (.agg ds) (.agg vs):=by
  refine .agg _ _ h.1 fun j e hj => ?_
  obtain ⟨w,h1,_,h3⟩:=h.2 j e hj
  have : vs.getD j undef = w:=by
    simp only [Array.getElem?_toList] at h1
    simp [Array.getD_eq_getD_getElem?,h1]
  rw [this]; exact h3
theorem ds_one {d : D} {v : Value} (h : Holds W [d] [v]) : RepD (Old W) W d v:=by
  obtain ⟨w,h1,_,h3⟩:=h.2 0 d rfl
  simp only [List.getElem?_cons_zero,Option.some.injEq] at h1
  subst h1; exact h3
theorem cell_lt {b o : Nat} {v : Value} (h : W.cell? ⟨b,o,none⟩ = some v) : b < W.heap.size:=by
  unfold World.cell? at h
  by_cases hb : b < W.heap.size
  · exact hb
  · rw [show W.heap[b]? = none from Array.getElem?_eq_none (by omega)] at h
    simp at h
end
end Go.Vm.P4

/- Chapter 04: what its texts share: arithmetic that wraps,lists that grow. -/
set_option maxRecDepth 100000
namespace Go.Vm.P4
open Go Go.Vm
def ad (a b : Int) : Int:=wrp .i64 (a + b)
def sb (a b : Int) : Int:=wrp .i64 (a - b)
def ml (a b : Int) : Int:=wrp .i64 (a * b)
def fnz : List Int → Int
  | [] => 0
  | x :: r => if x = 0 then fnz r else x
theorem fnz_cons (x : Int) (r : List Int) : fnz (x :: r) = if x = 0 then fnz r else x:=rfl
def vK (k sz : Nat) (acc : List (List D)) : AV:=match acc with | [] => .imm .nil | _ => .ref k sz 0 acc.length
def oK (sz : Nat) (acc : List (List D)) : List AO:=match acc with | [] => [] | _ => [.arr sz acc]
theorem src_0 {st : List AO} {b : Bool} {sz : Nat} : srcOf st (.imm (slD b sz [])) = some (if b then 0 else sz,[]):=by cases b <;> rfl
theorem fz0 : ∀ l : List Int,fnz l = 0 → ∀ x ∈ l,x = 0
  | [],_,x,hx => by cases hx
  | y :: l,h,x,hx => by
    rw [fnz_cons] at h
    by_cases hy : y = 0
    · rw [if_pos hy] at h
      rcases List.mem_cons.1 hx with rfl | hx
      · exact hy
      · exact fz0 l h x hx
    · rw [if_neg hy] at h; exact absurd h hy
theorem fnz_all : ∀ l : List Int,(∀ x ∈ l,x = 0) → fnz l = 0
  | [],_ => rfl
  | x :: l,h => by
    rw [fnz_cons,if_pos (h x (List.mem_cons_self))]
    exact fnz_all l (fun y hy => h y (List.mem_cons_of_mem _ hy))
structure Rg where
  lo : Int
  ex : Int
def enR (r : Rg) : List D:=[.int .i64 r.lo,.int .i64 r.ex]
attribute [go_sem] enR
def digits : List Rg → Int → List Int
  | [],_ => []
  | r :: b,n => (r.lo + n % r.ex) :: digits b (n / r.ex)
def nextP : List Rg → List Int → List Int
  | r :: b,x :: p => if x + 1 < r.lo + r.ex then (x + 1) :: p else r.lo :: nextP b p
  | _,p => p
theorem next_digits : ∀ (b : List Rg) (n : Int),(∀ r ∈ b,0 < r.ex) → 0 ≤ n → nextP b (digits b n) = digits b (n + 1)
  | [],n,_,_ => rfl
  | r :: b,n,h,hn => by
    have hr:=h r (List.mem_cons_self)
    have m0:=Int.emod_nonneg n (show r.ex ≠ 0 by omega)
    have m1:=Int.emod_lt_of_pos n hr
    have hd:=Int.emod_add_mul_ediv n r.ex
    have d0 : 0 ≤ n / r.ex:=Int.ediv_nonneg hn (by omega)
    have IH:=next_digits b (n / r.ex) (fun y hy => h y (List.mem_cons_of_mem _ hy)) d0
    simp only [digits,nextP]
    by_cases hc : r.lo + n % r.ex + 1 < r.lo + r.ex
    · rw [if_pos hc]
      have e1 : (n + 1) / r.ex = n / r.ex ∧ (n + 1) % r.ex = n % r.ex + 1:=by
        have:=(Int.ediv_emod_unique (a:=n + 1) (b:=r.ex) (r:=n % r.ex + 1) (q:=n / r.ex) hr).2 ⟨by omega,by omega,by omega⟩
        exact this
      rw [e1.1,e1.2]
      congr 1
      omega
    · rw [if_neg hc,IH]
      have e1 : (n + 1) / r.ex = n / r.ex + 1 ∧ (n + 1) % r.ex = 0:=by
        have:=(Int.ediv_emod_unique (a:=n + 1) (b:=r.ex) (r:=0) (q:=n / r.ex + 1) hr).2 ⟨by rw [Int.mul_add]; omega,by omega,by omega⟩
        exact this
      rw [e1.1,e1.2]
      congr 1
      omega
def lows (b : List Rg) : List Int:=b.map (·.lo)
theorem digits_zero : ∀ b : List Rg,digits b 0 = lows b
  | [] => rfl
  | r :: b => by
    simp only [digits,lows,List.map_cons,Int.zero_emod,Int.zero_ediv,Int.add_zero]
    congr 1
    exact digits_zero b
theorem digits_len : ∀ (b : List Rg) (n : Int),(digits b n).length = b.length
  | [],_ => rfl
  | r :: b,n => by simp only [digits,List.length_cons,digits_len b]
end Go.Vm.P4

/- Chapter 04: loops over lists. -/
set_option maxRecDepth 100000
namespace Go.Vm.P4
open Go Go.Vm
def runL {α β γ : Type} (g : β → α → β ⊕ γ) (e : β → γ) : β → List α → γ
  | a,[] => e a
  | a,x :: r => match g a x with | .inl b => runL g e b r | .inr c => c
theorem runL_nil {α β γ : Type} {g : β → α → β ⊕ γ} {e : β → γ} {a : β} : runL g e a [] = e a:=rfl
theorem runL_cons {α β γ : Type} {g : β → α → β ⊕ γ} {e : β → γ} {a : β} {x : α} {r : List α} : runL g e a (x :: r) = match g a x with | .inl b => runL g e b r | .inr c => c:=rfl
theorem runL_fold {α β γ : Type} {k : β → α → β} {e : β → γ} : ∀ (l : List α) (a : β),runL (fun b x => .inl (k b x)) e a l = e (l.foldl k a)
  | [],_ => rfl
  | x :: r,a => by rw [runL_cons]; exact runL_fold r _
theorem loop_from {α β γ : Type} {f : S → Option (AExit × S)} {h : S → S} {Φ : Option (AExit × S) → γ} (l : List α) (St : β → Nat → S) (I : β → Nat → Prop) (g : β → α → β ⊕ γ) (e : β → γ)
    (hs : ∀ a i x,I a i → i < l.length → l[i]? = some x → (Φ (rnd f h (St a i)) = match g a x with | .inl b => Φ (rnd f h (St b (i + 1))) | .inr r => r) ∧ ∀ b,g a x = .inl b → I b (i + 1))
    (he : ∀ a,I a l.length → Φ (rnd f h (St a l.length)) = e a) : ∀ (r : List α) (i : Nat) (a : β),l.drop i = r → i ≤ l.length → I a i → Φ (rnd f h (St a i)) = runL g e a r
  | [],i,a,hd,hi,hI => by
    have hl:=drop_n hd
    have : i = l.length:=by omega
    subst this
    rw [he a hI]; rfl
  | x :: r,i,a,hd,hi,hI => by
    obtain ⟨h1,h2,h3⟩:=drop_c hd
    obtain ⟨k1,k2⟩:=hs a i x hI h2 h1
    rw [k1,runL_cons]
    cases hg : g a x with
    | inr c => rfl
    | inl b => exact loop_from l St I g e hs he r (i + 1) b h3 (by omega) (k2 b hg)
theorem loop_run {α β γ : Type} {f : S → Option (AExit × S)} {h : S → S} {Φ : Option (AExit × S) → γ} (l : List α) (St : β → Nat → S) (I : β → Nat → Prop) (g : β → α → β ⊕ γ) (e : β → γ) (a : β) (h0 : I a 0)
    (hs : ∀ a i x,I a i → i < l.length → l[i]? = some x → (Φ (rnd f h (St a i)) = match g a x with | .inl b => Φ (rnd f h (St b (i + 1))) | .inr r => r) ∧ ∀ b,g a x = .inl b → I b (i + 1))
    (he : ∀ a,I a l.length → Φ (rnd f h (St a l.length)) = e a) : Φ (rnd f h (St a 0)) = runL g e a l :=
  loop_from l St I g e hs he l 0 a rfl (Nat.zero_le _) h0
theorem loop_fold {α β γ : Type} {f : S → Option (AExit × S)} {h : S → S} {Φ : Option (AExit × S) → γ} (l : List α) (St : β → Nat → S) (I : β → Nat → Prop) (k : β → α → β) (e : β → γ) (a : β) (h0 : I a 0)
    (hs : ∀ a i x,I a i → i < l.length → l[i]? = some x → Φ (rnd f h (St a i)) = Φ (rnd f h (St (k a x) (i + 1))) ∧ I (k a x) (i + 1))
    (he : ∀ a,I a l.length → Φ (rnd f h (St a l.length)) = e a) : Φ (rnd f h (St a 0)) = e (l.foldl k a):=by
  rw [← runL_fold (k:=k) (e:=e) l a]
  exact loop_run l St I (fun a x => .inl (k a x)) e a h0 (fun a i x hI h1 h2 => ⟨(hs a i x hI h1 h2).1,fun b hb => by injection hb with hb; subst hb; exact (hs a i x hI h1 h2).2⟩) he
theorem cast_0 : ((0 : Nat) : Int) = 0:=rfl
abbrev Bx:=List Rg
abbrev enB (b : Bool) (l : Bx) : D:=slD b 2 (l.map enR)
def enRD (r : Rg) : D:=.agg (enR r)
attribute [go_sem] enRD
def many (b : Bx) : Int:=b.foldl (fun n r => ml n r.ex) 1
end Go.Vm.P4

/- Chapter 04: what the laws' arguments hold: boxes,numbers. -/
set_option maxRecDepth 100000
namespace Go.Vm.P4D
open Go Go.Vm Go.Vm.P4 Go.Proofs Go.ChangeShapes
section
variable {H : Type} {enc : TypeId × Value → H} {W : World} {sp : Nat → Bool} {held : Bool}
theorem cells3 : Tryd.prog.cellsOf 3 = 1:=by kernel_rfl
theorem cellsBox : Tryd.prog.cellsOf 23 = 1:=by kernel_rfl
theorem cellsInts : Tryd.prog.cellsOf 24 = 1:=by kernel_rfl
theorem cellsRange : Tryd.prog.cellsOf 57 = 2:=by kernel_rfl
theorem rd_int {n : Nat} {cs : List Value} {x : DataW H × List MemPlace} (h : DataW.trod enc Tryd.prog W 0 sp held n 3 cs = some x) : ∃ a : Int,(ic a).length = 1 ∧ Holds W (ic a) cs:=by
  obtain ⟨k,rfl,_,_⟩:=DataW.trod_int Tryd.underlying3 h
  exact ⟨k,rfl,holds_one rfl (.int _ _)⟩
theorem rd_ints {n : Nat} {cs : List Value} {x : DataW H × List MemPlace} (h : DataW.trod enc Tryd.prog W 0 sp held n 24 cs = some x) : ∃ (b : Bool) (l : List Int),Holds W [slD b 1 (l.map ic)] cs :=
  rd_slice Tryd.underlying24 cells3 (by decide) (fun _ _ _ h => rd_int h) h
theorem rd_range {n : Nat} {cs : List Value} {x : DataW H × List MemPlace} (h : DataW.trod enc Tryd.prog W 0 sp held n 57 cs = some x) : ∃ a : Rg,(enR a).length = 2 ∧ Holds W (enR a) cs:=by
  obtain ⟨xs,n',_,_,hl,hn,hf⟩:=DataW.trod_struct Tryd.underlying57 h
  rw [cellsRange] at hl
  obtain ⟨a,b,rfl⟩:=two_of hl
  have f0:=(hf 0 _ rfl).trans (List.getElem?_eq_getElem (show 0 < xs.length by rw [hn]; decide))
  have f1:=(hf 1 _ rfl).trans (List.getElem?_eq_getElem (show 1 < xs.length by rw [hn]; decide))
  simp only [List.getElem_toArray,List.getElem_cons_zero,List.getElem_cons_succ,cells3,List.drop_zero,List.drop_succ_cons,List.take_succ_cons,List.take_zero,List.take_nil] at f0 f1
  obtain ⟨p,e1,_,_⟩:=DataW.trod_int Tryd.underlying3 f0
  obtain ⟨q,e2,_,_⟩:=DataW.trod_int Tryd.underlying3 f1
  simp only [List.cons.injEq,and_true] at e1 e2
  subst e1 e2
  exact ⟨⟨p,q⟩,rfl,holds_app (a:=[.int .i64 p]) (x:=[.int .i64 p]) (holds_one rfl (.int _ _)) (holds_one rfl (.int _ _))⟩
theorem rd_box {n : Nat} {cs : List Value} {x : DataW H × List MemPlace} (h : DataW.trod enc Tryd.prog W 0 sp held n 23 cs = some x) : ∃ (b : Bool) (l : Bx),Holds W [enB b l] cs :=
  rd_slice Tryd.underlying23 cellsRange (by decide) (fun _ _ _ h => rd_range h) h
theorem arg_box {r : Reach} {b0 : Nat} {v : Value} {d : DataW H} {p : List MemPlace} (hv : Value.okWide Tryd.prog W r b0 23 v) (h : DataW.Trod enc Tryd.prog W 0 sp held 23 v d p) : ∃ (b : Bool) (l : Bx),RepD (Old W) W (enB b l) v:=by
  obtain ⟨n,h⟩:=h
  obtain ⟨a,len,cap,rfl⟩:=WideShapes.okWide_slice Tryd.underlying23 hv
  obtain ⟨b,l,hc⟩:=rd_box h
  exact ⟨b,l,ds_one hc⟩
theorem arg_ints {r : Reach} {b0 : Nat} {v : Value} {d : DataW H} {p : List MemPlace} (hv : Value.okWide Tryd.prog W r b0 24 v) (h : DataW.Trod enc Tryd.prog W 0 sp held 24 v d p) : ∃ (b : Bool) (l : List Int),RepD (Old W) W (slD b 1 (l.map ic)) v:=by
  obtain ⟨n,h⟩:=h
  obtain ⟨a,len,cap,rfl⟩:=WideShapes.okWide_slice Tryd.underlying24 hv
  obtain ⟨b,l,hc⟩:=rd_ints h
  exact ⟨b,l,ds_one hc⟩
end
end Go.Vm.P4D

/- Chapter 04: what the listed variables hold. -/
set_option maxRecDepth 100000
namespace Go.Vm.P4D
open Go Go.Vm Go.Vm.P4 Go.Proofs Go.ChangeShapes Go.Proofs.YtgbmhofpndjdoaaDoor
theorem gBnds : Tryd.prog.globalNamed "halation/image.boundaries" = some 0:=by kernel_rfl
theorem tBnds : (Tryd.prog.globals[0]?).map (·.type) = some 142:=by kernel_rfl
theorem gKinds : Tryd.prog.globalNamed "halation/num.kinds" = some 1:=by kernel_rfl
theorem tKinds : (Tryd.prog.globals[1]?).map (·.type) = some 149:=by kernel_rfl
theorem cellsBfn : Tryd.prog.cellsOf 139 = 1:=by kernel_rfl
theorem cellsBnd : Tryd.prog.cellsOf 141 = 2:=by kernel_rfl
theorem cellsBnds : Tryd.prog.cellsOf 142 = 6:=by kernel_rfl
theorem cells4 : Tryd.prog.cellsOf 4 = 1:=by kernel_rfl
theorem cells9 : Tryd.prog.cellsOf 9 = 1:=by kernel_rfl
theorem cellsKind : Tryd.prog.cellsOf 148 = 4:=by kernel_rfl
theorem cellsKinds : Tryd.prog.cellsOf 149 = 44:=by kernel_rfl
abbrev laidW : List (String × DataW Unit):=[("halation/num.kinds",Rows.laid_halation_num_kinds),("halation/image.boundaries",Rows.laid_halation_image_boundaries)]
abbrev nmB (c : UInt8) : List UInt8:=[104,97,108,97,116,105,111,110,47,105,109,97,103,101,46,98,111,117,110,100,97,114,105,101,115,36,c]
theorem bnd_of {W : World} {sp : Nat → Bool} {n : Nat} {cs : List Value} {x : DataW (List UInt8) × List MemPlace} {g : Int} {c : UInt8} {f : FuncId} (h : DataW.trod (funcToken Tryd.prog) Tryd.prog W 0 sp true n 141 cs = some x) (hx : x.1 = .agg [.lit (.int .i64 g),.held (nmB c)])
    (hf : ∀ {k : Nat} {v : Value} {p : List MemPlace},DataW.trod (funcToken Tryd.prog) Tryd.prog W 0 sp true k 139 [v] = some (.held (nmB c),p) → v = .func (.func f) #[] #[]) :
    cs = [.int .i64 g,.func (.func f) #[] #[]]:=by
  obtain ⟨xs,n',hn',ex,hl,hn,hE⟩:=DataW.trod_struct Tryd.underlying141 h
  rw [cellsBnd] at hl
  obtain ⟨a,b,rfl⟩:=two_of hl
  have f0:=(hE 0 _ rfl).trans (List.getElem?_eq_getElem (show 0 < xs.length by rw [hn]; decide))
  have f1:=(hE 1 _ rfl).trans (List.getElem?_eq_getElem (show 1 < xs.length by rw [hn]; decide))
  have hn2 : xs.length = 2:=hn
  match xs,hn2 with
  | [x0,x1],_ =>
    simp only [List.getElem_toArray,List.getElem_cons_zero,List.getElem_cons_succ,cells3,cellsBfn,List.drop_zero,List.drop_succ_cons,List.take_succ_cons,List.take_zero,List.take_nil] at f0 f1
    obtain ⟨p,e1,e1',_⟩:=DataW.trod_int Tryd.underlying3 f0
    rw [ex] at hx
    simp only [List.map_cons,List.map_nil,DataW.agg.injEq,List.cons.injEq,and_true] at hx
    obtain ⟨h0,h1⟩:=hx
    rw [e1'] at h0
    simp only [DataW.lit.injEq,Lit.int.injEq,true_and] at h0
    have hf2 : x1 = (.held (nmB c),x1.2):=by rw [← h1]
    rw [hf2] at f1
    have e2:=hf f1
    simp only [List.cons.injEq,and_true] at e1 e2
    rw [e1,e2,h0]
def bndsV : List Value:=[.int .i64 0,.func (.func 128) #[] #[],.int .i64 1,.func (.func 129) #[] #[],.int .i64 2,.func (.func 131) #[] #[]]
theorem bnds_cells {W : World} (h : laidMetH Tryd.prog laidW W) : ∀ j,W.cell? ⟨0,j,none⟩ = bndsV[j]?:=by
  obtain ⟨g,t,cs,fuel,p,hg,ht,hv,hd⟩:=h.funcs (List.mem_cons_of_mem _ (List.mem_singleton.2 rfl))
  obtain rfl:=Option.some.inj (gBnds.symm.trans hg)
  obtain rfl:=Option.some.inj (tBnds.symm.trans ht)
  obtain ⟨xs,m,_,ex,hl,hn,hE⟩:=DataW.trod_array Tryd.underlying142 hd
  rw [cellsBnds] at hl
  have key : cs.toList = bndsV:=by
    obtain ⟨a,b,c,d,e,f,hcs⟩:=six_of hl
    rw [hcs] at hE ⊢
    match xs,hn with
    | [x0,x1,x2],_ =>
      have e0:=hE 0 (by decide)
      have e1:=hE 1 (by decide)
      have e2:=hE 2 (by decide)
      simp only [cellsBnd,Nat.zero_mul,Nat.one_mul,Nat.reduceMul,List.drop_zero,List.drop_succ_cons,List.take_succ_cons,List.take_zero,List.getElem?_cons_zero,List.getElem?_cons_succ] at e0 e1 e2
      have hx : (x0.1 = .agg [.lit (.int .i64 0),.held (nmB 49)]) ∧ (x1.1 = .agg [.lit (.int .i64 1),.held (nmB 50)]) ∧ (x2.1 = .agg [.lit (.int .i64 2),.held (nmB 51)]):=by
        have h0:=congrArg Prod.fst ex
        simp only [List.map_cons,List.map_nil] at h0
        have h1 : (DataW.agg [DataW.agg [.lit (.int .i64 0),.held (nmB 49)],.agg [.lit (.int .i64 1),.held (nmB 50)],.agg [.lit (.int .i64 2),.held (nmB 51)]] : DataW (List UInt8)) = .agg [x0.1,x1.1,x2.1]:=h0
        simp only [DataW.agg.injEq,List.cons.injEq,and_true] at h1
        exact ⟨h1.1.symm,h1.2.1.symm,h1.2.2.symm⟩
      have w0:=bnd_of e0 hx.1 (f:=128) (fun h => Go.func_of_trod (f0:=128) Tryd.underlying139 (by kernel_rfl) h)
      have w1:=bnd_of e1 hx.2.1 (f:=129) (fun h => Go.func_of_trod (f0:=129) Tryd.underlying139 (by kernel_rfl) h)
      have w2:=bnd_of e2 hx.2.2 (f:=131) (fun h => Go.func_of_trod (f0:=131) Tryd.underlying139 (by kernel_rfl) h)
      simp only [List.cons.injEq,and_true] at w0 w1 w2
      obtain ⟨a1,a2⟩:=w0
      obtain ⟨b1,b2⟩:=w1
      obtain ⟨c1,c2⟩:=w2
      rw [a1,a2,b1,b2,c1,c2]
      rfl
  intro j
  have:=World.var?_cell hg hv j
  rw [this,← key,Array.getElem?_toList]
theorem kind_of {H : Type} {enc : TypeId × Value → H} {W : World} {sp : Nat → Bool} {n : Nat} {cs : List Value} {x : DataW H × List MemPlace} {s : List UInt8} {w : Int} {a b : Bool} (h : DataW.trod enc Tryd.prog W 0 sp false n 148 cs = some x)
    (hx : x.1 = .agg [.lit (.string s),.lit (.int .i64 w),.lit (.bool a),.lit (.bool b)]) : cs = [.string ⟨s.toArray⟩,.int .i64 w,.bool a,.bool b]:=by
  obtain ⟨xs,n',_,ex,hl,hn,hE⟩:=DataW.trod_struct Tryd.underlying148 h
  rw [cellsKind] at hl
  obtain ⟨q0,q1,q2,q3,rfl⟩:=four_of hl
  have f0:=(hE 0 _ rfl).trans (List.getElem?_eq_getElem (show 0 < xs.length by rw [hn]; decide))
  have f1:=(hE 1 _ rfl).trans (List.getElem?_eq_getElem (show 1 < xs.length by rw [hn]; decide))
  have f2:=(hE 2 _ rfl).trans (List.getElem?_eq_getElem (show 2 < xs.length by rw [hn]; decide))
  have f3:=(hE 3 _ rfl).trans (List.getElem?_eq_getElem (show 3 < xs.length by rw [hn]; decide))
  have hn4 : xs.length = 4:=hn
  match xs,hn4 with
  | [x0,x1,x2,x3],_ =>
    simp only [List.getElem_toArray,List.getElem_cons_zero,List.getElem_cons_succ,cells3,cells4,cells9,List.drop_zero,List.drop_succ_cons,List.take_succ_cons,List.take_zero,List.take_nil] at f0 f1 f2 f3
    obtain ⟨p0,e0,e0',_⟩:=DataW.trod_string Tryd.underlying9 f0
    obtain ⟨p1,e1,e1',_⟩:=DataW.trod_int Tryd.underlying3 f1
    obtain ⟨p2,e2,e2'⟩:=DataW.trod_bool Tryd.underlying4 f2
    obtain ⟨p3,e3,e3'⟩:=DataW.trod_bool Tryd.underlying4 f3
    rw [ex] at hx
    simp only [List.map_cons,List.map_nil,DataW.agg.injEq,List.cons.injEq,and_true] at hx
    obtain ⟨h0,h1,h2,h3⟩:=hx
    rw [e0'] at h0
    rw [e1'] at h1
    rw [e2'] at h2
    rw [e3'] at h3
    simp only [DataW.lit.injEq,Lit.int.injEq,Lit.string.injEq,Lit.bool.injEq,true_and] at h0 h1 h2 h3
    simp only [List.cons.injEq,and_true] at e0 e1 e2 e3
    rw [e0,e1,e2,e3,h1,h2,h3,← h0]
def kindsL : List (List UInt8 × Int × Bool × Bool):=[([98,111,111,108],1,false,false),([117,56],8,true,false),([117,49,54],16,true,false),([117,51,50],32,true,false),([117,54,52],64,true,false),([105,56],8,true,true),([105,49,54],16,true,true),([105,51,50],32,true,true),([105,54,52],64,true,true),([102,51,50],32,false,false),([99,54,52],64,false,false)]
def kv (k : List UInt8 × Int × Bool × Bool) : List Value:=[.string ⟨k.1.toArray⟩,.int .i64 k.2.1,.bool k.2.2.1,.bool k.2.2.2]
def kd (k : List UInt8 × Int × Bool × Bool) : DataW Unit:=.agg [.lit (.string k.1),.lit (.int .i64 k.2.1),.lit (.bool k.2.2.1),.lit (.bool k.2.2.2)]
theorem laidK : (Rows.laid_halation_num_kinds : DataW Unit) = .agg (kindsL.map kd):=rfl
theorem by4 {α : Type} (f : Nat → List α) : ∀ (n : Nat) (l : List α),l.length = 4 * n → (∀ i,i < n → (l.drop (i * 4)).take 4 = f i) → l = (List.range n).flatMap f
  | 0,l,h,_ => by simpa using h
  | n + 1,l,h,hf => by
    have h1:=by4 f n (l.take (4 * n)) (by simp; omega) (fun i hi => by
      rw [← hf i (by omega),List.drop_take,List.take_take,Nat.min_eq_left (by omega)])
    have h2:=hf n (by omega)
    rw [List.take_of_length_le (by simp; omega),Nat.mul_comm] at h2
    rw [List.range_succ,List.flatMap_append,← h1,List.flatMap_cons,List.flatMap_nil,List.append_nil,← h2,List.take_append_drop]
theorem kinds_cells {W : World} (h : laidMetH Tryd.prog laidW W) : ∀ j,W.cell? ⟨1,j,none⟩ = (kindsL.flatMap kv)[j]?:=by
  have h' : laidMet Tryd.prog [("halation/num.kinds",Rows.laid_halation_num_kinds)] W:=h.1
  obtain ⟨ps,⟨g,t,cs,fuel,p,q,hg,ht,hv,hd,_,_⟩,_,_⟩:=h'
  obtain rfl:=Option.some.inj (gKinds.symm.trans hg)
  obtain rfl:=Option.some.inj (tKinds.symm.trans ht)
  obtain ⟨xs,m,_,ex,hl,hn,hE⟩:=DataW.trod_array Tryd.underlying149 hd
  rw [cellsKinds] at hl
  have ex' : (DataW.agg (kindsL.map kd) : DataW Unit) = .agg (xs.map (·.1)):=by rw [← laidK]; exact congrArg Prod.fst ex
  injection ex' with ex'
  have key : cs.toList = kindsL.flatMap kv:=by
    have:=by4 (fun i => (kindsL[i]?.map kv).getD []) 11 cs.toList hl (fun i hi => by
      have e:=hE i hi
      rw [cellsKind] at e
      have hix : i < xs.length:=by omega
      rw [List.getElem?_eq_getElem hix] at e
      have hk : i < kindsL.length:=hi
      have hx : xs[i].1 = kd kindsL[i]:=by
        have h1 : (xs.map (·.1))[i]? = (kindsL.map kd)[i]?:=by rw [ex']
        rw [List.getElem?_map,List.getElem?_map,List.getElem?_eq_getElem hix,List.getElem?_eq_getElem hk] at h1
        exact Option.some.inj h1
      rw [kind_of e hx,List.getElem?_eq_getElem hk]
      rfl)
    rw [this]; rfl
  intro j
  have:=World.var?_cell hg hv j
  rw [this,← key,Array.getElem?_toList]
theorem rep_list {F : Nat → Prop} {W : World} {ds : List D} {vs : List Value} {b : Nat} (hF : F b) (hc : ∀ j,W.cell? ⟨b,j,none⟩ = vs[j]?) (hl : ds.length = vs.length) (h1 : ∀ v ∈ vs,v.oneCell' = true) (h : ∀ j d,ds[j]? = some d → RepD F W d (vs.getD j undef)) :
    RepD F W (.ptr ds) (.pointer (some ⟨b,0,none⟩)):=by
  refine .ptr _ ⟨b,0,none⟩ (fun j => vs.getD j undef) rfl (fun j d hj => ?_) h
  have hlt:=(List.getElem?_eq_some_iff.1 hj).1
  have e : vs.getD j undef = vs[j]'(by omega):=by rw [List.getD_eq_getElem?_getD,List.getElem?_eq_getElem (show j < vs.length by omega)]; rfl
  refine ⟨hF,?_,?_⟩
  · rw [Nat.zero_add,hc j,List.getElem?_eq_getElem (show j < vs.length by omega),e]
  · rw [e]; exact h1 _ (List.getElem_mem _)
theorem glob_ok {W : World} (h : laidMetH Tryd.prog laidW W) : ∀ g cs,glob g = some cs → RepD (Old W) W (.ptr cs) (.pointer (some ⟨g,0,none⟩)):=by
  intro g cs hg
  unfold glob at hg
  split at hg
  · rename_i e0
    subst e0
    injection hg with hg
    subst hg
    have hfn : ∀ f,RepD (Old W) W (.fn f [] []) (.func (.func f) #[] #[]):=fun f => .fn f [] [] #[] #[] rfl rfl (fun j d h => by simp at h) (fun j d h => by simp at h)
    have hc:=bnds_cells h
    refine rep_list (cell_lt (hc 0)) hc rfl (fun v hv => ?_) (fun j d hj => ?_)
    · simp only [bndsV,List.mem_cons,List.not_mem_nil,or_false] at hv
      rcases hv with rfl | rfl | rfl | rfl | rfl | rfl <;> rfl
    · have hlt:=(List.getElem?_eq_some_iff.1 hj).1
      have hlt : j < 6:=hlt
      match j,hlt,hj with
      | 0,_,hj => injection hj with hj; subst hj; exact .int _ _
      | 1,_,hj => injection hj with hj; subst hj; exact hfn _
      | 2,_,hj => injection hj with hj; subst hj; exact .int _ _
      | 3,_,hj => injection hj with hj; subst hj; exact hfn _
      | 4,_,hj => injection hj with hj; subst hj; exact .int _ _
      | 5,_,hj => injection hj with hj; subst hj; exact hfn _
  · split at hg
    · rename_i e1
      subst e1
      injection hg with hg
      subst hg
      have hc:=kinds_cells h
      have hd : dsOfCells (kindsL.flatMap kv) = some kindsD:=rfl
      obtain ⟨i1,i2,i3⟩:=rep_cells (F:=Old W) (W:=W) hd
      exact rep_list (cell_lt (hc 0)) hc i1 i2 i3
    · cases hg
end Go.Vm.P4D

/- slices.Insert of one number,where there is room. -/
set_option linter.unusedVariables false
set_option linter.unusedSimpArgs false
namespace Go.PinIns
open Go.Proofs Go.Shelf Go.RowKit Go.Lib
variable {P : Program} {ρ : Ren}
set_option maxHeartbeats 4000000 in
set_option maxRecDepth 100000 in
theorem ins_end (L : Lays2.n21 P ρ) (b n c b2 c2 : Nat) (u : Value) (w : World) (hn : n < 1000000) (hroom : n + 1 ≤ c)
    (hsp : ∀ j,j < 1 → (w.cell? ⟨b,0 + n + j,none⟩).isSome = true) (hfz : ∀ j,j < 1 → w.frozen? ⟨b,0 + n + j,none⟩ = false)
    (hv : ∀ j v,[u][j]? = some v → w.cell? ⟨b2,0 + j,none⟩ = some v) (h1v : ∀ v ∈ [u],v.oneCell' = true) :
    Calls P (ρ.f 21) #[.slice (some ⟨b,0,none⟩) n c,.int .i64 n,.slice (some ⟨b2,0,none⟩) 1 c2] w fun e w' =>
      e = .returned (.slice (some ⟨b,0,none⟩) (n + 1) c) ∧ w' = w.setCells b (0 + n) [u]:=by
  have t0:=L.t0; have a0:=L.a0; have z0:=L.z0; have v0:=L.v0; have t3:=L.t3; have a3:=L.a3; have z3:=L.z3; have v3:=L.v3; have t4:=L.t4; have a4:=L.a4; have z4:=L.z4; have v4:=L.v4; have t22:=L.t22; have a22:=L.a22; have z22:=L.z22; have v22:=L.v22
  have u0:=run_underlying L.t0; have u3:=run_underlying L.t3; have u4:=run_underlying L.t4; have u22:=run_underlying L.t22
  have mixed:=L.mixed
  have hsrc : Src P 1 (ρ.t 22) (.slice (some ⟨b2,0,none⟩) 1 c2) 1 [u] w:=Src.ofSlice w L.t22 ⟨b2,0,none⟩ 1 c2 [u] rfl (fun j u hj => by rw [Addr.add_lit]; exact hv j u hj) h1v
  go_enter L.f21,Body2.n21_ntmps ρ
  go_wp2_with (at_builtin; refine wpList_append_room1 _ rfl _ _ (ρ.t 22) (ρ.t 22) rfl (ρ.t 3) _ _ L.t22 L.i3 b 0 n c rfl _ rfl 1 [u] hsrc hroom hsp hfz ?_)
  go_ret
  exact ⟨rfl,by rw [Nat.zero_add]⟩
set_option maxHeartbeats 4000000 in
set_option maxRecDepth 100000 in
theorem ins_mid (L : Lays2.n21 P ρ) (b off n c i b2 o2 m c2 : Nat) (us cs : List Value) (w : World) (hn : n + m ≤ 9223372036854775807) (hi : i < n) (hm : 0 < m) (hroom : n + m ≤ c) (hvb : b2 ≠ b)
    (hcl : cs.length = n) (hul : us.length = m) (hcs : ∀ j v,cs[j]? = some v → w.cell? ⟨b,off + j,none⟩ = some v) (hsp : ∀ j,j < n + m → (w.cell? ⟨b,off + j,none⟩).isSome = true) (hfz : ∀ j,w.frozen? ⟨b,j,none⟩ = false)
    (hv : ∀ j v,us[j]? = some v → w.cell? ⟨b2,o2 + j,none⟩ = some v) (h1c : ∀ v ∈ cs,v.oneCell' = true) (h1v : ∀ v ∈ us,v.oneCell' = true)
    (tA tB : TypeId) (kA kB : Nat) (hsa : w.shape? b2 = some (tA,kA)) (hsb : w.shape? b = some (tB,kB)) (hkB : kB ≠ 0) (hfa : ∀ j,w.frozen? ⟨b2,j,none⟩ = false) :
    Calls P (ρ.f 21) #[.slice (some ⟨b,off,none⟩) n c,.int .i64 i,.slice (some ⟨b2,o2,none⟩) m c2] w fun e w' =>
      e = .returned (.slice (some ⟨b,off,none⟩) (n + m) c) ∧ w' = (w.drew.setCells b (off + (i + m)) (cs.drop i)).setCells b (off + i) us:=by
  have t0:=L.t0; have a0:=L.a0; have z0:=L.z0; have v0:=L.v0; have t3:=L.t3; have a3:=L.a3; have z3:=L.z3; have v3:=L.v3; have t4:=L.t4; have a4:=L.a4; have z4:=L.z4; have v4:=L.v4; have t22:=L.t22; have a22:=L.a22; have z22:=L.z22; have v22:=L.v22
  have u0:=run_underlying L.t0; have u3:=run_underlying L.t3; have u4:=run_underlying L.t4; have u22:=run_underlying L.t22
  have mixed:=L.mixed
  have g1 : ¬ ((m : Int) = 0):=by omega
  have g2 : ¬ ((i : Int) = (n : Int)):=by omega
  have hsz : (P.info? (ρ.t 3)).map (·.size) = some 1:=by
    obtain ⟨i0,hi0,h0,h1,h2⟩:=info_parts L.i3
    rw [hi0]; simp [h1]
  have hov : ∀ lb cb,(callFunc (ρ.f 27) #[.slice (some ⟨b2,o2,none⟩) m c2,.slice (some ⟨b,off + (i + m),none⟩) lb cb]).run P w = .ok (.value (.bool false)) w:=fun lb cb => by
    rw [run_callFunc_extern L.f27 (by kernel_rfl) (by kernel_rfl) (by kernel_rfl) (e:=Extern.SlicesOverlaps.overlaps #[(ρ.t 22),(ρ.t 22)] #[(ρ.t 4)]) (by kernel_rfl),
      Lib.run_overlaps_apart w (ρ.t 22) (ρ.t 4) (ρ.t 3) L.t22 1 L.z3 ⟨b2,o2,none⟩ ⟨b,off + (i + m),none⟩ m c2 lb cb hvb tA tB kA kB hsa hsb hkB (hfa _) (hfa _)]
    rfl
  have hdl : (cs.drop i).length = n - i:=by rw [List.length_drop,hcl]
  have g3 : IntKind.i64.wrap ((i : Int) + (m : Int)) = (i : Int) + (m : Int):=by rw [IntKind.wrap_i64]; omega
  have g4 : (0 : Int) ≤ (i : Int) + (m : Int):=by omega
  have g5 : i ≤ n:=by omega
  have g6 : ((i : Int) + (m : Int)).toNat = i + m:=by omega
  have g7 : ¬ (c = i + m):=by omega
  have g8 : (i : Int) ≤ (n : Int) + (m : Int):=by omega
  have g9 : ¬ (c = i):=by omega
  have c1 : ∀ ty dc sc,(Builtin.copy_ #[(ρ.t 22),(ρ.t 22)] ty #[.slice (some ⟨b,off + (i + m),none⟩) (n + m - (i + m)) dc,.slice (some ⟨b,off + i,none⟩) (n + m - i) sc]).run P w.drew = .ok (goInt (cs.drop i).length) (w.drew.setCells b (off + (i + m)) (cs.drop i)):=fun ty dc sc =>
    run_copy_cells w.drew _ _ ty (ρ.t 3) b (off + (i + m)) (n + m - (i + m)) dc ⟨b,off + i,none⟩ (n + m - i) sc (cs.drop i) L.t22 hsz (by rw [hdl]; simp only [Nat.min_def]; split <;> omega)
      (fun j v hj => by rw [Addr.add_lit,Nat.add_assoc]; exact hcs (i + j) v (by rwa [List.getElem?_drop] at hj))
      (fun j hj => by rw [Nat.add_assoc]; exact hsp _ (by omega)) (fun j hj => hfz _) (fun v hv => h1c v (List.mem_of_mem_drop hv))
  obtain ⟨W1,hW1⟩ : ∃ W1,W1 = w.drew.setCells b (off + (i + m)) (cs.drop i):=⟨_,rfl⟩
  have hsp1 : ∀ k,k < n + m → (W1.cell? ⟨b,off + k,none⟩).isSome = true:=fun k hk => by
    rw [hW1]
    exact isSome_setCells b _ _ _ (fun j hj => by rw [Nat.add_assoc]; exact hsp _ (by omega)) _ (hsp k hk)
  have c2 : ∀ (W : World),(∀ x,W.cell? x = W1.cell? x) → (∀ x,W.frozen? x = W1.frozen? x) → ∀ ty dc,(Builtin.copy_ #[(ρ.t 22),(ρ.t 22)] ty #[.slice (some ⟨b,off + i,none⟩) (n + m - i) dc,.slice (some ⟨b2,o2,none⟩) m c2]).run P W = .ok (goInt us.length) (W.setCells b (off + i) us):=fun W hWc hWf ty dc =>
    run_copy_cells W _ _ ty (ρ.t 3) b (off + i) (n + m - i) dc ⟨b2,o2,none⟩ m c2 us L.t22 hsz (by rw [hul]; simp only [Nat.min_def]; split <;> omega)
      (fun j v hj => by
        rw [Addr.add_lit,hWc,hW1,World.cell?_setCells_out b _ _ _ _ (fun h _ => absurd h hvb)]
        exact hv j v hj)
      (fun j hj => by rw [hWc,Nat.add_assoc]; exact hsp1 _ (by omega)) (fun j hj => by rw [hWf,hW1,World.frozen?_setCells]; exact hfz _) h1v
  rw [← hW1] at c1
  go_enter L.f21,Body2.n21_ntmps ρ
  go_wp2_with (simp only [hov])
  go_region_law_o (refine step_copy_runI rfl _ _ (ρ.t 22) (ρ.t 22) rfl _ _ (by simp [Act.eval,Act.put]) (by simp [Act.eval,Act.put]) (c1 _ _ _) ?_)
  go_wp2_with (at_builtin; refine wpList_copy_runI _ rfl _ _ (ρ.t 22) (ρ.t 22) rfl _ _ rfl rfl (c2 _ (fun _ => rfl) (fun _ => rfl) _ _) ?_)
  go_ret
  first | exact ⟨rfl,rfl⟩ | exact ⟨rfl,by rw [hW1]⟩
end Go.PinIns

/- slices.Insert on numbers,one number: what the library's contract says,in the machine's words. -/
set_option maxRecDepth 100000
namespace Go.Vm
open Go Go.Proofs Go.Shelf Go.PinIns
section
variable {P : Program} {gb : Nat → Option (List D)} {W W' : World} {m : Nat → Option Nat} {F : Nat → Prop} {L : Option Nat} {st : List AO}
theorem move_rel {id b b' : Nat} {ob ob' : AO} {v : AV} {w : Value} (R : Rel gb m F L W (sto st)) (up : ∀ i b,m i = some b → i < st.length) (hg : st[id]? = some ob) (hl : lv ob = true) (hm : m id = some b) (T : Tr (fun x => x = b) W W') (hb' : b' = b ∨ (W.heap.size ≤ b' ∧ b' < W'.heap.size))
    (hO : RelO (addM m st.length b') F L W' b' ob') (hv : RepA (addM m st.length b') F L W' v w) :
    ∃ m' F',Grow (own m (sto st)) m F W m' F' W' ∧ Rel gb m' F' L W' (sto (st.set id .dead ++ [ob'])) ∧ (∀ i b,m' i = some b → i < (st.set id .dead ++ [ob']).length) ∧ RepA m' F' L W' v w ∧ (∀ b,own m' (sto (st.set id .dead ++ [ob'])) b → own m (sto st) b ∨ W.heap.size ≤ b) ∧ (∀ i b,m' i = some b → (∃ j,m j = some b) ∨ W.heap.size ≤ b):=by
  have hst : sto st id = ob:=sto_get hg
  have hlt : id < st.length:=(List.getElem?_eq_some_iff.1 hg).1
  have hbF : ¬ F b:=R.nF id b (by rw [hst]; exact hl) hm
  have hbw:=R.hm id b hm
  have hown : own m (sto st) b:=⟨id,by rw [hst]; exact hl,hm⟩
  have hfree : m st.length = none:=by
    cases h : m st.length with
    | none => rfl
    | some b => have:=up _ b h; omega
  have hext:=addM_ext (b:=b') hfree
  have hsame : ∀ i,i ≠ id → sto (st.set id .dead) i = sto st i:=fun i hi => by rw [sto_set,if_neg (fun h => hi h.1)]
  have hdead : ∀ i,sto (st.set id .dead) i ≠ .dead → i ≠ id:=by
    intro i hi e
    rw [sto_set,if_pos ⟨e,hlt⟩] at hi
    exact hi rfl
  have hoth : ∀ i b2,sto (st.set id .dead) i ≠ .dead → m i = some b2 → b2 ≠ b:=by
    intro i b2 hi h1 e
    subst e
    have hne:=hdead i hi
    rw [hsame i hne] at hi
    cases hlv : lv (sto st i) with
    | true => exact hne (R.inj i id b2 hlv (by rw [hst]; exact hl) h1 hm)
    | false =>
      obtain ⟨b3,h2,h3⟩:=R.hs i hi
      rw [h1] at h2; injection h2 with h2; subst h2
      cases hob : sto st i with
      | dead => exact hi hob
      | fbox cs => rw [hob] at h3; obtain ⟨_,_,_,_,_,h,_⟩:=h3; exact hbF h
      | farr sz es => rw [hob] at h3; obtain ⟨_,_,_,_,_,_,h,_⟩:=h3; exact hbF h
      | _ => rw [hob] at hlv; cases hlv
  have hm'lt : ∀ i b2,addM m st.length b' i = some b2 → b2 < W'.heap.size:=by
    intro i b2 hi
    unfold addM at hi
    split at hi
    · injection hi with hi; subst hi
      rcases hb' with h | h
      · subst h; have:=T.size; omega
      · exact h.2
    · have:=R.hm i b2 hi; have:=T.size; omega
  have R1:=Rel.mono (m':=addM m st.length b') (F':=F) (rel_kill R id) T hext hm'lt (fun _ h => h) (fun b hb => by have:=R.hF b hb; have:=T.size; omega)
    (fun i b' hi h1 => hoth i b' hi h1) (fun b' hb e => hbF (e ▸ hb)) (fun i b' h1 h2 => (rel_kill R id).nF i b' h1 h2)
  have hb'F : ¬ F b':=by
    rcases hb' with h | h
    · rw [h]; exact hbF
    · intro hc; have:=R.hF _ hc; omega
  have hlen : (st.set id .dead).length = st.length:=List.length_set
  have hothm : ∀ j,lv (sto (st.set id .dead) j) = true → addM m st.length b' j ≠ some b':=by
    intro j hj h
    have hjd : sto (st.set id .dead) j ≠ .dead:=fun e => by rw [e] at hj; cases hj
    have hjl:=sto_lt hjd
    rw [hlen] at hjl
    have h1 : m j = some b':=by
      unfold addM at h
      rwa [if_neg (by omega)] at h
    rcases hb' with e | e
    · exact hoth j b' hjd h1 e
    · have:=R.hm j b' h1; omega
  have R2:=rel_add (st:=st.set id .dead) R1 (by rw [hlen]; simp [addM]) hO (fun _ => hb'F) hothm
  have hown' : ∀ b2,own (addM m st.length b') (sto (st.set id .dead ++ [ob'])) b2 → own m (sto st) b2 ∨ W.heap.size ≤ b2:=by
    rintro b2 ⟨i,h1,h2⟩
    unfold addM at h2
    split at h2
    · injection h2 with h2; subst h2
      rcases hb' with e | e
      · subst e; exact .inl hown
      · exact .inr e.1
    · rename_i e
      rw [sto_append] at h1
      unfold Vm.put at h1
      rw [if_neg (by simp; omega)] at h1
      have hd : sto (st.set id .dead) i ≠ .dead:=fun e => by rw [e] at h1; cases h1
      exact .inl ⟨i,by rwa [hsame i (hdead i hd)] at h1,h2⟩
  refine ⟨addM m st.length b',F,⟨hext,fun _ h => h,fun _ h => .inl h,T.mono fun x _ e => e ▸ hown⟩,R2,fun i b2 hi => ?_,hv,hown',fun i b2 hi => ?_⟩
  · simp only [List.length_append,hlen,List.length_cons,List.length_nil]
    unfold addM at hi
    split at hi
    · omega
    · have:=up i b2 hi; omega
  · unfold addM at hi
    split at hi
    · injection hi with hi; subst hi
      rcases hb' with e | e
      · subst e; exact .inl ⟨id,hm⟩
      · exact .inr e.1
    · exact .inl ⟨i,hi⟩
theorem setCells_row (g : Nat) (t : TypeId) (fr : Nat × Nat) : ∀ (vs : List Value) (o : Nat) (w : World) (c : Array Value),w.heap[g]? = some (.cells c t fr) → o + vs.length ≤ c.size →
    w.setCells g o vs = w.setRow g (c.toList.take o ++ vs ++ c.toList.drop (o + vs.length)).toArray
  | [],o,w,c,hg,hl => by
    rw [World.setCells]
    have : (c.toList.take o ++ [] ++ c.toList.drop (o + ([] : List Value).length)).toArray = c:=by simp
    rw [this,setRow_self w g c t fr hg]
  | v :: r,o,w,c,hg,hl => by
    rw [World.setCells,setCell_eq_setRow w g o c t fr v hg]
    have h2:=setRow_heap w g c (c.setIfInBounds o v) t fr hg
    rw [setCells_row g t fr r (o + 1) _ _ h2 (by simp at hl ⊢; omega),setRow_setRow]
    congr 1
    simp only [List.length_cons] at hl
    apply Array.ext'
    simp only [Array.toList_setIfInBounds,List.append_assoc]
    have e1 : (c.toList.set o v).take (o + 1) = c.toList.take o ++ [v]:=by
      have hlo : (c.toList.take o).length = o:=by simp; omega
      rw [List.take_set,List.take_succ_eq_append_getElem (by simp; omega),List.set_append_right _ _ (by omega),hlo,Nat.sub_self]
      rfl
    have e2 : (c.toList.set o v).drop (o + 1 + r.length) = c.toList.drop (o + (v :: r).length):=by
      rw [List.drop_set_of_lt (by omega)]
      simp only [List.length_cons]; congr 1; omega
    rw [e1,e2]; simp
variable {ρ : Ren}
theorem ins_get {es : List (List D)} {i : Nat} {d : List D} (hi : i ≤ es.length) (k : Nat) (e : List D) (h : (es.take i ++ d :: es.drop i)[k]? = some e) :
    (k < i ∧ es[k]? = some e) ∨ (k = i ∧ e = d) ∨ (i < k ∧ k ≤ es.length ∧ es[k - 1]? = some e):=by
  by_cases h1 : k < i
  · rw [List.getElem?_append_left (by simp; omega),List.getElem?_take,if_pos h1] at h
    exact .inl ⟨h1,h⟩
  · rw [List.getElem?_append_right (by simp; omega)] at h
    have hl : (es.take i).length = i:=by simp; omega
    rw [hl] at h
    by_cases h2 : k = i
    · subst h2
      rw [Nat.sub_self,List.getElem?_cons_zero] at h
      injection h with h
      exact .inr (.inl ⟨rfl,h.symm⟩)
    · rw [show k - i = (k - i - 1) + 1 by omega,List.getElem?_cons_succ,List.getElem?_drop] at h
      have:=(List.getElem?_eq_some_iff.1 h).1
      rw [show i + (k - i - 1) = k - 1 by omega] at h
      exact .inr (.inr ⟨by omega,by omega,h⟩)
theorem ins_row {b : Nat} {c : Array Value} {t : TypeId} {es : List (List D)} {i : Nat} {d : D} (hb : W.heap[b]? = some (.cells c t (0,0))) (hz : ∀ e ∈ es,e.length = 1) (hi : i ≤ es.length) (hle : es.length + 1 ≤ c.size)
    (h0 : ∀ k e x,k < i → es[k]? = some e → e[0]? = some x → (c.getD k undef).oneCell' = true ∧ RepD F W x (c.getD k undef))
    (h1 : (c.getD i undef).oneCell' = true ∧ RepD F W d (c.getD i undef))
    (h2 : ∀ k e x,i ≤ k → es[k]? = some e → e[0]? = some x → (c.getD (k + 1) undef).oneCell' = true ∧ RepD F W x (c.getD (k + 1) undef)) :
    RelO m F L W b (.arr 1 (es.take i ++ [d] :: es.drop i)):=by
  have hz' : ∀ e ∈ es.take i ++ [d] :: es.drop i,e.length = 1:=by
    intro e he
    rcases List.mem_append.1 he with h | h
    · exact hz e (List.mem_of_mem_take h)
    · rcases List.mem_cons.1 h with h | h
      · subst h; rfl
      · exact hz e (List.mem_of_mem_drop h)
  refine relO_rows hb hz' (by simp; omega) fun k e j x hk hj => ?_
  have hj0 : j = 0:=by
    have:=(List.getElem?_eq_some_iff.1 hj).1
    have:=hz' e (List.mem_of_getElem? hk)
    omega
  subst hj0
  rw [Nat.mul_one,Nat.add_zero]
  rcases ins_get hi k e hk with ⟨q1,q2⟩ | ⟨q1,q2⟩ | ⟨q1,q2,q3⟩
  · exact h0 k e x q1 q2 hj
  · subst q1; subst q2
    simp only [List.getElem?_cons_zero,Option.some.injEq] at hj
    subst hj; exact h1
  · have:=h2 (k - 1) e x (by omega) q3 hj
    rwa [show k - 1 + 1 = k by omega] at this
theorem tr_drewn (O : Nat → Prop) (W : World) : Tr O W W.drew:=⟨rfl,rfl,rfl,Nat.le_refl _,fun _ _ _ => rfl,fun _ _ h => h⟩
theorem drop_getD {f : Nat → Value} {n i j : Nat} (h : i + j < n) : (((List.range n).map f).drop i).getD j undef = f (i + j):=by
  simp [List.getD_eq_getElem?_getD,h]
theorem two_rows {A : World} {g : Nat} {t : TypeId} {c : Array Value} {n i : Nat} {u : Value} {f : Nat → Value} (hb : A.heap[g]? = some (.cells c t (0,0))) (hi : i ≤ n) (hn : n + 1 ≤ c.size) :
    ∃ r : Array Value,(A.setCells g (i + 1) (((List.range n).map f).drop i)).setCells g i [u] = A.setRow g r ∧ (A.setCells g i [u]).drew.setCells g (i + 1) (((List.range n).map f).drop i) = A.drew.setRow g r ∧ r.size = c.size ∧
      (∀ k,k < i → r.getD k undef = c.getD k undef) ∧ r.getD i undef = u ∧ ∀ k,i ≤ k → k < n → r.getD (k + 1) undef = f k:=by
  have hl : (((List.range n).map f).drop i).length = n - i:=by simp
  have h1 : i + 1 + (((List.range n).map f).drop i).length ≤ c.size:=by omega
  have h2 : i + [u].length ≤ c.size:=by simp; omega
  have ha:=setCells_row g t (0,0) (((List.range n).map f).drop i) (i + 1) A c hb h1
  have hb1:=setRow_heap A g c (c.toList.take (i + 1) ++ ((List.range n).map f).drop i ++ c.toList.drop (i + 1 + (((List.range n).map f).drop i).length)).toArray t (0,0) hb
  have s1:=splice_size h1
  have h3 : i + [u].length ≤ (c.toList.take (i + 1) ++ ((List.range n).map f).drop i ++ c.toList.drop (i + 1 + (((List.range n).map f).drop i).length)).toArray.size:=by rw [s1]; exact h2
  have hc:=setCells_row g t (0,0) [u] i _ _ hb1 h3
  have hd:=setCells_row g t (0,0) [u] i A c hb h2
  have hb2:=setRow_heap A g c (c.toList.take i ++ [u] ++ c.toList.drop (i + [u].length)).toArray t (0,0) hb
  have s2:=splice_size h2
  have h4 : i + 1 + (((List.range n).map f).drop i).length ≤ (c.toList.take i ++ [u] ++ c.toList.drop (i + [u].length)).toArray.size:=by rw [s2]; exact h1
  have he:=setCells_row g t (0,0) (((List.range n).map f).drop i) (i + 1) (A.setRow g (c.toList.take i ++ [u] ++ c.toList.drop (i + [u].length)).toArray).drew _ hb2 h4
  have same : (((c.toList.take (i + 1) ++ ((List.range n).map f).drop i ++ c.toList.drop (i + 1 + (((List.range n).map f).drop i).length)).toArray.toList.take i ++ [u] ++ (c.toList.take (i + 1) ++ ((List.range n).map f).drop i ++ c.toList.drop (i + 1 + (((List.range n).map f).drop i).length)).toArray.toList.drop (i + [u].length)).toArray : Array Value) =
      ((c.toList.take i ++ [u] ++ c.toList.drop (i + [u].length)).toArray.toList.take (i + 1) ++ ((List.range n).map f).drop i ++ (c.toList.take i ++ [u] ++ c.toList.drop (i + [u].length)).toArray.toList.drop (i + 1 + (((List.range n).map f).drop i).length)).toArray:=by
    apply Array.ext
    · rw [splice_size h3,splice_size h4,s1,s2]
    · intro k k1 k2
      have q1:=splice_get (k:=k) h3
      have q2:=splice_get (k:=k) h4
      rw [splice_get h1] at q1
      rw [splice_get h2] at q2
      rw [Array.getD_eq_getD_getElem?,Array.getElem?_eq_getElem k1,Option.getD_some] at q1
      rw [Array.getD_eq_getD_getElem?,Array.getElem?_eq_getElem k2,Option.getD_some] at q2
      rw [q1,q2]
      simp only [List.length_cons,List.length_nil]
      split
      · rw [if_neg (by omega)]
      · rfl
  refine ⟨_,by rw [ha,hc,setRow_setRow],?_,by rw [splice_size h3,s1],fun k hk => ?_,?_,fun k hk hk2 => ?_⟩
  · rw [hd,he,same]
    show ((A.drew.setRow g _).setRow g _) = _
    rw [setRow_setRow]
  · rw [splice_get h3,if_neg (by omega),splice_get h1,if_neg (by omega)]
  · rw [splice_get h3,if_pos (by simp),Nat.sub_self]; rfl
  · rw [splice_get h3,if_neg (by simp; omega),splice_get h1,if_pos (by omega),show k + 1 - (i + 1) = k - i by omega,drop_getD (by omega)]
    congr 1; omega
theorem ge_range {c : Array Value} {n k : Nat} {v : Value} (h : ((List.range n).map fun k => c.getD k undef)[k]? = some v) : k < n ∧ v = c.getD k undef:=by
  rw [List.getElem?_map,Option.map_eq_some_iff] at h
  obtain ⟨x,h1,h2⟩:=h
  obtain ⟨h3,h4⟩:=List.getElem?_eq_some_iff.1 h1
  simp at h3 h4
  subst h4
  exact ⟨h3,h2.symm⟩
set_option maxHeartbeats 4000000 in
theorem ins_ok (Ly : Lays2.n21 P ρ) (he : Entry P (ρ.f 21)) : PrimOk P gb (ρ.f 21) insPrim:=by
  refine ⟨he,?_⟩
  intro args st v st' m F L W vs hg R up hsz hr
  unfold insPrim at hg
  split at hg
  · rename_i id sz lw n k i id2 sz2 lw2 n2
    split at hg
    · rename_i sz' es sz2' d hid hid2
      split at hg
      · rename_i hc
        obtain ⟨⟨rfl,rfl,rfl,rfl⟩,⟨rfl,rfl,rfl,rfl⟩,hne,hi0,hin,rfl,hnm⟩:=hc
        simp only [Option.some.injEq,Prod.mk.injEq] at hg
        obtain ⟨rfl,rfl⟩:=hg
        obtain ⟨i,rfl⟩ : ∃ j : Nat,i = j:=⟨i.toNat,by omega⟩
        rw [Int.toNat_natCast]
        have hin' : i ≤ es.length:=by omega
        have e3 : vs = #[vs.getD 0 undef,vs.getD 1 undef,vs.getD 2 undef]:=by
          have h3 : vs.size = 3:=hsz
          apply Array.ext
          · simp [h3]
          · intro j h1 h2
            have : j = 0 ∨ j = 1 ∨ j = 2:=by simp at h2; omega
            rcases this with rfl | rfl | rfl <;> simp [Array.getD_eq_getD_getElem?,h1]
        have r0:=hr 0 _ rfl
        have r1:=hr 1 _ rfl
        have r2:=hr 2 _ rfl
        rw [e3]
        generalize vs.getD 0 undef = x0 at r0 ⊢
        generalize vs.getD 1 undef = x1 at r1 ⊢
        generalize vs.getD 2 undef = x2 at r2 ⊢
        cases r1 with
        | imm _ _ h =>
        cases h
        cases r0 with
        | ref _ _ _ _ b q cap s hm hqb hqs hoff hrs hle hcap =>
        cases r2 with
        | ref _ _ _ _ b2 q2 cap2 s2 hm2 hqb2 hqs2 hoff2 hrs2 hle2 hcap2 =>
        obtain ⟨c,t,hb,hz,hl,h1,hrr⟩ : RelO m F L W b (.arr 1 es):=look R (fun _ => rfl) hid (by simp) hm
        obtain ⟨c2,t2,hb2,hz2,hl2,h12,hrr2⟩ : RelO m F L W b2 (.arr 1 [[d]]):=look R (fun _ => rfl) hid2 (by simp) hm2
        have hbb : b2 ≠ b:=by
          intro e
          subst e
          exact hne (R.inj id id2 b2 (by rw [sto_get hid]; rfl) (by rw [sto_get hid2]; rfl) hm hm2)
        have hsc : cap = c.size:=by
          unfold rowSize at hrs
          rw [hb] at hrs
          have:=Option.some.inj hrs
          omega
        have hF : ¬ F b:=R.nF id b (by rw [sto_get hid]; rfl) hm
        have hb2w : b2 < W.heap.size:=R.hm _ _ hm2
        have hbw : b < W.heap.size:=R.hm _ _ hm
        have hl2' : 1 ≤ c2.size:=by simpa using hl2
        have hq2 : q2 = ⟨b2,0,none⟩:=by
          rw [addr_none hqs2,hqb2,hoff2 (by omega),Nat.zero_mul]
        subst hq2
        have hu1 : (c2.getD 0 undef).oneCell' = true:=h12 0 (by simp)
        have hur : RepD F W d (c2.getD 0 undef):=by simpa using hrr2 0 [d] 0 d rfl rfl
        have huc : W.cell? ⟨b2,0,none⟩ = some (c2.getD 0 undef):=cell_of hb2 (by omega)
        have hel : ∀ k e x,es[k]? = some e → e[0]? = some x → (c.getD k undef).oneCell' = true ∧ RepD F W x (c.getD k undef):=by
          intro k e x hk hx
          have:=(List.getElem?_eq_some_iff.1 hk).1
          refine ⟨h1 k (by omega),?_⟩
          have:=hrr k e 0 x hk hx
          rwa [Nat.mul_one,Nat.add_zero] at this
        have hcsl : ((List.range es.length).map fun k => c.getD k undef).length = es.length:=by simp
        have hcs1 : ∀ v ∈ (List.range es.length).map (fun k => c.getD k undef),v.oneCell' = true:=by
          intro v hv
          obtain ⟨k,hk,rfl⟩:=List.mem_map.1 hv
          exact h1 k (by rw [List.mem_range] at hk; omega)
        refine callsIn_wide.2 ?_
        by_cases hroom : es.length + 1 ≤ cap
        · have hq : q = ⟨b,0,none⟩:=by
            rw [addr_none hqs,hqb,hoff (by omega),Nat.zero_mul]
          subst hq
          have hnf : ∀ j,W.frozen? ⟨b,j,none⟩ = false:=by intro j; simp [World.frozen?,hb]
          have hnf2 : ∀ j,W.frozen? ⟨b2,j,none⟩ = false:=by intro j; simp [World.frozen?,hb2]
          by_cases hend : i = es.length
          · subst hend
            refine (ins_end Ly b es.length cap b2 cap2 (c2.getD 0 undef) W hnm hroom (fun j hj => by
              have : j = 0:=by omega
              subst this
              rw [cell_of hb (by omega)]; rfl) (fun j _ => hnf _) (fun j v hj => by
              have hj0 : j = 0:=by have:=(List.getElem?_eq_some_iff.1 hj).1; simp at this; omega
              subst hj0
              simp only [List.getElem?_cons_zero,Option.some.injEq] at hj
              subst hj; exact huc) (fun v hv => by rw [List.mem_singleton.1 hv]; exact hu1)).mono fun e w ⟨e1,e2⟩ => ?_
            have hw : w = W.setRow b (c.toList.take es.length ++ [c2.getD 0 undef] ++ c.toList.drop (es.length + [c2.getD 0 undef].length)).toArray:=by
              rw [e2,Nat.zero_add]
              exact setCells_row b t (0,0) _ _ W c hb (by simp; omega)
            have hspl : es.length + [c2.getD 0 undef].length ≤ c.size:=by simp; omega
            have T:=tr_setRow (c':=(c.toList.take es.length ++ [c2.getD 0 undef] ++ c.toList.drop (es.length + [c2.getD 0 undef].length)).toArray) hb (splice_size hspl)
            rw [← hw] at T
            have hmono : ∀ {x : D} {v : Value},RepD F W x v → RepD F w x v:=fun h => h.mono (fun _ h => h) fun x hx => T.keep x (R.hF x hx) fun e => hF (e ▸ hx)
            have hb':=setRow_heap W b c (c.toList.take es.length ++ [c2.getD 0 undef] ++ c.toList.drop (es.length + [c2.getD 0 undef].length)).toArray t (0,0) hb
            rw [← hw] at hb'
            obtain ⟨m',F',G,R',up',rv,ow,rg⟩:=move_rel (ob':=.arr 1 (es.take es.length ++ [d] :: es.drop es.length)) (v:=.ref st.length 1 0 (es.length + 1)) (w:=.slice (some ⟨b,0,none⟩) (es.length + 1) cap) R up hid rfl hm T (.inl rfl)
              (ins_row hb' hz (Nat.le_refl _) (by rw [splice_size hspl]; omega)
                (fun k e x hk hke hx => by rw [splice_get hspl,if_neg (by omega)]; exact ⟨(hel k e x hke hx).1,hmono (hel k e x hke hx).2⟩)
                (by rw [splice_get hspl,if_pos (by simp),Nat.sub_self]; exact ⟨hu1,hmono hur⟩)
                (fun k e x hk hke hx => by have:=(List.getElem?_eq_some_iff.1 hke).1; omega))
              (.ref _ _ _ _ b ⟨b,0,none⟩ cap s (by simp [addM]) rfl rfl (fun _ => by simp) (T.rows b _ hrs) hle hroom)
            exact ⟨_,m',F',e1,G,R',up',rv,ow,rg⟩
          · refine (ins_mid Ly b 0 es.length cap i b2 0 1 cap2 [c2.getD 0 undef] ((List.range es.length).map fun k => c.getD k undef) W (by omega) (by omega) (by omega) hroom hbb hcsl rfl (fun j v hj => by
              obtain ⟨q1,q2⟩:=ge_range hj
              rw [q2,Nat.zero_add]; exact cell_of hb (by omega)) (fun j hj => by rw [Nat.zero_add,cell_of hb (by omega)]; rfl) hnf (fun j v hj => by
              have hj0 : j = 0:=by have:=(List.getElem?_eq_some_iff.1 hj).1; simp at this; omega
              subst hj0
              simp only [List.getElem?_cons_zero,Option.some.injEq] at hj
              subst hj; exact huc) hcs1 (fun v hv => by rw [List.mem_singleton.1 hv]; exact hu1)
              t2 t c2.size c.size (by simp [World.shape?,hb2]) (by simp [World.shape?,hb]) (by omega) hnf2).mono fun e w ⟨e1,e2⟩ => ?_
            rw [Nat.zero_add,Nat.zero_add] at e2
            obtain ⟨r,hr1,_,hrs',k1,k2,k3⟩:=two_rows (A:=W.drew) (u:=c2.getD 0 undef) (f:=fun k => c.getD k undef) hb hin' (show es.length + 1 ≤ c.size by omega)
            have hw : w = W.drew.setRow b r:=e2.trans hr1
            have T0:=tr_setRow (W:=W.drew) (c':=r) hb hrs'
            have T : Tr (fun x => x = b) W w:=by rw [hw]; exact (tr_drewn (fun x => x = b) W).trans T0 (fun _ _ h => h)
            have hmono : ∀ {x : D} {v : Value},RepD F W x v → RepD F w x v:=fun h => h.mono (fun _ h => h) fun x hx => T.keep x (R.hF x hx) fun e => hF (e ▸ hx)
            have hb':=setRow_heap W.drew b c r t (0,0) hb
            rw [← hw] at hb'
            obtain ⟨m',F',G,R',up',rv,ow,rg⟩:=move_rel (ob':=.arr 1 (es.take i ++ [d] :: es.drop i)) (v:=.ref st.length 1 0 (es.length + 1)) (w:=.slice (some ⟨b,0,none⟩) (es.length + 1) cap) R up hid rfl hm T (.inl rfl)
              (ins_row hb' hz hin' (by omega)
                (fun k e x hk hke hx => by rw [k1 k hk]; exact ⟨(hel k e x hke hx).1,hmono (hel k e x hke hx).2⟩)
                (by rw [k2]; exact ⟨hu1,hmono hur⟩)
                (fun k e x hk hke hx => by rw [k3 k hk (List.getElem?_eq_some_iff.1 hke).1]; exact ⟨(hel k e x hke hx).1,hmono (hel k e x hke hx).2⟩))
              (.ref _ _ _ _ b ⟨b,0,none⟩ cap s (by simp [addM]) rfl rfl (fun _ => by simp) (T.rows b _ hrs) hle hroom)
            exact ⟨_,m',F',e1,G,R',up',rv,ow,rg⟩
        · have hcn : cap = es.length:=by omega
          by_cases hend : i = es.length
          · subst hend
            refine (Any2.slices_Insert_int_end_grow Ly (some q) es.length cap b2 0 1 cap2 ((List.range es.length).map fun k => c.getD k undef) [c2.getD 0 undef] W (by omega) hcap (by omega) (by omega) hcsl rfl (fun h => nomatch h) (fun a ha j v hj => by
              injection ha with ha; subst ha
              obtain ⟨q1,q2⟩:=ge_range hj
              have hq : q = ⟨b,0,none⟩:=by
                rw [addr_none hqs,hqb,hoff (by omega),Nat.zero_mul]
              rw [hq,add_none,Nat.zero_add,q2]; exact cell_of hb (by omega)) (fun j v hj => by
              have hj0 : j = 0:=by have:=(List.getElem?_eq_some_iff.1 hj).1; simp at this; omega
              subst hj0
              simp only [List.getElem?_cons_zero,Option.some.injEq] at hj
              subst hj; exact huc) (fun v hv => by rw [List.mem_singleton.1 hv]; exact hu1)).mono fun e w ⟨e1,e2⟩ => ?_
            have hG:=grownCap_ge W (es.length + 1) cap (ρ.t 3)
            generalize grownCap W (es.length + 1) cap (ρ.t 3) = G at e1 e2 hG
            generalize hrow : (((List.range es.length).map (fun k => c.getD k undef) ++ [c2.getD 0 undef]).toArray ++ Builtin.zeroCells (Value.int .i64 0).cells (G - (es.length + 1)) : Array Value) = row at e2
            have hrs' : row.size = G:=by rw [← hrow]; simp [Builtin.zeroCells,Value.cells]; omega
            have hw : w = pushD W (W.drawn + 1) (.cells row (ρ.t 3)):=e2
            have T : Tr (fun x => x = b) W w:=by rw [hw]; exact tr_push _ W _
            have hmono : ∀ {x : D} {v : Value},RepD F W x v → RepD F w x v:=fun h => h.mono (fun _ h => h) fun x hx => T.keep x (R.hF x hx) fun e => hF (e ▸ hx)
            have hb' : w.heap[W.heap.size]? = some (.cells row (ρ.t 3) (0,0)):=by rw [hw]; exact push_new W _
            have k1 : ∀ k,k < es.length → row.getD k undef = c.getD k undef:=by
              intro k hk
              rw [← hrow,Array.getD_eq_getD_getElem?,Array.getElem?_append_left (by simp; omega),List.getElem?_toArray,List.getElem?_append_left (by simp; omega)]
              simp [hk]
            have k2 : row.getD es.length undef = c2.getD 0 undef:=by
              rw [← hrow,Array.getD_eq_getD_getElem?,Array.getElem?_append_left (by simp),List.getElem?_toArray,List.getElem?_append_right (by simp)]
              simp
            obtain ⟨m',F',G',R',up',rv,ow,rg⟩:=move_rel (ob':=.arr 1 (es.take es.length ++ [d] :: es.drop es.length)) (v:=.ref st.length 1 0 (es.length + 1)) (w:=.slice (some ⟨W.heap.size,0,none⟩) (es.length + 1) G) R up hid rfl hm T (.inr ⟨Nat.le_refl _,by rw [hw]; simp [pushD]⟩)
              (ins_row hb' hz (Nat.le_refl _) (by omega)
                (fun k e x hk hke hx => by rw [k1 k hk]; exact ⟨(hel k e x hke hx).1,hmono (hel k e x hke hx).2⟩)
                (by rw [k2]; exact ⟨hu1,hmono hur⟩)
                (fun k e x hk hke hx => by have:=(List.getElem?_eq_some_iff.1 hke).1; omega))
              (.ref _ _ _ _ W.heap.size ⟨W.heap.size,0,none⟩ G G (by simp [addM]) rfl rfl (fun _ => by simp) (by simp [rowSize,hb',hrs']) (by omega) hG)
            exact ⟨_,m',F',e1,G',R',up',rv,ow,rg⟩
          · have hq : q = ⟨b,0,none⟩:=by
              rw [addr_none hqs,hqb,hoff (by omega),Nat.zero_mul]
            subst hq
            refine (Any2.slices_Insert_int_grow Ly b 0 es.length cap i b2 0 1 cap2 ((List.range es.length).map fun k => c.getD k undef) [c2.getD 0 undef] W (by omega) (by omega) hcap (by omega) (by omega) hcsl rfl (fun j v hj => by
              obtain ⟨q1,q2⟩:=ge_range hj
              rw [q2,Nat.zero_add]; exact cell_of hb (by omega)) (fun j v hj => by
              have hj0 : j = 0:=by have:=(List.getElem?_eq_some_iff.1 hj).1; simp at this; omega
              subst hj0
              simp only [List.getElem?_cons_zero,Option.some.injEq] at hj
              subst hj; exact huc) hcs1 (fun v hv => by rw [List.mem_singleton.1 hv]; exact hu1)).mono fun e w ⟨e1,e2⟩ => ?_
            have hG:=grownCap_ge W (es.length + 1) cap (ρ.t 3)
            generalize grownCap W (es.length + 1) cap (ρ.t 3) = G at e1 e2 hG
            generalize hrow : ((((List.range es.length).map (fun k => c.getD k undef)).take i).toArray ++ Builtin.zeroCells (Value.int .i64 0).cells (es.length + 1 - i) ++ Builtin.zeroCells (Value.int .i64 0).cells (G - (es.length + 1)) : Array Value) = row at e2
            have hrs' : row.size = G:=by rw [← hrow]; simp [Builtin.zeroCells,Value.cells]; omega
            have hbA : (pushD W (W.drawn + 1) (.cells row (ρ.t 3))).heap[W.heap.size]? = some (.cells row (ρ.t 3) (0,0)):=push_new W _
            obtain ⟨r,_,hr1,hrs2,k1,k2,k3⟩:=two_rows (u:=c2.getD 0 undef) (f:=fun k => c.getD k undef) hbA hin' (show es.length + 1 ≤ row.size by omega)
            have hw : w = (pushD W (W.drawn + 1) (.cells row (ρ.t 3))).drew.setRow W.heap.size r:=e2.trans hr1
            have T0:=tr_setRow (W:=(pushD W (W.drawn + 1) (.cells row (ρ.t 3))).drew) (c':=r) hbA hrs2
            have T : Tr (fun x => x = b) W w:=by
              rw [hw]
              refine (((tr_push (fun x => x = b) W _).trans (tr_drewn (fun x => x = b) _) (fun _ _ h => h)).trans T0 fun x hx e => ?_)
              omega
            have hmono : ∀ {x : D} {v : Value},RepD F W x v → RepD F w x v:=fun h => h.mono (fun _ h => h) fun x hx => T.keep x (R.hF x hx) fun e => hF (e ▸ hx)
            have hb':=setRow_heap (pushD W (W.drawn + 1) (.cells row (ρ.t 3))).drew W.heap.size row r (ρ.t 3) (0,0) hbA
            rw [← hw] at hb'
            have k0 : ∀ k,k < i → row.getD k undef = c.getD k undef:=by
              intro k hk
              rw [← hrow,Array.getD_eq_getD_getElem?,Array.getElem?_append_left (by simp; omega),Array.getElem?_append_left (by simp; omega),List.getElem?_toArray,List.getElem?_take,if_pos hk]
              simp [show k < es.length by omega]
            obtain ⟨m',F',G',R',up',rv,ow,rg⟩:=move_rel (ob':=.arr 1 (es.take i ++ [d] :: es.drop i)) (v:=.ref st.length 1 0 (es.length + 1)) (w:=.slice (some ⟨W.heap.size,0,none⟩) (es.length + 1) G) R up hid rfl hm T (.inr ⟨Nat.le_refl _,by rw [hw]; simp [pushD,World.drew]⟩)
              (ins_row hb' hz hin' (by omega)
                (fun k e x hk hke hx => by rw [k1 k hk,k0 k hk]; exact ⟨(hel k e x hke hx).1,hmono (hel k e x hke hx).2⟩)
                (by rw [k2]; exact ⟨hu1,hmono hur⟩)
                (fun k e x hk hke hx => by rw [k3 k hk (List.getElem?_eq_some_iff.1 hke).1]; exact ⟨(hel k e x hke hx).1,hmono (hel k e x hke hx).2⟩))
              (.ref _ _ _ _ W.heap.size ⟨W.heap.size,0,none⟩ G G (by simp [addM]) rfl rfl (fun _ => by simp) (by simp [rowSize,hb',hrs2,hrs']) (by omega) hG)
            exact ⟨_,m',F',e1,G',R',up',rv,ow,rg⟩
      · cases hg
    · cases hg
  · cases hg
end
end Go.Vm

/- Floats: which 32 bits are those of a finite number,in the model. -/
set_option maxRecDepth 100000
namespace Go.Fl
open Go Ieee
theorem dread (w : Nat) : double.read w = if w % 9223372036854775808 < 4503599627370496 then .number (w / 9223372036854775808 % 2 == 1) (w % 9223372036854775808) (-1074)
    else if w % 9223372036854775808 < 9218868437227405312 then .number (w / 9223372036854775808 % 2 == 1) (4503599627370496 + w % 9223372036854775808 % 4503599627370496) (-1074 + (w % 9223372036854775808 / 4503599627370496 - 1 : Nat))
    else if w % 9223372036854775808 = 9218868437227405312 then .infinity (w / 9223372036854775808 % 2 == 1) else .nan (w / 9223372036854775808 % 2 == 1) (w % 9223372036854775808 - 9218868437227405312):=rfl
theorem sread (w : Nat) : single.read w = if w % 2147483648 < 8388608 then .number (w / 2147483648 % 2 == 1) (w % 2147483648) (-149)
    else if w % 2147483648 < 2139095040 then .number (w / 2147483648 % 2 == 1) (8388608 + w % 2147483648 % 8388608) (-149 + (w % 2147483648 / 8388608 - 1 : Nat))
    else if w % 2147483648 = 2139095040 then .infinity (w / 2147483648 % 2 == 1) else .nan (w / 2147483648 % 2 == 1) (w % 2147483648 - 2139095040):=rfl
def Fin (w : Nat) : Prop:=w % 9223372036854775808 < 9218868437227405312
def Inf (w : Nat) : Prop:=w % 9223372036854775808 = 9218868437227405312
def NaN (w : Nat) : Prop:=9218868437227405312 < w % 9223372036854775808
theorem fin_read {w : Nat} (h : Fin w) : ∃ s m e,double.read w = .number s m e ∧ m < 9007199254740992 ∧ e ≤ 971:=by
  unfold Fin at h
  rw [dread]
  by_cases h1 : w % 9223372036854775808 < 4503599627370496
  · rw [if_pos h1]; exact ⟨_,_,_,rfl,by omega,by omega⟩
  · rw [if_neg h1,if_pos h]; exact ⟨_,_,_,rfl,by omega,by omega⟩
theorem inf_read {w : Nat} (h : Inf w) : ∃ s,double.read w = .infinity s ∧ (w < 9223372036854775808 → s = false):=by
  unfold Inf at h
  rw [dread,if_neg (by omega),if_neg (by omega),if_pos h]
  exact ⟨_,rfl,fun hw => by rw [Nat.div_eq_of_lt hw]; rfl⟩
theorem nan_read {w : Nat} (h : NaN w) : ∃ s t,double.read w = .nan s t:=by
  unfold NaN at h
  rw [dread,if_neg (by omega),if_neg (by omega),if_neg (by omega)]
  exact ⟨_,_,rfl⟩
theorem self_fin {w : Nat} (h : Fin w) : double.order w w = some .eq:=by
  obtain ⟨s,m,e,h1,_⟩:=fin_read h
  simp [Format.order,h1,Datum.order,Int.compare_eq_eq]
theorem self_inf {w : Nat} (h : Inf w) : double.order w w = some .eq:=by
  obtain ⟨s,h1,_⟩:=inf_read h
  simp [Format.order,h1,Datum.order]
theorem self_nan {w : Nat} (h : NaN w) : double.order w w = none:=by
  obtain ⟨s,t,h1⟩:=nan_read h
  simp [Format.order,h1,Datum.order]
theorem max_read : double.read 9218868437227405311 = .number false 9007199254740991 971:=rfl
theorem max_inf {w : Nat} (h : Inf w) (hw : w < 9223372036854775808) : double.order w 9218868437227405311 = some .gt:=by
  obtain ⟨s,h1,h2⟩:=inf_read h
  rw [Format.order,h1,max_read,h2 hw]
  rfl
theorem max_fin {w : Nat} (h : Fin w) : double.order w 9218868437227405311 ≠ some .gt:=by
  obtain ⟨s,m,e,h1,h2,h3⟩:=fin_read h
  rw [Format.order,h1,max_read]
  simp only [Datum.order]
  intro hc
  injection hc with hc
  rw [Int.compare_eq_gt] at hc
  have e1 : min e 971 = e:=by omega
  rw [e1] at hc
  simp only [signed,Int.sub_self,Int.toNat_zero,Nat.shiftLeft_zero,Bool.false_eq_true,if_false] at hc
  have h4 : (9007199254740991 : Nat) ≤ 9007199254740991 <<< (971 - e).toNat:=by
    rw [Nat.shiftLeft_eq]
    exact Nat.le_mul_of_pos_right _ (Nat.two_pow_pos _)
  have h5 : (if s = true then (-(m : Int)) else (m : Int)) ≤ m:=by split <;> omega
  omega
theorem log_lt {m k : Nat} (h0 : m ≠ 0) (h : m < 2 ^ k) : m.log2 < k:=(Nat.log2_lt h0).2 h
theorem near_fin (s : Bool) (m : Nat) (e : Int) (hm : m < 16777216) (h1 : -149 ≤ e) (h2 : e ≤ 104) : Fin (double.nearest s m e) ∧ double.nearest s m e < 18446744073709551616:=by
  have hword : ∀ r,r < 9218868437227405312 → Fin (double.word s r) ∧ double.word s r < 18446744073709551616:=by
    intro r hr
    unfold Fin
    cases s
    · show r % 9223372036854775808 < _ ∧ r < _
      omega
    · show (9223372036854775808 + r) % 9223372036854775808 < _ ∧ 9223372036854775808 + r < _
      omega
  unfold Format.nearest
  by_cases h0 : m = 0
  · rw [if_pos h0]; exact hword 0 (by decide)
  · rw [if_neg h0]
    have hl : m.log2 < 24:=log_lt h0 hm
    have hlast : max (e + (m.log2 : Int) - (double.fractionBits : Nat)) double.leastPlace = e + m.log2 - 52:=by
      have : double.leastPlace = -1074:=rfl
      rw [this]
      show max (e + (m.log2 : Int) - 52) (-1074) = _
      omega
    simp only [hlast]
    have d1 : (e - (e + m.log2 - 52)).toNat = 52 - m.log2:=by omega
    have d2 : ((e + m.log2 - 52) - e).toNat = 0:=by omega
    rw [d1,d2]
    apply hword
    have hk : Toward.even.cut s (m <<< (52 - m.log2)) 0 = m <<< (52 - m.log2):=by
      simp [Toward.cut,Nat.mod_one]
    rw [hk]
    have hs : m <<< (52 - m.log2) < 9007199254740992:=by
      rw [Nat.shiftLeft_eq]
      have a1 : m < 2 ^ (m.log2 + 1):=Nat.lt_log2_self
      have a2 : m * 2 ^ (52 - m.log2) < 2 ^ (m.log2 + 1) * 2 ^ (52 - m.log2):=Nat.mul_lt_mul_of_pos_right a1 (Nat.two_pow_pos _)
      rw [← Nat.pow_add,show m.log2 + 1 + (52 - m.log2) = 53 by omega] at a2
      exact a2
    have d3 : (e + m.log2 - 52 - double.leastPlace).toNat ≤ 1149:=by
      have : double.leastPlace = -1074:=rfl
      rw [this]; omega
    have d4 : (e + m.log2 - 52 - double.leastPlace).toNat * 4503599627370496 ≤ 1149 * 4503599627370496:=Nat.mul_le_mul_right _ d3
    refine Nat.lt_of_le_of_lt (Nat.min_le_left _ _) ?_
    show (e + m.log2 - 52 - double.leastPlace).toNat * 4503599627370496 + _ < _
    omega
theorem andNot63 (a : BitVec 64) : (a &&& ~~~(9223372036854775808#64)).toNat = a.toNat % 9223372036854775808:=by
  rw [show (9223372036854775808 : Nat) = 2 ^ 63 from rfl]
  apply Nat.eq_of_testBit_eq
  intro i
  rw [Nat.testBit_mod_two_pow,BitVec.testBit_toNat,BitVec.testBit_toNat,BitVec.getLsbD_and,BitVec.getLsbD_not,show (BitVec.ofNat 64 (2 ^ 63)) = BitVec.twoPow 64 63 from by decide,BitVec.getLsbD_twoPow]
  by_cases h : i < 63
  · have h1 : ¬ 63 = i:=by omega
    simp [h,h1,show i < 64 by omega]
  · by_cases h2 : i = 63
    · subst h2; simp
    · have h3 : ¬ i < 64:=by omega
      simp [h,h3]
theorem clear_sign (x : Nat) : (bits .andNot .u64 (x : Int) 9223372036854775808).toNat = x % 9223372036854775808:=by
  have e : bits .andNot .u64 (x : Int) 9223372036854775808 = IntKind.u64.wrap ((BitVec.ofInt 64 (x : Int) &&& ~~~(9223372036854775808#64)).toNat : Nat):=rfl
  rw [e,andNot63]
  have h : (BitVec.ofInt 64 (x : Int)).toNat = x % 18446744073709551616:=by
    rw [BitVec.ofInt_natCast,BitVec.toNat_ofNat]
  rw [h]
  have e1 : (2 ^ IntKind.u64.bits : Int) = 18446744073709551616:=by decide
  simp only [IntKind.wrap,e1,show IntKind.u64.signed = false from rfl,Bool.false_and,Bool.false_eq_true,if_false]
  omega
theorem conv_fin {w : Nat} (h : w % 2147483648 < 2139095040) : ∃ r,floatToFloatBits .f32 w .f64 = some r ∧ Fin r ∧ r < 18446744073709551616:=by
  have key : ∀ s m e,single.read w = .number s m e → m < 16777216 → -149 ≤ e → e ≤ 104 → ∃ r,floatToFloatBits .f32 w .f64 = some r ∧ Fin r ∧ r < 18446744073709551616:=by
    intro s m e h1 h2 h3 h4
    obtain ⟨k1,k2⟩:=near_fin s m e h2 h3 h4
    refine ⟨double.nearest s m e,?_,k1,k2⟩
    have h1' : FloatKind.f32.decode w = .number s m e:=h1
    have hi : (FloatKind.f64.decode (FloatKind.f64.encode (.number s m e))).isInfinity = false:=by
      obtain ⟨s',m',e',q,_⟩:=fin_read k1
      show (double.read (double.nearest s m e)).isInfinity = false
      rw [q]; rfl
    unfold floatToFloatBits
    rw [if_neg (by decide),h1']
    simp only [hi,Bool.false_eq_true,if_false]
    rfl
  have hr:=sread w
  by_cases h1 : w % 2147483648 < 8388608
  · rw [if_pos h1] at hr
    exact key _ _ _ hr (by omega) (by omega) (by omega)
  · rw [if_neg h1,if_pos h] at hr
    exact key _ _ _ hr (by omega) (by omega) (by omega)
theorem conv_inf {w : Nat} (h : w % 2147483648 = 2139095040) : ∃ r,floatToFloatBits .f32 w .f64 = some r ∧ Inf r ∧ r < 18446744073709551616:=by
  have hr:=sread w
  rw [if_neg (by omega),if_neg (by omega),if_pos h] at hr
  generalize (w / 2147483648 % 2 == 1) = s at hr
  have hr' : FloatKind.f32.decode w = .infinity s:=hr
  refine ⟨FloatKind.f64.encode (.infinity s),?_,?_⟩
  · unfold floatToFloatBits
    rw [if_neg (by decide),hr']
  · unfold Inf
    cases s <;> exact ⟨by decide,by decide⟩
theorem conv_nan {P : Program} {W : World} {w : Nat} (src dst : TypeId) (hs : (P.underlying src).isSome = true) (hd : P.underlying dst = some (.float .f64)) (h : 2139095040 < w % 2147483648) : ∃ r,(convert src dst (.float .f32 w)).run P W = .ok (.float .f64 r) W.drew ∧ NaN r ∧ r < 18446744073709551616:=by
  have hr:=sread w
  rw [if_neg (by omega),if_neg (by omega),if_neg (by omega)] at hr
  have hr' : FloatKind.f32.decode w = _:=hr
  obtain ⟨u,hs'⟩:=Option.isSome_iff_exists.1 hs
  refine ⟨(Question.nanConv .f64 w).cut (W.tape W.drawn (.nanConv .f64 w)),?_,?_⟩
  · have hc : ∀ W : World,(Conv.floatToFloat .f32 w .f64).run P W = .ok (.float .f64 ((Question.nanConv .f64 w).cut (W.tape W.drawn (.nanConv .f64 w)))) W.drew:=by
      intro W
      unfold Conv.floatToFloat
      rw [if_neg (by decide),hr']
      rfl
    cases u <;> simp only [convert,run_underlying hs',run_underlying hd,Sem.run_bind,Result.andThen_ok,hc]
  · simp only [Question.cut,NaN]
    generalize W.tape W.drawn (Question.nanConv FloatKind.f64 w) = t
    have hy : t / 2 % (2 ^ 52 - 1) < 4503599627370495:=Nat.mod_lt _ (by decide)
    generalize t / 2 % (2 ^ 52 - 1) = y at hy
    rcases Nat.mod_two_eq_zero_or_one t with h | h <;> rw [h] <;> constructor <;> omega
end Go.Fl

/- Chapter 04: which bits are those of a right float: the program's function,walked in the model. -/
set_option maxRecDepth 100000
set_option maxHeartbeats 4000000
namespace Go.Fl
open Go Ieee Go.Proofs Go.RowKit Go.Lib
theorem isNaN_in (x : Nat) (w : World) : Calls Tryd.prog 106 #[.float .f64 x] w fun e w' => e = .returned (.bool (double.order x x != some .eq)) ∧ w' = w:=by
  go_enter Tryd.func106,Tryd.ntmps106
  go_wp2
  go_ret
  exact ⟨rfl,rfl⟩
theorem fbits_in (x : Nat) (w : World) : (callFunc 111 #[.float .f64 x]).run Tryd.prog w = .ok (.value (.int .u64 x)) w:=by
  rw [run_callFunc_extern Tryd.func111 (by kernel_rfl) (by kernel_rfl) (by kernel_rfl) (e:=Extern.MathFloatBits.float64bits) (by kernel_rfl)]
  rfl
theorem ffrom_in (x : Int) (w : World) : (callFunc 110 #[.int .u64 x]).run Tryd.prog w = .ok (.value (.float .f64 x.toNat)) w:=by
  rw [run_callFunc_extern Tryd.func110 (by kernel_rfl) (by kernel_rfl) (by kernel_rfl) (e:=Extern.MathFloatBits.float64frombits) (by kernel_rfl)]
  rfl
theorem f32_in (x : Int) (w : World) : (callFunc 105 #[.int .u32 x]).run Tryd.prog w = .ok (.value (.float .f32 x.toNat)) w:=by
  rw [run_callFunc_extern Tryd.func105 (by kernel_rfl) (by kernel_rfl) (by kernel_rfl) (e:=Extern.MathFloatBits.float32frombits) (by kernel_rfl)]
  rfl
theorem abs_in (x : Nat) (w : World) : Calls Tryd.prog 109 #[.float .f64 x] w fun e w' => e = .returned (.float .f64 (x % 9223372036854775808)) ∧ w' = w:=by
  go_enter Tryd.func109,Tryd.ntmps109
  go_wp2_with (simp only [fbits_in,ffrom_in])
  go_ret
  exact ⟨by rw [← clear_sign]; rfl,rfl⟩
theorem isInf_in (x : Nat) (w : World) : Calls Tryd.prog 107 #[.float .f64 x,.int .i64 0] w fun e w' => e = .returned (.bool (double.order (x % 9223372036854775808) 9218868437227405311 == some .gt)) ∧ w' = w:=by
  go_enter Tryd.func107,Tryd.ntmps107
  go_wp2_with (first | (go_at_call 109; refine (abs_in _ _).mono ?_; rintro e w1 ⟨rfl,rfl⟩))
  go_ret
  exact ⟨rfl,rfl⟩
theorem u32_of {b : Int} {v : Nat} (h : b % 4294967296 = v) : IntKind.u32.wrap b = (v : Int):=by
  have e1 : (2 ^ IntKind.u32.bits : Int) = 4294967296:=by decide
  simp only [IntKind.wrap,e1,show IntKind.u32.signed = false from rfl,Bool.false_and,Bool.false_eq_true,if_false]
  omega
theorem right_fin (b : Int) (v : Nat) (hv : b % 4294967296 = v) (w : World) (h : v % 2147483648 < 2139095040) : Calls Tryd.prog 102 #[.int .u64 b] w fun e w' => e = .returned (.bool ((v : Int) != 2147483648)) ∧ w' = w:=by
  obtain ⟨r,hr,hF,_⟩:=conv_fin h
  have hc : ∀ W,(convert 152 151 (.float .f32 v)).run Tryd.prog W = .ok (.float .f64 r) W:=fun W => run_convert_float_float W _ _ _ _ _ _ (by kernel_rfl) (by kernel_rfl) hr
  have hN:=self_fin hF
  have hI : double.order (r % 9223372036854775808) 9218868437227405311 ≠ some .gt:=max_fin (by unfold Fin at hF ⊢; omega)
  have hI' : (double.order (r % 9223372036854775808) 9218868437227405311 == some .gt) = false:=by simpa using hI
  have hN' : (double.order r r != some .eq) = false:=by rw [hN]; rfl
  have hu:=u32_of hv
  clear hr hF hI hN
  go_enter Tryd.func102,Tryd.ntmps102
  go_wp2_with (first | (simp only [f32_in,hu,Int.toNat_natCast,hc]) | (go_at_call 106; refine (isNaN_in _ _).mono ?_; rintro e w1 ⟨rfl,rfl⟩; rw [hN']) | (go_at_call 107; refine (isInf_in _ _).mono ?_; rintro e w1 ⟨rfl,rfl⟩; rw [hI']))
  go_ret
  exact ⟨rfl,rfl⟩
theorem right_inf (b : Int) (v : Nat) (hv : b % 4294967296 = v) (w : World) (h : v % 2147483648 = 2139095040) : Calls Tryd.prog 102 #[.int .u64 b] w fun e w' => e = .returned (.bool false) ∧ w' = w:=by
  obtain ⟨r,hr,hF,_⟩:=conv_inf h
  have hc : ∀ W,(convert 152 151 (.float .f32 v)).run Tryd.prog W = .ok (.float .f64 r) W:=fun W => run_convert_float_float W _ _ _ _ _ _ (by kernel_rfl) (by kernel_rfl) hr
  have hN:=self_inf hF
  have hI : double.order (r % 9223372036854775808) 9218868437227405311 = some .gt:=max_inf (by unfold Inf at hF ⊢; omega) (Nat.mod_lt _ (by decide))
  have hI' : (double.order (r % 9223372036854775808) 9218868437227405311 == some .gt) = true:=by simpa using hI
  have hN' : (double.order r r != some .eq) = false:=by rw [hN]; rfl
  have hu:=u32_of hv
  clear hr hF hI hN
  go_enter Tryd.func102,Tryd.ntmps102
  go_wp2_with (first | (simp only [f32_in,hu,Int.toNat_natCast,hc]) | (go_at_call 106; refine (isNaN_in _ _).mono ?_; rintro e w1 ⟨rfl,rfl⟩; rw [hN']) | (go_at_call 107; refine (isInf_in _ _).mono ?_; rintro e w1 ⟨rfl,rfl⟩; rw [hI']))
  go_ret
  exact ⟨rfl,rfl⟩
theorem right_nan (b : Int) (v : Nat) (hv : b % 4294967296 = v) (w : World) (h : 2139095040 < v % 2147483648) : Calls Tryd.prog 102 #[.int .u64 b] w fun e w' => e = .returned (.bool false) ∧ w' = w.drew:=by
  obtain ⟨r,hc,hF,_⟩:=conv_nan (P:=Tryd.prog) (W:=w) 152 151 (by kernel_rfl) (by kernel_rfl) h
  have hN:=self_nan hF
  have hN' : (double.order r r != some .eq) = true:=by rw [hN]; rfl
  have hu:=u32_of hv
  clear hF hN
  go_enter Tryd.func102,Tryd.ntmps102
  go_wp2_with (first | (simp only [f32_in,hu,Int.toNat_natCast,hc]) | (go_at_call 106; refine (isNaN_in _ _).mono ?_; rintro e w1 ⟨rfl,rfl⟩; rw [hN']))
  go_ret
  exact ⟨rfl,rfl⟩
theorem right_in (b : Int) (w : World) : Calls Tryd.prog 102 #[.int .u64 b] w fun e w' => e = .returned (.bool (Vm.rfOk b)) ∧ (w' = w ∨ w' = w.drew):=by
  obtain ⟨v,hv⟩ : ∃ v : Nat,b % 4294967296 = v:=⟨(b % 4294967296).toNat,by omega⟩
  have hv2 : v < 4294967296:=by omega
  have hr : Vm.rfOk b = (decide ((v : Int) / 8388608 % 256 ≠ 255) && decide ((v : Int) ≠ 2147483648)):=by
    unfold Vm.rfOk; rw [hv]
  rcases Nat.lt_trichotomy (v % 2147483648) 2139095040 with h | h | h
  · refine (right_fin b v hv w h).mono fun e w' ⟨h1,h2⟩ => ⟨?_,.inl h2⟩
    have e1 : (v : Int) / 8388608 % 256 ≠ 255:=by omega
    rw [h1,hr,decide_eq_true e1,Bool.true_and]
    by_cases h3 : (v : Int) = 2147483648
    · simp [h3]
    · simp [h3]
  · refine (right_inf b v hv w h).mono fun e w' ⟨h1,h2⟩ => ⟨?_,.inl h2⟩
    have e1 : ¬ ((v : Int) / 8388608 % 256 ≠ 255):=by omega
    rw [h1,hr,decide_eq_false e1,Bool.false_and]
  · refine (right_nan b v hv w h).mono fun e w' ⟨h1,h2⟩ => ⟨?_,.inr h2⟩
    have e1 : ¬ ((v : Int) / 8388608 % 256 ≠ 255):=by omega
    rw [h1,hr,decide_eq_false e1,Bool.false_and]
end Go.Fl

/- Chapter 04: the machine's calls are the model's calls. -/
set_option maxRecDepth 100000
namespace Go.Vm.P4D
open Go Go.Vm Go.Vm.P4 Go.Proofs Go.Shelf Go.Proofs.YtgbmhofpndjdoaaDoor
def renI : Ren:=⟨fun n => match n with | 21 => 88 | 27 => 98 | 28 => 99 | 35 => 104 | 39 => 108 | k => k,fun n => match n with | 22 => 24 | k => k,fun x => x⟩
theorem lays21 : Lays2.n21 Tryd.prog renI where
  mixed:=by kernel_rfl
  f21:=by kernel_rfl
  f27:=by kernel_rfl
  f28:=by kernel_rfl
  f35:=by kernel_rfl
  f39:=by kernel_rfl
  t0:=Tryd.underlying0
  a0:=Tryd.isAgg0
  z0:=Tryd.sizeOf0
  v0:=Tryd.zeroValue0
  t3:=Tryd.underlying3
  a3:=Tryd.isAgg3
  z3:=Tryd.sizeOf3
  v3:=Tryd.zeroValue3
  t4:=Tryd.underlying4
  a4:=Tryd.isAgg4
  z4:=Tryd.sizeOf4
  v4:=Tryd.zeroValue4
  t22:=Tryd.underlying24
  a22:=Tryd.isAgg24
  z22:=Tryd.sizeOf24
  v22:=Tryd.zeroValue24
  i3:=by kernel_rfl
theorem ins_entry : Entry Tryd.prog 88:=fn_entry Tryd.func88 (by kernel_rfl) (by kernel_rfl)
theorem follows : Tryd.prog.follows .mixedOrders = true:=by kernel_rfl
theorem rf_ok : PrimOk Tryd.prog glob 102 rfPrim:=by
  refine ⟨fn_entry Tryd.func102 (by kernel_rfl) (by kernel_rfl),?_⟩
  intro args st v st' m F L W vs hg R up hsz hr
  unfold rfPrim at hg
  split at hg
  · rename_i k b
    split at hg
    · rename_i hk
      subst hk
      simp only [Option.some.injEq,Prod.mk.injEq] at hg
      obtain ⟨rfl,rfl⟩:=hg
      have r0:=hr 0 _ rfl
      have e1 : vs = #[vs.getD 0 undef]:=by
        have h1 : vs.size = 1:=hsz
        apply Array.ext
        · simp [h1]
        · intro j h2 h3
          have : j = 0:=by omega
          subst this
          simp [Array.getD_eq_getD_getElem?,h2]
      rw [e1]
      generalize vs.getD 0 undef = x0 at r0 ⊢
      cases r0 with
      | imm _ _ h =>
      cases h
      refine callsIn_wide.2 ((Fl.right_in b W).mono fun e w ⟨h1,h2⟩ => ?_)
      rcases h2 with rfl | rfl
      · exact ⟨_,m,F,h1,Grow.refl _ m F _,R,up,.imm _ _ (.bool _),fun b h => .inl h,fun i b h => .inl ⟨i,h⟩⟩
      · have T:=tr_drewn (own m (sto st)) W
        exact ⟨_,m,F,h1,⟨fun _ _ h => h,fun _ h => h,fun _ h => .inl h,T⟩,
          Rel.mono R (tr_drewn (fun _ => False) W) (fun _ _ h => h) R.hm (fun _ h => h) R.hF (fun _ _ _ _ h => h) (fun _ _ h => h) R.nF,up,.imm _ _ (.bool _),fun b h => .inl h,fun i b h => .inl ⟨i,h⟩⟩
    · cases hg
  · cases hg
theorem prims_ok : ∀ f g,E.prim f = some g → PrimOk Tryd.prog glob f g:=by
  intro f g h
  change (if f = 88 then some insPrim else if f = 102 then some rfPrim else none) = some g at h
  split at h
  · rename_i e
    subst e
    injection h with h
    subst h
    exact ins_ok (ρ:=renI) lays21 ins_entry
  · split at h
    · rename_i e
      subst e
      injection h with h
      subst h
      exact rf_ok
    · cases h
theorem lev (n : Nat) (p : XP) : LowerOk Tryd.prog glob (XC Tryd.prog glob p) (level E n):=level_okP E follows fns_ok prims_ok n p
theorem call_ok {n : Nat} {f : FuncId} {ds : List D} {d : D} {vs : Array Value} {W : World} (p : XP) (h : callP (level E n) f ds = some d) (hw : laidMetH Tryd.prog laidW W) (hs : vs.size = ds.length) (hr : ∀ j d,ds[j]? = some d → RepD (Old W) W d (vs.getD j undef)) :
    Calls Tryd.prog f vs W fun e w => ∃ r F,e = .returned r ∧ Tr (fun _ => False) W w ∧ RepD F w d r:=by
  have R : Rel glob (fun _ => none) (Old W) none W (fun _ => AO.dead) :=
    ⟨glob_ok hw,fun i h => absurd rfl h,fun i j b h => by simp [lv] at h,fun i b h => by simp [lv] at h,fun b h => h,fun i b h => by cases h⟩
  exact (callsIn_wide.1 (callP_core (lev n p) h R (fun b h => h) (fun b h => h) hs hr)).mono fun e w ⟨r,F2,h1,h2,_,_,_,h3⟩ => ⟨r,F2,h1,h2,h3⟩
end Go.Vm.P4D

/- Chapter 04: what the rows and cards of the laws share. -/
set_option maxRecDepth 100000
namespace Go.Proofs.YtgbmhofpndjdoaaDoor
open Go Go.Vm Go.Vm.P4 Go.Vm.P4D Go.ChangeShapes Go.WideShapes Go.ChangeAt Go.RowKit
theorem ownT : ownKnob Tryd.prog.godebug = none:=by kernel_rfl
theorem laidOutT : laidOutB Tryd.prog = true:=by kernel_rfl
theorem door_met (os : Os) (args : Array Value) : laidMetH Tryd.prog laidW ((World.doorLaid Tryd.prog 2000 os).forCall (fun _ _ => 0) ⟨#[],args,[]⟩).memory :=
  laidMetH_of_parts3 (fuel:=8) (laidMet_of_run' 8 (by kernel_rfl) (by kernel_rfl)) (by kernel_rfl) (by kernel_rfl)
theorem below_of {W w : World} (h : Tr (fun _ => False) W w) : Below W.heap.size W w:=⟨h.os,h.tape,h.output,h.size,fun b hb => h.keep b hb (fun h => h)⟩
theorem bool_of {F : Nat → Prop} {w : World} {b : Bool} {r : Value} (h : RepD F w (.bool b) r) : r = .bool b:=by cases h; rfl
def anyXP : XP:=⟨fun _ => none,0,0,[],{ own:=false,dyn:=.pure,md:=[] },#[]⟩
end Go.Proofs.YtgbmhofpndjdoaaDoor
