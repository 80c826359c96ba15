/- A part of the proof that the law answers true for every input; the conditions are those of the card: the listed variable reads as the program lays it. -/
import Derived.Test.YtfhjkkjaaeohhaaDoorV3
import Derived.ControlIn
import Derived.RangeFuncRecord
import Derived.Test.YtfhjkkjaaeohhaaDoorProg
import Derived.KernelRfl
import Derived.ProofKit
import Derived.LaidMore
import Derived.OpenShut
import Derived.Test.YtfhjkkjaaeohhaaDoorTie
import Derived.Stop.Joined
import Derived.SevenTiedAt
import Derived.Test.YtfhjkkjaaeohhaaDoorCards
import Derived.WideShapes
set_option linter.unusedSimpArgs false
set_option linter.unusedVariables false
/- Soundness: every operation, one after the other. -/
namespace Go.Vm
open Go
def isQ : IOp → Bool
  | .store _ _ _ | .append _ _ _ _ | .mapup _ _ _ | .copy _ _ _ | .clear _ _ | .range _ | .next _ | .call _ _ _ | .bslice _ _ _ _ _ => false
  | _ => true
def spec : Op → Bool
  | .store _ _ _ | .mapUpdate _ _ _ _ | .range _ _ | .next _ _ | .call _ | .buildSlice _ _ _ => true
  | _ => false
section
variable {P : Program} {gb : Nat → Option (List D)} {X : XT} {C : Ctx} {o : Oper} {a : Act} {W W' : World} {m m2 : Nat → Option Nat} {F F1 F2 : Nat → Prop} {L : Option Nat} {XO : Nat → Prop} {st : List AO} {ext : Option Ext} {vars env : List AV} {nid : Nat} {ro : Option Nat} {lo : Lower}
theorem quiet_of {op : IOp} (hc : compOp P C o = some op) (hs : spec o.op = false) : isQ op = true := by
  unfold compOp at hc
  split at hc
  all_goals (try (rename_i ho; rw [ho] at hs; simp [spec] at hs; done))
  all_goals (repeat' first | (cases hc; done) | (subst hc; rfl) | (obtain ⟨_, _, hc⟩ := hc) | (simp only [bind, Option.bind_eq_some_iff, Option.map_eq_some_iff, Option.some.injEq] at hc; done) | (simp only [bind, Option.bind_eq_some_iff, Option.map_eq_some_iff, Option.some.injEq] at hc) | split at hc)
  all_goals rfl
theorem aOp_quiet {s : S} {op : IOp} (h : isQ op = true) : aOp lo vars env s op = match aQ lo vars env s.st s.st.length op with
    | some (v, news) => some (v, { s with st := s.st ++ news })
    | none => none := by
  cases op <;> first | rfl | cases h
theorem opnd_map {f : AV → AV} (h0 : f .junk = .junk) (h1 : ∀ d, f (.imm d) = .imm d) (vars env : List AV) (x : Opnd) : opnd (vars.map f) (env.map f) x = f (opnd vars env x) := by
  have key : ∀ (l : List AV) (i : Nat), (l.map f).getD i .junk = f (l.getD i .junk) := by
    intro l i
    simp only [List.getD_eq_getElem?_getD, List.getElem?_map]
    cases l[i]? with
    | none => simp [h0]
    | some v => simp
  cases x with
  | var i => exact key vars i
  | loc i => exact key env i
  | k d => exact (h1 d).symm
theorem fz_rep {F1 : Nat → Prop} {st2 : List AO} (R : Rel gb m F1 L W (sto st2)) {v : AV} {w : Value} (h : RepA m F1 L W v w) : RepA m F1 L W (fz st2 v) w := by
  unfold fz
  split
  · rename_i hz
    split
    · rename_i d hd
      exact .imm _ _ (deep_rep (stL := sto st2) (st := st2) R (fun _ h => h) v w d hd h (fun _ _ _ => rfl) (frz_in R hz fun _ _ _ => rfl))
    · exact h
  · exact h
theorem s_bslice (H : LowerOk P gb X lo) {s s' : S} {op : IOp} {own : Bool} {sz n : Nat} {z : List D} {ps : List (Nat × Opnd)} {v : AV} (hop : op = .bslice own sz z n ps) (hc : compOp P C o = some op) (S : St gb X m F L XO W s.st s.ext) (hr : OprOk C m F L W o a vars env) (h : aOp lo vars env s op = some (v, s')) :
    (Ok P ro o a W fun w W' => ∃ m' F' XO', Post gb X m F L XO W s.st v s'.st s'.ext w W' m' F' XO') ∧ s'.vars = s.vars := by
  subst hop
  simp only [aOp] at h
  split at h
  · rename_i st2 hz
    split at h
    · rename_i v' news hv
      simp only [Option.some.injEq, Prod.mk.injEq] at h
      obtain ⟨rfl, rfl⟩ := h
      refine ⟨?_, rfl⟩
      obtain ⟨F1, K⟩ := frz_all H.xm S hz
      have e0 : fz st2 .junk = .junk := by simp [fz, ids, isFrz, deep]
      have e1 : ∀ d, fz st2 (.imm d) = .imm d := by intro d; simp [fz, ids, isFrz, deep]
      have hq : aQ lo (vars.map (fz st2)) (env.map (fz st2)) st2 st2.length (.bslice own sz z n ps) = some (v', news) := by
        simp only [aQ, opnd_map e0 e1]
        exact hv
      have freeN : ∀ i, st2.length ≤ i → i < st2.length + news.length → m i = none := fun i hi _ => by
        cases hmi : m i with
        | none => rfl
        | some b => have := K.s.up i b hmi; omega
      have hr' : OprOk C m F1 L W o a (vars.map (fz st2)) (env.map (fz st2)) := by
        intro x x' hmem hx
        rw [opnd_map e0 e1]
        exact fz_rep K.s.R ((hr x x' hmem hx).mono (fun _ _ h => h) K.hF (fun _ _ => rfl) (fun _ _ h => h))
      exact (aQ_sound H hc K.s.R freeN hr' (fun _ _ _ => rfl) hq).mono fun w W' hp => K.post (QPost.post H.xm K.s hp)
    · cases h
  · cases h
theorem aCall_sound (H : LowerOk P gb X lo) {s s' : S} {md : Mode} {c : Call} {x : Operand} {x' : Opnd} {args' : List Opnd} {v : AV} (ho : o.op = .call c) (hcv : c.callee = .value x) (hx : compO C x = some x') (ha : compL C c.args.toList = some args') (S : St gb X m F L XO W s.st s.ext) (hr : OprOk C m F L W o a vars env)
    (h : aCall lo vars env s md x' args' = some (v, s')) : (Ok P ro o a W fun w W' => ∃ m' F' XO', Post gb X m F L XO W s.st v s'.st s'.ext w W' m' F' XO') ∧ s'.vars = s.vars := by
  have freeN : ∀ i, s.st.length ≤ i → m i = none := fun i hi => by
    cases hmi : m i with
    | none => rfl
    | some b => have := S.up i b hmi; omega
  unfold aCall at h
  simp only at h
  split at h
  · rename_i hy
    split at h
    · rename_i e ds hext hd
      split at h
      · rename_i e' b hround
        simp only [Option.some.injEq, Prod.mk.injEq] at h
        obtain ⟨rfl, rfl⟩ := h
        refine ⟨?_, rfl⟩
        rw [hext] at S
        exact s_yield H ho hcv hx ha S hr hy hd hround
      · cases h
    · cases h
  · split at h
    · cases h
    · rename_i f p q hf
      split at h
      · split at h
        · cases h
        · rename_i ds hd
          split at h
          · cases h
          · rename_i d hcall
            split at h
            · rename_i hok
              simp only [Option.some.injEq, Prod.mk.injEq] at h
              obtain ⟨rfl, rfl⟩ := h
              refine ⟨?_, rfl⟩
              have := q_callP (ro := ro) (nid := s.st.length) (stL := sto s.st) (st := s.st) H ho hcv hx ha S.R hr (fun _ _ _ => rfl) hf hd hcall (by simpa using hok)
              refine this.mono fun w W' hq => ?_
              have := QPost.post H.xm S hq
              rwa [List.append_nil] at this
            · split at h
              · rename_i st2 hz
                simp only [Option.some.injEq, Prod.mk.injEq] at h
                obtain ⟨rfl, rfl⟩ := h
                exact ⟨s_callP H ho hcv hx ha S hr hf hd hcall hz, rfl⟩
              · cases h
      · split at h
        · cases h
        · rename_i ds hd
          split at h
          · cases h
          · rename_i r hcall
            obtain ⟨r1, r2⟩ := r
            split at h
            · rename_i hok
              simp only [Option.some.injEq, Prod.mk.injEq] at h
              obtain ⟨rfl, rfl⟩ := h
              refine ⟨?_, rfl⟩
              have := q_callI (ro := ro) (nid := s.st.length) (stL := sto s.st) (st := s.st) H ho hcv hx ha S.R hr (fun _ _ _ => rfl) hf hd hcall (fun i hi _ => freeN i hi) (by simpa using hok)
              exact this.mono fun w W' hq => QPost.post H.xm S hq
            · split at h
              · rename_i st2 hz
                simp only [Option.some.injEq, Prod.mk.injEq] at h
                obtain ⟨rfl, rfl⟩ := h
                exact ⟨s_callI H ho hcv hx ha S hr hf hd hcall hz, rfl⟩
              · cases h
      · split at h
        · cases h
        · rename_i hok
          split at h
          · rename_i r hcall
            simp only [Option.some.injEq, Prod.mk.injEq] at h
            obtain ⟨rfl, rfl⟩ := h
            simp only [Bool.or_eq_true, Bool.not_eq_true', not_or, Bool.not_eq_true, Option.isSome_eq_false_iff, Option.isNone_iff_eq_none, Bool.not_eq_false] at hok
            exact ⟨s_sh H ho hcv hx ha S hr hf rfl hok.1 (fun i hi => by simpa using List.all_eq_true.1 hok.2 i hi) hcall, rfl⟩
          · cases h
theorem aOp_sound (H : LowerOk P gb X lo) {s s' : S} {op : IOp} {v : AV} (hc : compOp P C o = some op) (S : St gb X m F L XO W s.st s.ext) (hr : OprOk C m F L W o a vars env) (h : aOp lo vars env s op = some (v, s')) :
    (Ok P ro o a W fun w W' => ∃ m' F' XO', Post gb X m F L XO W s.st v s'.st s'.ext w W' m' F' XO') ∧ s'.vars = s.vars := by
  have freeN : ∀ i, s.st.length ≤ i → m i = none := fun i hi => by
    cases hmi : m i with
    | none => rfl
    | some b => have := S.up i b hmi; omega
  have quiet : isQ op = true → (Ok P ro o a W fun w W' => ∃ m' F' XO', Post gb X m F L XO W s.st v s'.st s'.ext w W' m' F' XO') ∧ s'.vars = s.vars := by
    intro hq
    rw [aOp_quiet hq] at h
    split at h
    · rename_i v' news hv
      simp only [Option.some.injEq, Prod.mk.injEq] at h
      obtain ⟨rfl, rfl⟩ := h
      exact ⟨(aQ_sound H hc S.R (fun i hi _ => freeN i hi) hr (fun _ _ _ => rfl) hv).mono fun w W' hq => QPost.post H.xm S hq, rfl⟩
    · cases h
  cases ho : o.op with
  | store t x y =>
    simp only [compOp, ho, bind, Option.bind_eq_some_iff, Option.some.injEq] at hc
    obtain ⟨n, hn, x', hx, y', hy, rfl⟩ := hc
    simp only [aOp] at h
    split at h
    · rename_i st2 hst
      simp only [Option.some.injEq, Prod.mk.injEq] at h
      obtain ⟨rfl, rfl⟩ := h
      exact ⟨s_store H.xm ho hn hx hy S hr hst, rfl⟩
    · cases h
  | mapUpdate t x y z =>
    simp only [compOp, ho] at hc
    split at hc
    · rename_i kt e hu
      split at hc
      · rename_i kd hk
        simp only [bind, Option.bind_eq_some_iff, Option.some.injEq] at hc
        obtain ⟨x', hx, y', hy, z', hz, rfl⟩ := hc
        exact s_mapup H.xm rfl rfl ho hu hk hx hy hz S hr h
      · cases hc
    · cases hc
  | buildSlice t n ps =>
    have hc0 := hc
    simp only [compOp, ho] at hc
    split at hc
    · simp only [bind, Option.bind_eq_some_iff, Option.some.injEq] at hc
      obtain ⟨sz, hsz, z, hz, qs, hq, rfl⟩ := hc
      exact s_bslice H rfl hc0 S hr h
    · cases hc
  | range t x =>
    simp only [compOp, ho] at hc
    split at hc
    · rename_i hu
      simp only [Option.map_eq_some_iff] at hc
      obtain ⟨x', hx, rfl⟩ := hc
      exact s_range H.xm rfl rfl ho hu hx S hr h
    · cases hc
  | next x b =>
    cases b with
    | false => simp [compOp, ho] at hc
    | true =>
      simp only [compOp, ho, Option.map_eq_some_iff] at hc
      obtain ⟨x', hx, rfl⟩ := hc
      exact s_next H.xm rfl rfl ho hx S hr h
  | call c =>
    obtain ⟨callee, args, argTypes⟩ := c
    cases callee with
    | invoke r n => simp [compOp, ho] at hc
    | value x =>
      simp only [compOp, ho, bind, Option.bind_eq_some_iff, Option.some.injEq] at hc
      obtain ⟨x', hx, args', ha, rfl⟩ := hc
      exact aCall_sound H ho rfl hx ha S hr h
    | builtin b =>
      have hc0 := hc
      simp only [compOp, ho] at hc
      split at hc
      · rename_i x t hargs htys
        refine quiet ?_
        split at hc <;> simp only [Option.map_eq_some_iff, reduceCtorEq] at hc
        all_goals (obtain ⟨x', hx, rfl⟩ := hc; rfl)
      · rename_i x y t u hargs htys
        split at hc
        · rename_i e e2 hu hu2
          simp only [bind, Option.bind_eq_some_iff, Option.some.injEq] at hc
          obtain ⟨z, hz, sz, hsz, by0, hby, x', hx, y', hy, rfl⟩ := hc
          simp only [aOp] at h
          split at h
          · rename_i v' news' happ
            simp only [Option.some.injEq, Prod.mk.injEq] at h
            obtain ⟨rfl, rfl⟩ := h
            refine ⟨?_, rfl⟩
            have := q_append (ro := ro) (nid := s.st.length) (stL := sto s.st) (st := s.st) ho rfl hargs htys hu hu2 hsz hby hz hx hy S.R (fun _ => freeN _ (Nat.le_refl _)) hr (fun _ _ _ => rfl) happ
            exact this.mono fun w W' hq => QPost.post H.xm S hq
          · rename_i v' id news' happ
            simp only [Option.some.injEq, Prod.mk.injEq] at h
            obtain ⟨rfl, rfl⟩ := h
            exact ⟨s_append H.xm ho rfl hargs htys hu hu2 hsz hby hz hx hy S hr happ, rfl⟩
          · cases h
        · cases hc
      · rename_i x y hargs
        simp only [bind, Option.bind_eq_some_iff, Option.some.injEq] at hc
        obtain ⟨x', hx, y', hy, rfl⟩ := hc
        exact quiet rfl
      · rename_i x y hargs
        simp only [bind, Option.bind_eq_some_iff, Option.some.injEq] at hc
        obtain ⟨x', hx, y', hy, rfl⟩ := hc
        exact quiet rfl
      · rename_i x y t u hargs htys
        split at hc
        · rename_i e hu
          simp only [bind, Option.bind_eq_some_iff, Option.some.injEq] at hc
          obtain ⟨sz, hsz, x', hx, y', hy, rfl⟩ := hc
          exact s_copy H.xm rfl rfl ho rfl hargs htys hu hsz hx hy S hr h
        · cases hc
      · rename_i x t hargs htys
        split at hc
        · rename_i e hu
          simp only [bind, Option.bind_eq_some_iff, Option.some.injEq] at hc
          obtain ⟨z, hz, x', hx, rfl⟩ := hc
          exact s_clear H.xm rfl rfl ho rfl hargs htys hu hz hx S hr h
        · cases hc
      · cases hc
  | _ => exact quiet (quiet_of hc (by rw [ho]; rfl))
end
end Go.Vm

/- Soundness: regions, one operation after the other. -/
namespace Go.Vm
open Go
section
variable {P : Program} {gb : Nat → Option (List D)} {X : XT} {C : Ctx} {o : Oper} {a a' : Act} {W W' W2 : World} {m m' m2 : Nat → Option Nat} {F F' F1 F2 : Nat → Prop} {L : Option Nat} {XO XO' XO2 : Nat → Prop} {st st' st2 : List AO} {ext : Option Ext} {vars env : List AV} {nid : Nat} {ro : Option Nat} {lo : Lower} {st0 : Sto}
structure Mv (nb : Nat) (m : Nat → Option Nat) (F XO : Nat → Prop) (W : World) (st : List AO) (m' : Nat → Option Nat) (F' XO' : Nat → Prop) (W' : World) (st' : List AO) : Prop where
  hm : ∀ i b, i < nb → m i = some b → m' i = some b
  hF : ∀ b, F b → F' b
  nF : ∀ b, F' b → F b ∨ ownA m st XO b ∨ W.heap.size ≤ b
  tr : Tr (ownA m st XO) W W'
  ow : ∀ b, own m' (sto st') b → own m (sto st) b ∨ W.heap.size ≤ b
  xo : ∀ b, XO' b → XO b ∨ W.heap.size ≤ b
  rg : ∀ i b, m' i = some b → (∃ j, m j = some b) ∨ W.heap.size ≤ b
theorem Mv.refl (nb : Nat) : Mv nb m F XO W st m F XO W st :=
  ⟨fun _ _ _ h => h, fun _ h => h, fun _ h => .inl h, Tr.refl _ _, fun _ h => .inl h, fun _ h => .inl h, fun i _ h => .inl ⟨i, h⟩⟩
theorem Mv.trans {nb : Nat} (h : Mv nb m F XO W st m' F' XO' W' st') (k : Mv nb m' F' XO' W' st' m2 F2 XO2 W2 st2) : Mv nb m F XO W st m2 F2 XO2 W2 st2 := by
  have hs := h.tr.size
  have hO : ∀ b, ownA m' st' XO' b → ownA m st XO b ∨ W.heap.size ≤ b := fun b hb => by
    rcases hb with hb | hb
    · exact (h.ow b hb).imp .inl id
    · exact (h.xo b hb).imp .inr id
  refine ⟨fun i b hi hb => k.hm i b hi (h.hm i b hi hb), fun b hb => k.hF b (h.hF b hb), fun b hb => ?_, h.tr.trans k.tr fun b hb h1 => (hO b h1).resolve_right (by omega), fun b hb => ?_, fun b hb => ?_, fun i b hb => ?_⟩
  · rcases k.nF b hb with h1 | h1 | h1
    · exact h.nF b h1
    · exact .inr (hO b h1)
    · exact .inr (.inr (Nat.le_trans hs h1))
  · rcases k.ow b hb with h1 | h1
    · exact h.ow b h1
    · exact .inr (Nat.le_trans hs h1)
  · rcases k.xo b hb with h1 | h1
    · exact h.xo b h1
    · exact .inr (Nat.le_trans hs h1)
  · rcases k.rg i b hb with ⟨j, h1⟩ | h1
    · exact h.rg j b h1
    · exact .inr (Nat.le_trans hs h1)
theorem Post.mv (nb : Nat) {v : AV} {w : Value} {ext' : Option Ext} (p : Post gb X m F L XO W st v st' ext' w W' m' F' XO') : Mv nb m F XO W st m' F' XO' W' st' :=
  ⟨fun i b _ h => p.gr.hm i b h, p.gr.hF, p.gr.nF, p.gr.tr, p.ow, p.xo, p.rg⟩
theorem St.FO (S : St gb X m F L XO W st ext) : ∀ b, F b → ¬ ownA m st XO b := fun b hb h => by
  rcases h with h | h
  · exact (S.ownF b hb).2 h
  · cases L with
    | none => cases ext with
      | none => exact S.x b h
      | some e => exact S.x.elim
    | some l => cases ext with
      | none => exact S.x.elim
      | some e => exact (S.x.2 b h).2 hb
theorem Post.rep {v u : AV} {w z : Value} {ext' : Option Ext} (S : St gb X m F L XO W st ext) (p : Post gb X m F L XO W st v st' ext' w W' m' F' XO') (h : RepA m F L W u z) : RepA m' F' L W' u z :=
  p.gr.rep S.R.hF S.FO h
theorem idxOf_get {α : Type} [BEq α] [LawfulBEq α] {l : List α} {x : α} {j : Nat} (h : l.idxOf? x = some j) : l[j]? = some x := by
  rw [List.idxOf?, List.findIdx?_eq_some_iff_getElem] at h
  obtain ⟨hj, h1, _⟩ := h
  rw [List.getElem?_eq_getElem hj]
  simpa using h1
structure Vr (nt : Nat) (slots : List Nat) (m : Nat → Option Nat) (F : Nat → Prop) (L : Option Nat) (W : World) (a : Act) (vars : List AV) : Prop where
  sz : nt ≤ a.tmps.size
  ln : vars.length = slots.length
  vr : ∀ i t, slots[i]? = some t → RepA m F L W (vars.getD i .junk) (a.tmps.getD t undef)
def Lc (slots : List Nat) (dsts : List (Option Nat)) (m : Nat → Option Nat) (F : Nat → Prop) (L : Option Nat) (W : World) (a : Act) (env : List AV) : Prop :=
  ∀ i t, i < env.length → dsts[i]? = some (some t) → t ∉ slots → RepA m F L W (env.getD i .junk) (a.tmps.getD t undef)
theorem opr_ok2 (hg : C.glob = gb) (R : Rel gb m F L W st0) (hv : ∀ i t, Operand.tmp t ∈ o.op.operands → C.slots[i]? = some t → RepA m F L W (vars.getD i .junk) (a.tmps.getD t undef))
    (hl : ∀ p t, Operand.tmp t ∈ o.op.operands → p < env.length → C.dsts[p]? = some (some t) → t ∉ C.slots → RepA m F L W (env.getD p .junk) (a.tmps.getD t undef)) : OprOk C m F L W o a vars env := by
  intro x x' hmem hx
  cases x with
  | tmp t =>
    simp only [compO] at hx
    split at hx
    · rename_i i hi
      injection hx with hx; subst hx
      exact hv i t hmem (idxOf_get hi)
    · rename_i hi
      rw [Option.map_eq_some_iff] at hx
      obtain ⟨i, hd, rfl⟩ := hx
      have hn : t ∉ C.slots := by
        intro hmem
        have : (C.slots.idxOf? t).isSome := by simpa [List.idxOf?_eq_none_iff] using hmem
        rw [hi] at this; cases this
      show RepA m F L W (env.getD i .junk) _
      by_cases hlt : i < env.length
      · exact hl i t hmem hlt (idxOf_get hd) hn
      · rw [List.getD_eq_getElem?_getD, List.getElem?_eq_none (by omega)]
        exact .junk _
  | const v =>
    simp only [compO, Option.map_eq_some_iff] at hx
    obtain ⟨d, hd, rfl⟩ := hx
    exact .imm _ _ (rep_const hd)
  | global g =>
    simp only [compO, Option.map_eq_some_iff] at hx
    obtain ⟨cs, hc, rfl⟩ := hx
    rw [hg] at hc
    exact .imm _ _ (R.gl g cs hc)
  | func f =>
    simp only [compO, Option.some.injEq] at hx
    subst hx
    exact .imm _ _ (.fn f [] [] #[] #[] rfl rfl (by simp) (by simp))
theorem opr_ok {nt : Nat} (hg : C.glob = gb) (R : Rel gb m F L W (sto st)) (hv : Vr nt C.slots m F L W a vars) (hl : Lc C.slots C.dsts m F L W a env) : OprOk C m F L W o a vars env :=
  opr_ok2 hg R (fun i t _ h => hv.vr i t h) (fun p t _ h1 h2 h3 => hl p t h1 h2 h3)
theorem put_get {dst : Option Tmp} {v : Value} {t : Nat} (h : dst ≠ some t) : (a.put dst v).tmps.getD t undef = a.tmps.getD t undef := by
  cases dst with
  | none => rfl
  | some d =>
    have : d ≠ t := fun e => h (e ▸ rfl)
    simp [Act.put, Array.getD_eq_getD_getElem?, Array.getElem?_setIfInBounds_ne this]
theorem put_self {v : Value} {t : Nat} (h : t < a.tmps.size) : (a.put (some t) v).tmps.getD t undef = v := by
  simp [Act.put, Array.getD_eq_getD_getElem?, h]
theorem put_size {dst : Option Tmp} {v : Value} : (a.put dst v).tmps.size = a.tmps.size := by
  cases dst <;> simp [Act.put]
theorem Vr.mono {nt : Nat} {slots : List Nat} (h : Vr nt slots m F L W a vars) (hr : ∀ v w, RepA m F L W v w → RepA m' F' L W' v w) : Vr nt slots m' F' L W' a vars := ⟨h.sz, h.ln, fun i t ht => hr _ _ (h.vr i t ht)⟩
theorem Vr.put {nt : Nat} {slots : List Nat} {dst : Option Nat} {v : AV} {w : Value} (h : Vr nt slots m F L W a vars) (hn : slots.Nodup) (hd : ∀ t, dst = some t → t < nt) (hr : RepA m F L W v w) :
    Vr nt slots m F L W (a.put dst w) (setW vars (dst.bind fun d => slots.idxOf? d) v) := by
  have hsz := h.sz
  have hln : (setW vars (dst.bind fun d => slots.idxOf? d) v).length = vars.length := by
    unfold setW; split <;> simp
  refine ⟨by rw [put_size]; exact hsz, hln.trans h.ln, fun i t ht => ?_⟩
  have hil := (List.getElem?_eq_some_iff.1 ht).1
  by_cases e : dst = some t
  · subst e
    rw [put_self (by have := hd t rfl; omega)]
    have hi : slots.idxOf? t = some i := idx_of hn ht
    simp only [Option.bind_some, hi, setW]
    rw [List.getD_eq_getElem?_getD, List.getElem?_set_self (by rw [h.ln]; exact hil)]
    exact hr
  · rw [put_get e]
    have : (setW vars (dst.bind fun d => slots.idxOf? d) v).getD i .junk = vars.getD i .junk := by
      cases dst with
      | none => rfl
      | some d =>
        simp only [Option.bind_some]
        cases hj : slots.idxOf? d with
        | none => rfl
        | some j =>
          have hji : j ≠ i := by
            rintro rfl
            have := idxOf_get hj
            rw [ht] at this; injection this with this; subst this; exact e rfl
          simp only [setW, List.getD_eq_getElem?_getD]
          rw [List.getElem?_set_ne hji]
    rw [this]; exact h.vr i t ht
theorem uniq {slots : List Nat} : ∀ {ops : List Oper}, ((ops.filterMap (·.dst)).filter fun d => !slots.contains d).Nodup → ∀ (i j t : Nat), i < j → (ops.map (·.dst))[i]? = some (some t) → (ops.map (·.dst))[j]? = some (some t) → t ∈ slots
  | [], _, i, j, t, _, h, _ => by simp at h
  | o :: r, hn, i, j, t, hij, h1, h2 => by
    obtain ⟨j, rfl⟩ : ∃ k, j = k + 1 := ⟨j - 1, by omega⟩
    simp only [List.map_cons, List.getElem?_cons_succ] at h2
    apply Classical.byContradiction
    intro hc
    cases i with
    | zero =>
      simp only [List.map_cons, List.getElem?_cons_zero, Option.some.injEq] at h1
      rw [List.filterMap_cons_some h1, List.filter_cons_of_pos (by simpa using hc), List.nodup_cons] at hn
      refine hn.1 (List.mem_filter.2 ⟨List.mem_filterMap.2 ?_, by simpa using hc⟩)
      rw [List.getElem?_map, Option.map_eq_some_iff] at h2
      obtain ⟨o', ho', hd⟩ := h2
      exact ⟨o', List.mem_of_getElem? ho', hd⟩
    | succ i =>
      simp only [List.map_cons, List.getElem?_cons_succ] at h1
      have hn' : ((r.filterMap (·.dst)).filter fun d => !slots.contains d).Nodup := by
        cases hd : o.dst with
        | none => rwa [List.filterMap_cons_none hd] at hn
        | some d =>
          rw [List.filterMap_cons_some hd] at hn
          by_cases hp : (!slots.contains d) = true
          · rw [List.filter_cons_of_pos (p := fun d => !slots.contains d) hp, List.nodup_cons] at hn; exact hn.2
          · rwa [List.filter_cons_of_neg (p := fun d => !slots.contains d) hp] at hn
      exact hc (uniq hn' i j t (by omega) h1 h2)
theorem Lc.put {slots : List Nat} {ops : List Oper} {dst : Option Nat} {v : AV} {w : Value} {nt : Nat} (h : Lc slots (ops.map (·.dst)) m F L W a env) (hn : ((ops.filterMap (·.dst)).filter fun d => !slots.contains d).Nodup)
    (hd : (ops.map (·.dst))[env.length]? = some dst) (ht : ∀ t, dst = some t → t < nt) (hsz : nt ≤ a.tmps.size) (hr : RepA m F L W v w) : Lc slots (ops.map (·.dst)) m F L W (a.put dst w) (env ++ [v]) := by
  intro i t hi hdi hns
  rw [List.length_append, List.length_singleton] at hi
  by_cases e : i = env.length
  · subst e
    rw [hd] at hdi
    injection hdi with hdi; subst hdi
    rw [put_self (by have := ht t rfl; omega), List.getD_eq_getElem?_getD, List.getElem?_append_right (Nat.le_refl _), Nat.sub_self]
    exact hr
  · have hlt : i < env.length := by omega
    have hne : dst ≠ some t := by
      rintro rfl
      exact hns (uniq hn i env.length t hlt hdi hd)
    rw [put_get hne, List.getD_eq_getElem?_getD, List.getElem?_append_left hlt]
    have := h i t hlt hdi hns
    rwa [List.getD_eq_getElem?_getD] at this
theorem want_eq2 {slots : List Nat} {ops : Array Oper} {dsts : List (Option Nat)} {pos : Nat → Option Nat} {g' : Option (Nat × Bool)} {b : Bool} (hl : ∀ j w p t, o.guard = some (j, w) → pos j = some p → p < env.length → (ops[j]?).bind (·.dst) = some t → t ∉ slots → RepA m F L W (env.getD p .junk) (a.tmps.getD t undef)) (hc : compG { slots := slots, dsts := dsts, pos := pos, glob := gb, h := C.h } o.guard = some g')
    (hg : ∀ j w, o.guard = some (j, w) → ∃ t, (ops[j]?).bind (·.dst) = some t ∧ t ∉ slots) (hsz : ∀ j w t, o.guard = some (j, w) → (ops[j]?).bind (·.dst) = some t → t < a.tmps.size) (h : wantG env g' = some b) : Region.wanted o (yielded ops a.tmps) = b := by
  unfold Region.wanted
  cases hgd : o.guard with
  | none =>
    rw [hgd] at hc
    simp only [compG, Option.some.injEq] at hc
    subst hc
    simp only [wantG, Option.some.injEq] at h
    exact h
  | some jw =>
    obtain ⟨j, w⟩ := jw
    rw [hgd] at hc
    simp only [compG, Option.map_eq_some_iff] at hc
    obtain ⟨p, hpj, rfl⟩ := hc
    obtain ⟨t, ht, hns⟩ := hg j w hgd
    have hts := hsz j w t hgd ht
    have hplt : p < env.length ∨ env.getD p .junk = .junk := by
      by_cases h : p < env.length
      · exact .inl h
      · exact .inr (by rw [List.getD_eq_getElem?_getD, List.getElem?_eq_none (by omega)]; rfl)
    simp only [wantG] at h
    have hy : yielded ops a.tmps j = match a.tmps.getD t undef with | .bool b => some b | _ => none := by
      unfold yielded
      rw [ht]
      simp only [Option.bind_some, Array.getD_eq_getD_getElem?]
      rw [Array.getElem?_eq_getElem hts]
      simp only [Option.getD_some]
      generalize a.tmps[t] = z
      cases z <;> simp
    rcases hplt with hlt | hj
    · have hr := hl j w p t hgd hpj hlt ht hns
      split at h
      · rename_i c e
        rw [e] at hr
        have hv := imm_bool hr
        simp only [hy, hv]
        injection h with h; subst h
        cases c <;> cases w <;> rfl
      · rename_i e
        rw [e] at hr
        have hv : a.tmps.getD t undef = .tuple #[] := by
          generalize a.tmps.getD t undef = z at hr
          cases hr with
          | imm _ _ h =>
            cases h with
            | tup _ vs hl _ => have : vs = #[] := Array.eq_empty_of_size_eq_zero hl; rw [this]
        simp only [Option.some.injEq] at h
        subst h
        simp only [hy, hv]
        rfl
      · cases h
    · rw [hj] at h; cases h
theorem want_eq {slots : List Nat} {ops : Array Oper} {dsts : List (Option Nat)} {pos : Nat → Option Nat} {g' : Option (Nat × Bool)} {b : Bool} (hl : Lc slots dsts m F L W a env) (hp : ∀ j p, pos j = some p → dsts[p]? = (ops[j]?).map (·.dst)) (hc : compG { slots := slots, dsts := dsts, pos := pos, glob := gb, h := C.h } o.guard = some g')
    (hg : ∀ j w, o.guard = some (j, w) → ∃ t, (ops[j]?).bind (·.dst) = some t ∧ t ∉ slots) (hsz : ∀ j w t, o.guard = some (j, w) → (ops[j]?).bind (·.dst) = some t → t < a.tmps.size) (h : wantG env g' = some b) : Region.wanted o (yielded ops a.tmps) = b := by
  refine want_eq2 (C := C) (gb := gb) (slots := slots) (dsts := dsts) (pos := pos) (fun j w p t _ hpj hlt ht hns => hl p t hlt ?_ hns) hc hg hsz h
  rw [hp j p hpj]
  cases ho : ops[j]? with
  | none => rw [ho] at ht; cases ht
  | some o' => rw [ho] at ht; simpa using ht
end
end Go.Vm

/- Soundness: a region whose order is given. -/
namespace Go.Vm
open Go
section
variable {P : Program} {gb : Nat → Option (List D)} {X : XT} {C : Ctx} {o : Oper} {a a' : Act} {W W' W2 : World} {m m' m2 : Nat → Option Nat} {F F' F1 F2 : Nat → Prop} {L : Option Nat} {XO XO' XO2 : Nat → Prop} {st st' st2 : List AO} {ext : Option Ext} {vars env : List AV} {nid : Nat} {ro : Option Nat} {lo : Lower}
theorem local_lt {nt : Nat} {ops : List Oper} {slots : List Nat} (h : localsOk nt ops slots = true) : ((ops.filterMap (·.dst)).filter fun d => !slots.contains d).Nodup ∧ ∀ o ∈ ops, ∀ t, o.dst = some t → t < nt := by
  simp only [localsOk, Bool.and_eq_true, decide_eq_true_eq] at h
  refine ⟨h.1.1, fun o ho t ht => ?_⟩
  have := List.all_eq_true.1 h.1.2 o ho
  rw [ht] at this
  simpa using this
theorem guard_ok {ops : List Oper} {slots : List Nat} (h : guardsOk ops slots = true) {i : Nat} {o : Oper} (ho : ops[i]? = some o) {j : Nat} {w : Bool} (hg : o.guard = some (j, w)) : j < i ∧ ∃ t, (ops[j]?).bind (·.dst) = some t ∧ t ∉ slots := by
  have hm : (o, i) ∈ ops.zipIdx := by
    rw [List.mem_iff_getElem?]
    exact ⟨i, by rw [List.getElem?_zipIdx, ho]; simp⟩
  have := List.all_eq_true.1 h (o, i) hm
  simp only [hg, Bool.and_eq_true, decide_eq_true_eq] at this
  refine ⟨this.1, ?_⟩
  have h2 := this.2
  simp only [dstOf] at h2
  cases hd : (ops[j]?).bind (·.dst) with
  | none => rw [hd] at h2; cases h2
  | some t => rw [hd] at h2; exact ⟨t, rfl, by simpa using h2⟩
def Next (gb : Nat → Option (List D)) (X : XT) (nt : Nat) (slots : List Nat) (L : Option Nat) (nb : Nat) (m : Nat → Option Nat) (F XO : Nat → Prop) (W : World) (st : List AO) (s' : S) (a' : Act) (W' : World) : Prop :=
  ∃ m' F' XO', St gb X m' F' L XO' W' s'.st s'.ext ∧ Vr nt slots m' F' L W' a' s'.vars ∧ Mv nb m F XO W st m' F' XO' W' s'.st
theorem rep_undef : RepA m F L W (.imm (.tup [])) undef := .imm _ _ (.tup [] #[] rfl (by simp))
theorem ops_sound (H : LowerOk P gb X lo) {ops : Array Oper} {slots : List Nat} {h : Hint} {nt nb : Nat} {Q : Exit → Act → World → Prop} (hC : C = { slots := slots, dsts := ops.toList.map (·.dst), pos := fun i => some i, glob := gb, h := h }) (hn : slots.Nodup) (hloc : localsOk nt ops.toList slots = true) (hgu : guardsOk ops.toList slots = true) :
    ∀ (l : List Oper) (rs : List ROp) (env env' : List AV) (s s' : S) (a : Act) (W : World) (m : Nat → Option Nat) (F XO : Nat → Prop), l = ops.toList.drop env.length → env.length ≤ ops.size → compOps P C l = some rs → aOps lo rs env s = some (env', s') →
      St gb X m F L XO W s.st s.ext → Vr nt slots m F L W a s.vars → Lc slots (ops.toList.map (·.dst)) m F L W a env →
      (∀ a' W', Next gb X nt slots L nb m F XO W s.st s' a' W' → a'.defers = a.defers → Q .normal a' W') → wpOpsIn (fen ro) 0 P ops Q (List.range' env.length (ops.size - env.length)) a W
  | [], rs, env, env', s, s', a, W, m, F, XO, hl, hle, hc, ha, hS, hv, hlc, hQ => by
    simp only [compOps, Option.some.injEq] at hc
    subst hc
    simp only [aOps, Option.some.injEq, Prod.mk.injEq] at ha
    obtain ⟨rfl, rfl⟩ := ha
    have : ops.size - env.length = 0 := by
      have := congrArg List.length hl
      simp at this; omega
    rw [this]
    exact hQ a W ⟨m, F, XO, hS, hv, Mv.refl nb⟩ rfl
  | o :: l, rs, env, env', s, s', a, W, m, F, XO, hl, hle, hc, ha, hS, hv, hlc, hQ => by
    have hlt : env.length < ops.size := by
      have := congrArg List.length hl
      simp at this; omega
    have ho : ops.toList[env.length]? = some o := by
      have := congrArg (fun x => x[0]?) hl
      simp only [List.getElem?_cons_zero, List.getElem?_drop, Nat.add_zero] at this
      exact this.symm
    have ho' : ops[env.length]? = some o := by simpa using ho
    have hl2 : l = ops.toList.drop (env.length + 1) := by
      have := congrArg List.tail hl
      simpa [List.tail_drop] using this
    have hmem : o ∈ ops.toList := List.mem_of_getElem? ho
    obtain ⟨hnd, hdl⟩ := local_lt hloc
    have hdst : (ops.toList.map (·.dst))[env.length]? = some o.dst := by rw [List.getElem?_map, ho]; rfl
    simp only [compOps] at hc
    split at hc
    · rename_i op g rs' h1 h2 h3
      injection hc with hc; subst hc
      have hrange : List.range' env.length (ops.size - env.length) = env.length :: List.range' (env.length + 1) (ops.size - (env.length + 1)) := by
        obtain ⟨d, hd⟩ : ∃ d, ops.size - env.length = d + 1 := ⟨ops.size - env.length - 1, by omega⟩
        rw [hd, List.range'_succ]
        congr 2; omega
      rw [hrange]
      simp only [wpOpsIn, ho']
      have hwant : ∀ b, wantG env g = some b → Region.wanted o (yielded ops a.tmps) = b := by
        intro b hb
        refine want_eq (C := C) (gb := gb) (slots := slots) (pos := fun i => some i) hlc (fun j p hp => ?_) (g' := g) ?_ (fun j w hg => ?_) (fun j w t hg ht => ?_) hb
        · injection hp with hp; subst hp; rw [List.getElem?_map]; simp
        · rw [hC] at h2; rw [hC]; exact h2
        · obtain ⟨_, t, ht, hns⟩ := guard_ok hgu ho hg
          exact ⟨t, by simpa using ht, hns⟩
        · cases hoj : ops[j]? with
          | none => rw [hoj] at ht; cases ht
          | some oj =>
            rw [hoj] at ht
            have := hdl oj (by rw [← Array.getElem?_toList] at hoj; exact List.mem_of_getElem? hoj) t ht
            exact Nat.lt_of_lt_of_le this hv.sz
      have hslots : C.slots = slots := by rw [hC]
      have next : ∀ (v : AV) (w : Value) (W1 : World) (s1 : S) (m1 : Nat → Option Nat) (F1 XO1 : Nat → Prop), St gb X m1 F1 L XO1 W1 s1.st s1.ext → s1.vars = s.vars → Mv nb m F XO W s.st m1 F1 XO1 W1 s1.st → (∀ u z, RepA m F L W u z → RepA m1 F1 L W1 u z) → RepA m1 F1 L W1 v w →
          aOps lo rs' (env ++ [v]) { s1 with vars := setW s1.vars (o.dst.bind fun d => slots.idxOf? d) v } = some (env', s') →
          wpOpsIn (fen ro) 0 P ops Q (List.range' (env.length + 1) (ops.size - (env.length + 1))) (a.put o.dst w) W1 := by
        intro v w W1 s1 m1 F1 XO1 S1 hvars M1 hmono hrv ha'
        have hlen : (env ++ [v]).length = env.length + 1 := by simp
        have := ops_sound H hC hn hloc hgu l rs' (env ++ [v]) env' { s1 with vars := setW s1.vars (o.dst.bind fun d => slots.idxOf? d) v } s' (a.put o.dst w) W1 m1 F1 XO1 (by rw [hlen]; exact hl2) (by rw [hlen]; exact hlt) h3 ha' S1
          (by rw [hvars]; exact (hv.mono hmono).put hn (fun t ht => hdl o hmem t ht) hrv)
          (Lc.put (nt := nt) (fun i t h1 h2 h3 => hmono _ _ (hlc i t h1 h2 h3)) hnd hdst (fun t ht => hdl o hmem t ht) hv.sz hrv)
          (fun a' W' hN hdef => hQ a' W' (by
            obtain ⟨m', F', XO', k1, k2, k3⟩ := hN
            exact ⟨m', F', XO', k1, k2, M1.trans k3⟩) (hdef.trans (by cases o.dst <;> rfl)))
        rw [hlen] at this
        exact this
      simp only [aOps] at ha
      split at ha
      · cases ha
      · rename_i hw
        rw [hwant false hw]
        simp only [Bool.false_eq_true, if_false]
        refine ⟨fun f _ => fen_fn ro f, ?_⟩
        rw [hslots] at ha
        exact next (.imm (.tup [])) undef W s m F XO hS rfl (Mv.refl nb) (fun _ _ h => h) rep_undef ha
      · rename_i hw
        rw [hwant true hw]
        simp only [if_true]
        split at ha
        · cases ha
        · rename_i v s1 hop
          obtain ⟨hok, hvars⟩ := aOp_sound (ro := ro) (a := a) H h1 hS (opr_ok (nt := nt) (by rw [hC]) hS.R (by rw [hC]; exact hv) (by rw [hC]; exact hlc)) hop
          rw [hslots] at ha
          refine hok _ Q fun w W1 ⟨m1, F1, XO1, p⟩ => ?_
          exact next v w W1 s1 m1 F1 XO1 p.s hvars (p.mv nb) (fun u z h => p.rep hS h) p.rv ha
    · cases hc
end
end Go.Vm

/- Any order of a region: the schedule; what an operation leaves alone. -/
namespace Go.Vm
open Go
section
variable {P : Program} {gb : Nat → Option (List D)} {X : XT} {C : Ctx} {o : Oper} {a a' : Act} {W W' W2 : World} {m m' m2 : Nat → Option Nat} {F F' F1 F2 : Nat → Prop} {L : Option Nat} {XO XO' XO2 : Nat → Prop} {st st' st2 : List AO} {ext : Option Ext} {vars env : List AV} {nid : Nat} {ro : Option Nat} {lo : Lower}
theorem app_keep {news : List AO} {i : Nat} (h : i < st.length) : sto (st ++ news) i = sto st i := by
  rw [sto_append]; unfold put; rw [if_neg (by omega)]
theorem set_keep {id i : Nat} {ob : AO} (h : i ≠ id) : sto (st.set id ob) i = sto st i := by
  rw [sto_set, if_neg (fun e => h e.1)]
theorem freeze_keep : ∀ {l : List Nat} {st2 : List AO}, freeze st l = some st2 → st2.length = st.length ∧ ∀ i, i ∉ l → sto st2 i = sto st i
  | [], st2, h => by simp only [freeze, Option.some.injEq] at h; subst h; exact ⟨rfl, fun _ _ => rfl⟩
  | k :: r, st2, h => by
    unfold freeze at h
    split at h
    · rename_i st1 h1
      obtain ⟨k1, k2⟩ := freeze_keep h1
      split at h
      · injection h with h; subst h
        refine ⟨by simp [k1], fun i hi => ?_⟩
        rw [set_keep (fun e => hi (by simp [e])), k2 i (fun h => hi (by simp [h]))]
      · cases h
    · cases h
theorem aOp_keep {s s' : S} {op : IOp} {v : AV} (h : aOp lo vars env s op = some (v, s')) : s.st.length ≤ s'.st.length ∧ ∀ i, i < s.st.length → i ∉ wIds vars env s.st op → sto s'.st i = sto s.st i := by
  cases hq : isQ op with
  | true =>
    rw [aOp_quiet hq] at h
    split at h
    · simp only [Option.some.injEq, Prod.mk.injEq] at h
      obtain ⟨rfl, rfl⟩ := h
      exact ⟨by simp, fun i hi _ => app_keep hi⟩
    · cases h
  | false =>
    cases op with
    | bslice own sz z n ps =>
      simp only [aOp] at h
      split at h
      · rename_i st2 hz
        split at h
        · simp only [Option.some.injEq, Prod.mk.injEq] at h
          obtain ⟨_, rfl⟩ := h
          obtain ⟨k1, k2⟩ := freeze_keep hz
          exact ⟨by simp [k1], fun i hl hi => by rw [app_keep (by omega)]; exact k2 i hi⟩
        · cases h
      · cases h
    | store n x y =>
      simp only [aOp] at h
      split at h
      · rename_i st2 hst
        simp only [Option.some.injEq, Prod.mk.injEq] at h
        obtain ⟨rfl, rfl⟩ := h
        unfold aStore at hst
        simp only at hst
        split at hst
        · cases hst
        · split at hst
          · rename_i id off e
            have key : ∀ ob, s.st.set id ob = st2 → s.st.length ≤ st2.length ∧ ∀ i, i < s.st.length → i ∉ wIds vars env s.st (.store n x y) → sto st2 i = sto s.st i := by
              rintro ob rfl
              refine ⟨by simp, fun i _ hi => set_keep fun e2 => hi ?_⟩
              simp only [wIds, e, ids]; simp [e2]
            split at hst
            · split at hst
              · exact key _ (Option.some.inj hst)
              · cases hst
            · split at hst
              · split at hst
                · exact key _ (Option.some.inj hst)
                · cases hst
              · cases hst
            · cases hst
          · cases hst
      · cases h
    | append sz bytes x y =>
      simp only [aOp] at h
      split at h
      · simp only [Option.some.injEq, Prod.mk.injEq] at h
        obtain ⟨rfl, rfl⟩ := h
        exact ⟨by simp, fun i hi _ => app_keep hi⟩
      · rename_i v' id news happ
        simp only [Option.some.injEq, Prod.mk.injEq] at h
        obtain ⟨rfl, rfl⟩ := h
        refine ⟨by simp, fun i hi hn => ?_⟩
        rw [app_keep (by simpa using hi)]
        refine set_keep fun e2 => hn ?_
        subst e2
        unfold aAppend at happ
        split at happ
        · cases happ
        · split at happ
          · cases happ
          · split at happ
            · split at happ
              · simp at happ
              · split at happ <;> simp at happ
            · split at happ
              · cases happ
              · split at happ
                · simp at happ
                · split at happ <;> simp at happ
            · rename_i id0 sz0 lo n e
              split at happ
              · split at happ
                · simp only [Option.some.injEq, Prod.mk.injEq] at happ
                  simp only [wIds, e, ids]; simp [happ.2.1]
                · cases happ
              · cases happ
            · cases happ
      · cases h
    | mapup x y z =>
      simp only [aOp] at h
      split at h
      · rename_i id k d e1 e2 e3
        split at h
        · simp only [Option.some.injEq, Prod.mk.injEq] at h
          obtain ⟨rfl, rfl⟩ := h
          refine ⟨by simp, fun i _ hi => set_keep fun e => hi ?_⟩
          simp only [wIds, e1, ids]; simp [e]
        · cases h
      · cases h
    | copy sz x y =>
      simp only [aOp] at h
      split at h
      · rename_i id sz' p n sz'' es e1 hsrc
        have key : ∀ ob, s.st.set id ob = s'.st → s.st.length ≤ s'.st.length ∧ ∀ i, i < s.st.length → i ∉ wIds vars env s.st (.copy sz x y) → sto s'.st i = sto s.st i := by
          intro ob e
          rw [← e]
          refine ⟨by simp, fun i _ hi => set_keep fun e2 => hi ?_⟩
          simp only [wIds, e1, ids]; simp [e2]
        split at h
        · split at h
          · split at h
            · simp only [Option.some.injEq, Prod.mk.injEq] at h
              obtain ⟨_, h2⟩ := h
              exact key _ (by rw [← h2])
            · cases h
          · split at h
            · simp only [Option.some.injEq, Prod.mk.injEq] at h
              obtain ⟨_, h2⟩ := h
              exact key _ (by rw [← h2])
            · cases h
          · cases h
        · cases h
      · simp only [Option.some.injEq, Prod.mk.injEq] at h
        obtain ⟨_, rfl⟩ := h
        exact ⟨Nat.le_refl _, fun _ _ _ => rfl⟩
      · simp only [Option.some.injEq, Prod.mk.injEq] at h
        obtain ⟨_, rfl⟩ := h
        exact ⟨Nat.le_refl _, fun _ _ _ => rfl⟩
      · cases h
    | clear z x =>
      simp only [aOp] at h
      split at h
      · rename_i id sz0 p n e1
        split at h
        · split at h
          · simp only [Option.some.injEq, Prod.mk.injEq] at h
            obtain ⟨_, rfl⟩ := h
            refine ⟨by simp, fun i _ hi => set_keep fun e2 => hi ?_⟩
            simp only [wIds, e1, ids]; simp [e2]
          · cases h
        · cases h
      · simp only [Option.some.injEq, Prod.mk.injEq] at h
        obtain ⟨_, rfl⟩ := h
        exact ⟨Nat.le_refl _, fun _ _ _ => rfl⟩
      · simp only [Option.some.injEq, Prod.mk.injEq] at h
        obtain ⟨_, rfl⟩ := h
        exact ⟨Nat.le_refl _, fun _ _ _ => rfl⟩
      · cases h
    | range x =>
      simp only [aOp] at h
      split at h
      · simp only [Option.some.injEq, Prod.mk.injEq] at h
        obtain ⟨_, rfl⟩ := h
        exact ⟨by simp, fun i hi _ => app_keep hi⟩
      · cases h
    | next x =>
      simp only [aOp] at h
      split at h
      · rename_i id e1
        split at h
        · split at h
          · simp only [Option.some.injEq, Prod.mk.injEq] at h
            obtain ⟨_, rfl⟩ := h
            refine ⟨by simp, fun i _ hi => set_keep fun e2 => hi ?_⟩
            simp only [wIds, e1, ids]; simp [e2]
          · simp only [Option.some.injEq, Prod.mk.injEq] at h
            obtain ⟨_, rfl⟩ := h
            exact ⟨Nat.le_refl _, fun _ _ _ => rfl⟩
        · cases h
      · cases h
    | call md x args =>
      simp only [aOp, aCall] at h
      split at h
      · split at h
        · split at h
          · simp only [Option.some.injEq, Prod.mk.injEq] at h
            obtain ⟨_, rfl⟩ := h
            exact ⟨Nat.le_refl _, fun _ _ _ => rfl⟩
          · cases h
        · cases h
      · split at h
        · cases h
        · rename_i f p q hf
          have hin : ∀ i, i ∉ wIds vars env s.st (.call md x args) → i ∉ idsL (p ++ opnds vars env args ++ q) ∧ i ∉ reach s.st 1000 [] (idsL (p ++ opnds vars env args ++ q)) := by
            intro i hi
            simp only [wIds, hf, List.mem_append, not_or] at hi
            refine ⟨fun h => ?_, hi.2⟩
            have := fnOf_ids hf i h
            rw [List.mem_append] at this
            exact this.elim hi.1.1 hi.1.2
          split at h
          · split at h
            · cases h
            · split at h
              · cases h
              · split at h
                · simp only [Option.some.injEq, Prod.mk.injEq] at h
                  obtain ⟨_, rfl⟩ := h
                  exact ⟨Nat.le_refl _, fun _ _ _ => rfl⟩
                · split at h
                  · rename_i st2 hz
                    simp only [Option.some.injEq, Prod.mk.injEq] at h
                    obtain ⟨_, rfl⟩ := h
                    obtain ⟨k1, k2⟩ := freeze_keep hz
                    exact ⟨by simp [k1], fun i _ hi => k2 i (hin i hi).1⟩
                  · cases h
          · split at h
            · cases h
            · split at h
              · cases h
              · split at h
                · simp only [Option.some.injEq, Prod.mk.injEq] at h
                  obtain ⟨_, rfl⟩ := h
                  exact ⟨by simp, fun i hi _ => app_keep hi⟩
                · split at h
                  · rename_i st2 hz
                    simp only [Option.some.injEq, Prod.mk.injEq] at h
                    obtain ⟨_, rfl⟩ := h
                    obtain ⟨k1, k2⟩ := freeze_keep hz
                    exact ⟨by simp [k1], fun i hl hi => by rw [app_keep (by omega)]; exact k2 i (hin i hi).1⟩
                  · cases h
          · split at h
            · cases h
            · split at h
              · simp only [Option.some.injEq, Prod.mk.injEq] at h
                obtain ⟨_, rfl⟩ := h
                refine ⟨by simp, fun i hl hi => ?_⟩
                rw [app_keep (by simpa using hl)]
                have hnone : idx (reach s.st 1000 [] (idsL (p ++ opnds vars env args ++ q))) i = none := by
                  cases hj : idx (reach s.st 1000 [] (idsL (p ++ opnds vars env args ++ q))) i with
                  | none => rfl
                  | some j => exact absurd (List.mem_of_getElem? (idx_get hj)) (hin i hi).2
                unfold sto
                rw [List.getD_eq_getElem?_getD, List.getElem?_map, List.getElem?_range hl]
                simp only [Option.map_some, hnone, Option.getD_some]
              · cases h
    | _ => cases hq
def cnt (listed : Array Bool) : Nat → Nat
  | 0 => 0
  | n + 1 => cnt listed n + if listed.getD n true = true then 0 else 1
theorem cnt_set {listed : Array Bool} {i : Nat} (hi : listed.getD i true = false) : ∀ n, (n ≤ i → cnt (listed.setIfInBounds i true) n = cnt listed n) ∧ (i < n → cnt (listed.setIfInBounds i true) n + 1 = cnt listed n)
  | 0 => ⟨fun _ => rfl, fun h => by omega⟩
  | n + 1 => by
    obtain ⟨h1, h2⟩ := cnt_set hi n
    have his : i < listed.size := by
      rcases Nat.lt_or_ge i listed.size with h | h
      · exact h
      · simp [Array.getD_eq_getD_getElem?, Array.getElem?_eq_none h] at hi
    refine ⟨fun h => ?_, fun h => ?_⟩
    · simp only [cnt, h1 (by omega)]
      rw [getD_set_ne true (by omega)]
    · by_cases e : i = n
      · subst e
        simp only [cnt, h1 (Nat.le_refl _), hi]
        have : (listed.setIfInBounds i true).getD i true = true := by simp [his]
        simp [this]
      · have := h2 (by omega)
        simp only [cnt]
        rw [getD_set_ne true e]
        omega
theorem cnt_zero {listed : Array Bool} : ∀ {n : Nat}, cnt listed n = 0 → ∀ i, i < n → listed.getD i true = true
  | 0, _, i, h => by omega
  | n + 1, h, i, hi => by
    simp only [cnt] at h
    by_cases hn : listed.getD n true = true
    · by_cases e : i = n
      · subst e; exact hn
      · exact cnt_zero (n := n) (by rw [if_pos hn] at h; omega) i (by omega)
    · rw [if_neg hn] at h; omega
theorem cnt_le (listed : Array Bool) : ∀ n, cnt listed n ≤ n
  | 0 => Nat.le_refl _
  | n + 1 => by
    have := cnt_le listed n
    simp only [cnt]
    split <;> omega
theorem sched {ops : Array Oper} {Fe : Fence} {n : Nat} {Q : Exit → Act → World → Prop} (I : Array Bool → Act → World → Prop) (edges : ∀ (i : Nat) (o : Oper), ops[i]? = some o → ∀ e ∈ o.after, Region.binds .any e = true → e.on < i)
    (step : ∀ (listed : Array Bool) (a : Act) (w : World) (i : Nat) (o : Oper), listed.size = ops.size → I listed a w → ops[i]? = some o → listed.getD i true = false → (∀ e ∈ o.after, Region.binds .any e = true → listed.getD e.on false = true) →
      (Region.wanted o (yielded ops a.tmps) = true → ∀ next, (∀ a' w', I (listed.setIfInBounds i true) a' w' → next a' w') → o.wpIn Fe n P a w next Q) ∧
      (Region.wanted o (yielded ops a.tmps) = false → (∀ f, o.about P w a.eval = some f → Fe.fn f) ∧ I (listed.setIfInBounds i true) (a.put o.dst undef) w))
    (done : ∀ listed a w, I listed a w → (∀ i, i < ops.size → listed.getD i true = true) → Q .normal a w) :
    ∀ (fuel t : Nat) (listed : Array Bool) (a : Act) (w : World), listed.size = ops.size → cnt listed ops.size ≤ fuel → I listed a w → wpOpsIn Fe n P ops Q (Region.linearise.go .any ops fuel t listed []) a w := by
  intro fuel
  induction fuel with
  | zero =>
    intro t listed a w hs hc hI
    simp only [Region.linearise.go, List.reverse_nil, wpOpsIn]
    exact done listed a w hI (cnt_zero (by omega))
  | succ fuel ih =>
    intro t listed a w hs hc hI
    simp only [Region.linearise.go]
    change wpOpsIn Fe n P ops Q (match (Region.ready .any ops listed)[t % (Region.ready .any ops listed).length]? with
      | some i => Region.linearise.go .any ops fuel (t / (Region.ready .any ops listed).length) (listed.setIfInBounds i true) [i]
      | none => [].reverse) a w
    cases hi : (Region.ready .any ops listed)[t % (Region.ready .any ops listed).length]? with
    | none =>
      have hnil : Region.ready .any ops listed = [] := by
        cases hr : Region.ready .any ops listed with
        | nil => rfl
        | cons x xs =>
          rw [hr] at hi
          have hlt : t % (x :: xs).length < (x :: xs).length := Nat.mod_lt _ (by simp)
          simp at hi
          simp at hlt
          omega
      simp only [List.reverse_nil, wpOpsIn]
      refine done listed a w hI fun i hi => ?_
      have all : ∀ k, ∀ i, i < k → i < ops.size → listed.getD i true = true := by
        intro k
        induction k with
        | zero => intro i h; omega
        | succ k ihk =>
          intro i hik his
          apply Classical.byContradiction
          intro hc
          have hf : listed.getD i true = false := by simpa using hc
          have hmem : i ∈ Region.ready .any ops listed := by
            refine mem_ready.2 ⟨hf, ops[i], Array.getElem?_eq_getElem his, fun e he hb => ?_⟩
            have hlt := edges i ops[i] (Array.getElem?_eq_getElem his) e he hb
            have := ihk e.on (by omega) (by omega)
            have hsz : e.on < listed.size := by omega
            simpa [hsz] using this
          rw [hnil] at hmem; cases hmem
      exact all (i + 1) i (by omega) hi
    | some i =>
      simp only []
      rw [linearise_go_acc, List.reverse_singleton, List.singleton_append]
      obtain ⟨hun, o, ho, hall⟩ := mem_ready.1 (List.mem_of_getElem? hi)
      obtain ⟨h1, h2⟩ := step listed a w i o hs hI ho hun hall
      have his : i < ops.size := (Array.getElem?_eq_some_iff.1 ho).1
      have hc' := (cnt_set hun ops.size).2 his
      simp only [wpOpsIn, ho]
      split
      · rename_i hw
        exact h1 hw _ fun a' w' hI' => ih _ _ a' w' (by simpa using hs) (by omega) hI'
      · rename_i hw
        obtain ⟨k1, k2⟩ := h2 (by simpa using hw)
        exact ⟨k1, ih _ _ _ _ (by simpa using hs) (by omega) k2⟩
theorem befs_len : ∀ (l : List Oper) (acc : List Nat), (befs l acc).length = acc.length + l.length
  | [], acc => by simp [befs]
  | o :: r, acc => by simp [befs, befs_len r]; omega
theorem befs_get : ∀ (l : List Oper) (acc : List Nat) (i : Nat), i < acc.length → (befs l acc)[i]? = acc[i]?
  | [], acc, i, _ => rfl
  | o :: r, acc, i, h => by
    simp only [befs]
    rw [befs_get r _ i (by simp; omega), List.getElem?_append_left h]
theorem fold_bit (f : Nat → Nat) : ∀ (l : List Edge) (x j : Nat), (l.foldl (fun m e => if Region.binds .any e then m ||| 1 <<< e.on ||| f e.on else m) x).testBit j = true → x.testBit j = true ∨ ∃ e ∈ l, Region.binds .any e = true ∧ (e.on = j ∨ (f e.on).testBit j = true)
  | [], x, j, h => .inl h
  | e :: r, x, j, h => by
    simp only [List.foldl_cons] at h
    rcases fold_bit f r _ j h with h | ⟨e', h1, h2⟩
    · split at h
      · rename_i hb
        simp only [Nat.testBit_or, Bool.or_eq_true] at h
        rcases h with (h | h) | h
        · exact .inl h
        · refine .inr ⟨e, by simp, hb, .inl ?_⟩
          rw [Nat.testBit_shiftLeft] at h
          simp only [Bool.and_eq_true, decide_eq_true_eq] at h
          have h2 := h.2
          have : j - e.on = 0 := by
            rcases Nat.eq_zero_or_pos (j - e.on) with h | h
            · exact h
            · exfalso
              obtain ⟨q, hq⟩ : ∃ q, j - e.on = q + 1 := ⟨j - e.on - 1, by omega⟩
              rw [hq] at h2
              simp [Nat.testBit_succ] at h2
          omega
        · exact .inr ⟨e, by simp, hb, .inr h⟩
      · exact .inl h
    · exact .inr ⟨e', by simp [h1], h2⟩
theorem befs_bit : ∀ (l : List Oper) (acc : List Nat) (i : Nat) (o : Oper) (j : Nat), l[i]? = some o → ((befs l acc).getD (acc.length + i) 0).testBit j = true →
    ∃ e ∈ o.after, Region.binds .any e = true ∧ (e.on = j ∨ (e.on < acc.length + i ∧ ((befs l acc).getD e.on 0).testBit j = true))
  | [], acc, i, o, j, h, _ => by simp at h
  | x :: r, acc, 0, o, j, h, hb => by
    simp only [List.getElem?_cons_zero, Option.some.injEq] at h; subst h
    simp only [befs] at hb ⊢
    rw [Nat.add_zero, List.getD_eq_getElem?_getD, befs_get r _ _ (by simp), List.getElem?_append_right (Nat.le_refl _)] at hb
    simp only [Nat.sub_self, List.getElem?_cons_zero, Option.getD_some] at hb
    rcases fold_bit (fun k => acc.getD k 0) _ _ _ hb with h | ⟨e, h1, h2, h3⟩
    · simp at h
    · refine ⟨e, by simpa using h1, h2, ?_⟩
      rcases h3 with h3 | h3
      · exact .inl h3
      · by_cases hlt : e.on < acc.length
        · refine .inr ⟨by omega, ?_⟩
          rw [List.getD_eq_getElem?_getD, befs_get r _ _ (by simp; omega), List.getElem?_append_left hlt, ← List.getD_eq_getElem?_getD]
          exact h3
        · rw [List.getD_eq_getElem?_getD, List.getElem?_eq_none (by omega)] at h3
          simp at h3
  | x :: r, acc, i + 1, o, j, h, hb => by
    simp only [List.getElem?_cons_succ] at h
    simp only [befs] at hb ⊢
    obtain ⟨acc', hacc⟩ : ∃ acc', acc' = acc ++ [x.after.toList.foldl (fun m e => if Region.binds .any e then m ||| 1 <<< e.on ||| acc.getD e.on 0 else m) 0] := ⟨_, rfl⟩
    rw [← hacc] at hb ⊢
    have hl : acc'.length = acc.length + 1 := by rw [hacc]; simp
    rw [show acc.length + (i + 1) = acc'.length + i by omega] at hb
    obtain ⟨e, h1, h2, h3⟩ := befs_bit r acc' i o j h hb
    exact ⟨e, h1, h2, h3.imp id fun h => ⟨by omega, h.2⟩⟩
theorem bef_listed {ops : Array Oper} {listed : Array Bool} (hcl : ∀ (i : Nat) (o : Oper), ops[i]? = some o → listed.getD i false = true → ∀ e ∈ o.after, Region.binds .any e = true → listed.getD e.on false = true) :
    ∀ (n i : Nat) (o : Oper) (j : Nat), i ≤ n → ops[i]? = some o → (∀ e ∈ o.after, Region.binds .any e = true → listed.getD e.on false = true) → ((befs ops.toList []).getD i 0).testBit j = true → listed.getD j false = true := by
  intro n
  induction n with
  | zero =>
    intro i o j hi ho he hb
    have hi0 : i = 0 := by omega
    subst hi0
    obtain ⟨e, h1, h2, h3⟩ := befs_bit ops.toList [] 0 o j (by simpa using ho) (by simpa using hb)
    rcases h3 with h3 | h3
    · subst h3; exact he e h1 h2
    · simp at h3
  | succ n ih =>
    intro i o j hi ho he hb
    obtain ⟨e, h1, h2, h3⟩ := befs_bit ops.toList [] i o j (by simpa using ho) (by simpa using hb)
    rcases h3 with h3 | ⟨h3, h4⟩
    · subst h3; exact he e h1 h2
    · have hel := he e h1 h2
      cases hoe : ops[e.on]? with
      | none =>
        rw [List.getD_eq_getElem?_getD, List.getElem?_eq_none (by rw [befs_len]; simp; simpa using hoe)] at h4
        simp at h4
      | some oe => exact ih e.on oe j (by simp at h3; omega) hoe (hcl e.on oe hoe hel) h4
end
end Go.Vm

/- Regions whose order is drawn: what is checked ahead, and the trace of the part in open order. -/
namespace Go.Vm
open Go
section
variable {P : Program} {C : Ctx} {lo : Lower} {st : List AO}
theorem compOps_get : ∀ {l : List Oper} {rs : List ROp}, compOps P C l = some rs → rs.length = l.length ∧ ∀ (p : Nat) (o : Oper), l[p]? = some o → ∃ op g, compOp P C o = some op ∧ compG C o.guard = some g ∧ rs[p]? = some { w := o.dst.bind fun d => C.slots.idxOf? d, g := g, op := op }
  | [], rs, h => by simp only [compOps, Option.some.injEq] at h; subst h; simp
  | o :: r, rs, h => by
    simp only [compOps] at h
    split at h
    · rename_i op g rs' h1 h2 h3
      injection h with h; subst h
      obtain ⟨k1, k2⟩ := compOps_get h3
      refine ⟨by simp [k1], fun p o' hp => ?_⟩
      cases p with
      | zero => simp only [List.getElem?_cons_zero, Option.some.injEq] at hp; subst hp; exact ⟨op, g, h1, h2, rfl⟩
      | succ p => exact k2 p o' hp
    · cases h
theorem pick_get {ops : List Oper} : ∀ {l : List Nat}, (∀ i ∈ l, i < ops.length) → (pickOps ops l).length = l.length ∧ ∀ p : Nat, (pickOps ops l)[p]? = (l[p]?).bind fun i => ops[i]?
  | [], _ => by simp [pickOps]
  | i :: r, h => by
    obtain ⟨h1, h2⟩ := pick_get (ops := ops) (l := r) fun j hj => h j (by simp [hj])
    obtain ⟨o, hi⟩ : ∃ o, ops[i]? = some o := ⟨_, List.getElem?_eq_getElem (h i (by simp))⟩
    have e : pickOps ops (i :: r) = o :: pickOps ops r := by
      unfold pickOps
      rw [List.filterMap_cons_some hi]
    rw [e]
    refine ⟨by simp [h1], fun p => ?_⟩
    cases p with
    | zero => simp [hi]
    | succ p => simpa using h2 p
def QStep (lo : Lower) (st : List AO) (fl : List Nat) (envF : List AV) (fsF : List Nat) (vs : Nat → List AV) (ns : Nat → List AO) (p : Nat) (r : ROp) : Prop :=
  ∃ b v, wantG (envF.take p) r.g = some b ∧ envF[p]? = some v ∧ vs (p + 1) = setW (vs p) r.w v ∧ (b = false → v = .imm (.tup []) ∧ ns (p + 1) = ns p) ∧
    (b = true → ∃ n1, aQ lo (vs p) (envF.take p) st (st.length + (ns p).length) r.op = some (v, n1) ∧ ns (p + 1) = ns p ++ n1 ∧ (fl.contains p = true → n1 = [] ∧ ∀ i ∈ rIds (vs p) (envF.take p) r.op, i ∈ fsF)) ∧ (fl.contains p = true → ns (p + 1) = ns p)
theorem q_trace {fl : List Nat} : ∀ {rs : List ROp} {env vars : List AV} {news : List AO} {fs : List Nat} {envF varsF : List AV} {newsF : List AO} {fsF : List Nat}, aQs lo st fl rs env vars news fs = some (envF, varsF, newsF, fsF) →
    ∃ (vs : Nat → List AV) (ns : Nat → List AO), envF.take env.length = env ∧ envF.length = env.length + rs.length ∧ vs env.length = vars ∧ ns env.length = news ∧ vs (env.length + rs.length) = varsF ∧ ns (env.length + rs.length) = newsF ∧ (∀ i ∈ fs, i ∈ fsF) ∧
      ∀ k r, rs[k]? = some r → QStep lo st fl envF fsF vs ns (env.length + k) r
  | [], env, vars, news, fs, envF, varsF, newsF, fsF, h => by
    simp only [aQs, Option.some.injEq, Prod.mk.injEq] at h
    obtain ⟨rfl, rfl, rfl, rfl⟩ := h
    exact ⟨fun _ => vars, fun _ => news, by simp, by simp, rfl, rfl, rfl, rfl, fun _ h => h, by simp⟩
  | r :: rest, env, vars, news, fs, envF, varsF, newsF, fsF, h => by
    have fin : ∀ (v : AV) (n1 : List AO) (fs' : List Nat), aQs lo st fl rest (env ++ [v]) (setW vars r.w v) (news ++ n1) fs' = some (envF, varsF, newsF, fsF) → (∀ i ∈ fs, i ∈ fs') →
        (∀ vs ns, vs env.length = vars → ns env.length = news → vs (env.length + 1) = setW vars r.w v → ns (env.length + 1) = news ++ n1 → envF.take env.length = env → envF[env.length]? = some v → (∀ i ∈ fs', i ∈ fsF) → QStep lo st fl envF fsF vs ns env.length r) →
        ∃ (vs : Nat → List AV) (ns : Nat → List AO), envF.take env.length = env ∧ envF.length = env.length + (r :: rest).length ∧ vs env.length = vars ∧ ns env.length = news ∧ vs (env.length + (r :: rest).length) = varsF ∧ ns (env.length + (r :: rest).length) = newsF ∧ (∀ i ∈ fs, i ∈ fsF) ∧
          ∀ k r', (r :: rest)[k]? = some r' → QStep lo st fl envF fsF vs ns (env.length + k) r' := by
      intro v n1 fs' h hfs hstep
      obtain ⟨vs, ns, k1, k2, k3, k4, k5, k6, k7, k8⟩ := q_trace h
      simp only [List.length_append, List.length_singleton] at k1 k2 k3 k4 k5 k6 k8
      have e1 : envF.take env.length = env := by
        have := congrArg (List.take env.length) k1
        rwa [List.take_take, Nat.min_eq_left (by omega), List.take_left'] at this
        rfl
      have e2 : envF[env.length]? = some v := by
        have := congrArg (fun x => x[env.length]?) k1
        simp only [List.getElem?_append_right (Nat.le_refl _), Nat.sub_self, List.getElem?_cons_zero] at this
        rwa [List.getElem?_take, if_pos (by omega)] at this
      let vs' : Nat → List AV := fun p => if p = env.length then vars else vs p
      let ns' : Nat → List AO := fun p => if p = env.length then news else ns p
      have v0 : vs' env.length = vars := if_pos rfl
      have n0 : ns' env.length = news := if_pos rfl
      have vg : ∀ p, env.length < p → vs' p = vs p := fun p hp => if_neg (by omega)
      have ng : ∀ p, env.length < p → ns' p = ns p := fun p hp => if_neg (by omega)
      refine ⟨vs', ns', e1, by rw [k2]; simp; omega, v0, n0, ?_, ?_, fun i hi => k7 i (hfs i hi), fun k r' hk => ?_⟩
      · rw [vg _ (by simp), List.length_cons, ← k5]; congr 1; omega
      · rw [ng _ (by simp), List.length_cons, ← k6]; congr 1; omega
      · cases k with
        | zero =>
          simp only [List.getElem?_cons_zero, Option.some.injEq] at hk; subst hk
          exact hstep vs' ns' v0 n0 (by rw [vg _ (by omega)]; exact k3) (by rw [ng _ (by omega)]; exact k4) e1 e2 k7
        | succ k =>
          have := k8 k r' (by simpa using hk)
          rw [show env.length + 1 + k = env.length + (k + 1) by omega] at this
          unfold QStep at this ⊢
          rw [vg _ (by omega), vg _ (by omega), ng _ (by omega), ng _ (by omega)]
          exact this
    simp only [aQs] at h
    split at h
    · cases h
    · rename_i hw
      refine fin (.imm (.tup [])) [] fs (by rw [List.append_nil]; exact h) (fun _ h => h) fun vs ns h1 h2 h3 h4 h5 h6 _ => ?_
      rw [List.append_nil] at h4
      exact ⟨false, _, by rw [h5]; exact hw, h6, by rw [h3, h1], fun _ => ⟨rfl, by rw [h4, h2]⟩, fun h => (nomatch h), fun _ => by rw [h4, h2]⟩
    · rename_i hw
      split at h
      · cases h
      · rename_i v n1 hq
        split at h
        · cases h
        · rename_i hfl
          refine fin v n1 _ h (fun i hi => ?_) fun vs ns h1 h2 h3 h4 h5 h6 h7 => ?_
          · split
            · exact List.mem_append_right _ hi
            · exact hi
          · have hn1 : fl.contains env.length = true → n1 = [] := by
              intro hc
              rw [hc] at hfl
              simpa using hfl
            refine ⟨true, v, by rw [h5]; exact hw, h6, by rw [h3, h1], (fun h => nomatch h), fun _ => ⟨n1, by rw [h1, h2, h5]; exact hq, by rw [h4, h2], fun hc => ⟨hn1 hc, fun i hi => h7 i ?_⟩⟩, fun hc => by rw [h4, h2, hn1 hc, List.append_nil]⟩
            rw [if_pos hc]
            rw [h1, h5] at hi
            exact List.mem_append_left _ hi
end
end Go.Vm

/- Regions whose order is drawn: the facts that are checked ahead. -/
namespace Go.Vm
open Go
structure RK where
  P : Program
  gb : Nat → Option (List D)
  X : XT
  lo : Lower
  C : Ctx
  ops : Array Oper
  slots : List Nat
  nt : Nat
  nb : Nat
  q : List Nat
  t : List Nat
  fl : List Nat
  rs : List ROp
  s0 : S
  envF : List AV
  varsF : List AV
  newsF : List AO
  fsF : List Nat
  vs : Nat → List AV
  ns : Nat → List AO
  envE : List AV
  sE : S
  L : Option Nat
  m0 : Nat → Option Nat
  F0 : Nat → Prop
  XO0 : Nat → Prop
  W0 : World
  a0 : Act
def RK.dst (k : RK) (i : Nat) : Option Nat := (k.ops[i]?).bind (·.dst)
structure RK.Ok (k : RK) : Prop where
  cs : k.C.slots = k.slots
  cg : k.C.glob = k.gb
  ds : k.C.dsts = (pickOps k.ops.toList (k.q ++ k.t)).map (·.dst)
  po : ∀ i, k.C.pos i = (k.q ++ k.t).idxOf? i
  nd : k.slots.Nodup
  loc : localsOk k.nt k.ops.toList k.slots = true
  gu : guardsOk k.ops.toList k.slots = true
  qp : k.q.Pairwise (· < ·)
  tp : k.t.Pairwise (· < ·)
  qm : ∀ i, i ∈ k.q ↔ i < k.ops.size ∧ i ∉ k.t
  tm : ∀ i ∈ k.t, i < k.ops.size
  qok : quietOk k.ops k.q = true
  cok : chainOk k.ops (befs k.ops.toList []) k.q k.t = true
  flq : ∀ (p i j : Nat), k.q[p]? = some i → j ∈ k.t → ((befs k.ops.toList []).getD j 0).testBit i = false → k.fl.contains p = true
  comp : compOps k.P k.C (pickOps k.ops.toList (k.q ++ k.t)) = some k.rs
  tr : ∀ (p : Nat) r, (k.rs.take k.q.length)[p]? = some r → QStep k.lo k.s0.st k.fl k.envF k.fsF k.vs k.ns p r
  el : k.envF.length = k.q.length
  vl0 : k.s0.vars.length = k.slots.length
  v0 : k.vs 0 = k.s0.vars
  n0 : k.ns 0 = []
  vM : k.vs k.q.length = k.varsF
  nM : k.ns k.q.length = k.newsF
section
variable {k : RK}
theorem RK.Ok.order (h : k.Ok) : ∀ i ∈ k.q ++ k.t, i < k.ops.toList.length := by
  intro i hi
  rw [List.mem_append] at hi
  simp only [Array.length_toList]
  exact hi.elim (fun hi => ((h.qm i).1 hi).1) (h.tm i)
theorem RK.Ok.dsts (h : k.Ok) {p i : Nat} (hp : (k.q ++ k.t)[p]? = some i) : k.C.dsts[p]? = some (k.dst i) := by
  rw [h.ds, List.getElem?_map, (pick_get h.order).2 p, hp]
  have hi := h.order i (List.mem_of_getElem? hp)
  simp only [Option.bind_some, RK.dst]
  rw [List.getElem?_eq_getElem hi]
  have : k.ops[i]? = some k.ops.toList[i] := by simp
  rw [this]; rfl
theorem RK.Ok.dsts' (h : k.Ok) {p d : Nat} (hp : k.C.dsts[p]? = some (some d)) : ∃ i, (k.q ++ k.t)[p]? = some i ∧ k.dst i = some d := by
  have hl := (List.getElem?_eq_some_iff.1 hp).1
  rw [h.ds, List.length_map, (pick_get h.order).1] at hl
  refine ⟨(k.q ++ k.t)[p], List.getElem?_eq_getElem hl, ?_⟩
  have := h.dsts (List.getElem?_eq_getElem hl)
  rw [hp] at this
  exact (Option.some.inj this).symm
theorem RK.Ok.op (h : k.Ok) {p i : Nat} {o : Oper} (hp : (k.q ++ k.t)[p]? = some i) (ho : k.ops[i]? = some o) :
    ∃ op g, compOp k.P k.C o = some op ∧ compG k.C o.guard = some g ∧ k.rs[p]? = some { w := o.dst.bind fun d => k.slots.idxOf? d, g := g, op := op } := by
  have := (compOps_get h.comp).2 p o (by rw [(pick_get h.order).2 p, hp]; simpa using ho)
  rwa [h.cs] at this
theorem RK.Ok.qpos (_h : k.Ok) {p i : Nat} (hp : k.q[p]? = some i) : (k.q ++ k.t)[p]? = some i := by
  rw [List.getElem?_append_left (List.getElem?_eq_some_iff.1 hp).1]; exact hp
theorem RK.Ok.tpos (_h : k.Ok) {r i : Nat} (hr : k.t[r]? = some i) : (k.q ++ k.t)[k.q.length + r]? = some i := by
  rw [List.getElem?_append_right (by omega), Nat.add_sub_cancel_left]; exact hr
theorem pw_nodup {l : List Nat} (h : l.Pairwise (· < ·)) : l.Nodup := h.imp fun h => by omega
theorem pw_inj {l : List Nat} (h : l.Pairwise (· < ·)) {a b x : Nat} (ha : l[a]? = some x) (hb : l[b]? = some x) : a = b := by
  obtain ⟨h1, e1⟩ := List.getElem?_eq_some_iff.1 ha
  obtain ⟨h2, e2⟩ := List.getElem?_eq_some_iff.1 hb
  exact (List.getElem_inj (pw_nodup h)).1 (e1.trans e2.symm)
theorem pw_lt {l : List Nat} (h : l.Pairwise (· < ·)) {a b x y : Nat} (ha : l[a]? = some x) (hb : l[b]? = some y) : a < b ↔ x < y := by
  obtain ⟨h1, e1⟩ := List.getElem?_eq_some_iff.1 ha
  obtain ⟨h2, e2⟩ := List.getElem?_eq_some_iff.1 hb
  rw [List.pairwise_iff_getElem] at h
  constructor
  · intro hab; have := h a b h1 h2 hab; omega
  · intro hxy
    rcases Nat.lt_trichotomy a b with hab | hab | hab
    · exact hab
    · subst hab; omega
    · have := h b a h2 h1 hab; omega
theorem looks_opr {ops : Array Oper} {o : Oper} {d : Nat} (h : Operand.tmp d ∈ o.op.operands) : d ∈ o.looksAt ops :=
  List.mem_append_left _ (List.mem_filterMap.2 ⟨.tmp d, by simpa using h, rfl⟩)
theorem looks_guard {ops : Array Oper} {o : Oper} {d j : Nat} {w : Bool} (hg : o.guard = some (j, w)) (hd : (ops[j]?).bind (·.dst) = some d) : d ∈ o.looksAt ops := by
  refine List.mem_append_right _ ?_
  rw [hg]; simp [hd]
theorem RK.Ok.Q1 (h : k.Ok) {i j d : Nat} (hi : i ∈ k.q) (hj : j ∈ k.q) (h1 : k.dst i = some d) (h2 : k.dst j = some d) : i = j := by
  have := h.qok
  simp only [quietOk, List.all_eq_true, Bool.and_eq_true] at this
  have h3 := (this i hi).1 j hj
  simp only [Bool.or_eq_true, beq_iff_eq, bne_iff_ne, ne_eq] at h3
  have e1 : dstOf k.ops.toList i = some d := by simpa [dstOf, RK.dst] using h1
  have e2 : dstOf k.ops.toList j = some d := by simpa [dstOf, RK.dst] using h2
  rw [e1, e2] at h3
  exact Eq.symm (by simpa using h3 : j = i)
theorem RK.Ok.Q2 (h : k.Ok) {i j d : Nat} {o : Oper} (hi : i ∈ k.q) (ho : k.ops[i]? = some o) (hd : d ∈ o.looksAt k.ops) (hj : j ∈ k.q) (h2 : k.dst j = some d) : j < i ∧ ∃ e ∈ o.after, Region.binds .any e = true ∧ e.on = j := by
  have := h.qok
  simp only [quietOk, List.all_eq_true, Bool.and_eq_true] at this
  have h3 := (this i hi).2 d (by simpa [looks, ho] using hd) j hj
  have e2 : dstOf k.ops.toList j = some d := by simpa [dstOf, RK.dst] using h2
  rw [e2, ho] at h3
  simp only [bne_self_eq_false, Bool.false_or, Bool.and_eq_true, decide_eq_true_eq] at h3
  refine ⟨h3.1, ?_⟩
  obtain ⟨e, he, hb⟩ := Array.any_eq_true'.1 h3.2
  simp only [Bool.and_eq_true, beq_iff_eq] at hb
  exact ⟨e, he, hb.2, hb.1⟩
theorem RK.Ok.T1 (h : k.Ok) {i j : Nat} (hi : i ∈ k.t) (hj : j ∈ k.t) (hlt : j < i) : ((befs k.ops.toList []).getD i 0).testBit j = true := by
  have := h.cok
  simp only [chainOk, List.all_eq_true, Bool.and_eq_true] at this
  have h3 := (this i hi).1 j hj
  simp only [Bool.or_eq_true, decide_eq_true_eq] at h3
  exact h3.resolve_left (by omega)
theorem RK.Ok.T2 (h : k.Ok) {i j : Nat} {oi oj : Oper} (hi : i ∈ k.t) (hj : j ∈ k.q) (hoi : k.ops[i]? = some oi) (hoj : k.ops[j]? = some oj) (hb : ((befs k.ops.toList []).getD i 0).testBit j = false) :
    (∀ d, k.dst j = some d → d ∉ oi.looksAt k.ops ∧ k.dst i ≠ some d) ∧ (∀ d, k.dst i = some d → d ∉ oj.looksAt k.ops) := by
  have := h.cok
  simp only [chainOk, List.all_eq_true, Bool.and_eq_true] at this
  have h3 := (this i hi).2 j hj
  rw [hb] at h3
  simp only [Bool.false_or, Bool.and_eq_true] at h3
  have e1 : dstOf k.ops.toList i = k.dst i := by simp [dstOf, RK.dst]
  have e2 : dstOf k.ops.toList j = k.dst j := by simp [dstOf, RK.dst]
  rw [e1, e2] at h3
  refine ⟨fun d hd => ?_, fun d hd => ?_⟩
  · have := h3.1
    rw [hd] at this
    simpa [looks, hoi] using this
  · have := h3.2
    rw [hd] at this
    simpa [looks, hoj] using this
theorem RK.Ok.dlt (h : k.Ok) {i d : Nat} (hd : k.dst i = some d) : d < k.nt := by
  unfold RK.dst at hd
  cases ho : k.ops[i]? with
  | none => rw [ho] at hd; cases hd
  | some o =>
    rw [ho] at hd
    exact (local_lt h.loc).2 o (by rw [← Array.getElem?_toList] at ho; exact List.mem_of_getElem? ho) d hd
theorem RK.Ok.uniq (h : k.Ok) {i j d : Nat} (h1 : k.dst i = some d) (h2 : k.dst j = some d) (hd : d ∉ k.slots) : i = j := by
  have e : ∀ i, k.dst i = some d → (k.ops.toList.map (·.dst))[i]? = some (some d) := by
    intro i h
    unfold RK.dst at h
    cases ho : k.ops[i]? with
    | none => rw [ho] at h; cases h
    | some o => rw [ho] at h; rw [List.getElem?_map, Array.getElem?_toList, ho]; simpa using h
  rcases Nat.lt_trichotomy i j with hlt | he | hlt
  · exact absurd (Vm.uniq (local_lt h.loc).1 i j d hlt (e i h1) (e j h2)) hd
  · exact he
  · exact absurd (Vm.uniq (local_lt h.loc).1 j i d hlt (e j h2) (e i h1)) hd
theorem setW_len {vars : List AV} {w : Option Nat} {v : AV} : (setW vars w v).length = vars.length := by
  unfold setW; split <;> simp
theorem setW_get {vars : List AV} {slots : List Nat} {dst : Option Nat} {v : AV} {s d : Nat} (hn : slots.Nodup) (hs : slots[s]? = some d) (hl : vars.length = slots.length) :
    (setW vars (dst.bind fun d => slots.idxOf? d) v).getD s .junk = if dst = some d then v else vars.getD s .junk := by
  have hil := (List.getElem?_eq_some_iff.1 hs).1
  split
  · rename_i e
    subst e
    have hi : slots.idxOf? d = some s := idx_of hn hs
    simp only [Option.bind_some, hi, setW]
    rw [List.getD_eq_getElem?_getD, List.getElem?_set_self (by omega)]; rfl
  · rename_i e
    cases dst with
    | none => rfl
    | some d' =>
      simp only [Option.bind_some]
      cases hj : slots.idxOf? d' with
      | none => rfl
      | some j =>
        have hji : j ≠ s := by
          rintro rfl
          have := idxOf_get hj
          rw [hs] at this; injection this with this; subst this; exact e rfl
        simp only [setW, List.getD_eq_getElem?_getD]
        rw [List.getElem?_set_ne hji]
theorem RK.Ok.vget (h : k.Ok) {s d : Nat} (hs : k.slots[s]? = some d) : ∀ p, p ≤ k.q.length → (k.vs p).length = k.slots.length ∧
    (∀ r i, r < p → k.q[r]? = some i → k.dst i = some d → (k.vs p).getD s .junk = k.envF.getD r .junk) ∧ ((∀ r i, r < p → k.q[r]? = some i → k.dst i ≠ some d) → (k.vs p).getD s .junk = k.s0.vars.getD s .junk) := by
  intro p
  induction p with
  | zero => intro _; rw [h.v0]; exact ⟨h.vl0, fun r i hr => absurd hr (Nat.not_lt_zero _), fun _ => rfl⟩
  | succ p ih =>
    intro hp
    obtain ⟨i1, i2, i3⟩ := ih (by omega)
    obtain ⟨i, hi⟩ : ∃ i, k.q[p]? = some i := ⟨_, List.getElem?_eq_getElem (by omega)⟩
    have his := ((h.qm i).1 (List.mem_of_getElem? hi)).1
    have ho : k.ops[i]? = some k.ops[i] := Array.getElem?_eq_getElem his
    obtain ⟨op, g, _, _, hrs⟩ := h.op (h.qpos hi) ho
    obtain ⟨b, v, _, hv, hstep, _⟩ := h.tr p _ (by rw [List.getElem?_take, if_pos (by omega)]; exact hrs)
    have hdst : k.dst i = k.ops[i].dst := by simp [RK.dst, ho]
    have hg := setW_get (dst := k.ops[i].dst) (v := v) h.nd hs i1
    rw [hstep]
    simp only
    refine ⟨by rw [setW_len]; exact i1, fun r j hr hj hd => ?_, fun hno => ?_⟩
    · rw [hg]
      by_cases e : r = p
      · subst e
        rw [hi] at hj; injection hj with hj; subst hj
        rw [if_pos (hdst ▸ hd), List.getD_eq_getElem?_getD, hv]; rfl
      · rw [if_neg ?_]
        · exact i2 r j (by omega) hj hd
        · intro hc
          have := h.Q1 (List.mem_of_getElem? hj) (List.mem_of_getElem? hi) hd (hdst.trans hc)
          subst this
          exact e (pw_inj h.qp hj hi)
    · rw [hg, if_neg (fun hc => hno p i (by omega) hi (hdst.trans hc))]
      exact i3 fun r j hr hj => hno r j (by omega) hj
end
end Go.Vm

/- Regions whose order is drawn: what holds whenever some of the operations are done. -/
namespace Go.Vm
open Go
structure MvP (nb : Nat) (m : Nat → Option Nat) (F XO : Nat → Prop) (W : World) (st : List AO) (m' : Nat → Option Nat) (F' XO' : Nat → Prop) (W' : World) : Prop where
  hm : ∀ i b, i < nb → m i = some b → m' i = some b
  hF : ∀ b, F b → F' b
  nF : ∀ b, F' b → F b ∨ ownA m st XO b ∨ W.heap.size ≤ b
  tr : Tr (ownA m st XO) W W'
  xo : ∀ b, XO' b → XO b ∨ W.heap.size ≤ b
  rg : ∀ i b, m' i = some b → (∃ j, m j = some b) ∨ W.heap.size ≤ b
structure J (k : RK) (listed : Array Bool) (a : Act) (W : World) (kT : Nat) (sT : S) (envT : List AV) (m : Nat → Option Nat) (F XO : Nat → Prop) (stN : Sto) : Prop where
  kl : kT ≤ k.t.length
  lT : ∀ (r i : Nat), k.t[r]? = some i → (listed.getD i false = true ↔ r < kT)
  run : aOpsT k.lo k.fsF (k.rs.drop (k.q.length + kT)) envT sT = some (k.envE, k.sE)
  e1 : envT.take k.q.length = k.envF
  e2 : envT.length = k.q.length + kT
  z : kT = 0 → sT = { k.s0 with vars := k.varsF, st := k.s0.st ++ k.newsF }
  ln : k.s0.st.length ≤ sT.st.length
  fl : 0 < kT → ∀ (p i : Nat), k.q[p]? = some i → listed.getD i false = false → k.fl.contains p = true
  fsx : ∀ i ∈ k.fsF, i < k.s0.st.length → stN i = sto k.s0.st i
  cl : ∀ (i : Nat) (o : Oper), k.ops[i]? = some o → listed.getD i false = true → ∀ e ∈ o.after, Region.binds .any e = true → listed.getD e.on false = true
  df : a.defers = k.a0.defers
  vz : k.nt ≤ a.tmps.size
  vl : sT.vars.length = k.slots.length
  V : ∀ s d, k.slots[s]? = some d → (∀ (p i : Nat), k.q[p]? = some i → k.dst i = some d → listed.getD i false = true) → RepA m F k.L W (sT.vars.getD s .junk) (a.tmps.getD d undef)
  V2 : ∀ s d, k.slots[s]? = some d → (∀ (r i : Nat), r < kT → k.t[r]? = some i → k.dst i ≠ some d) → sT.vars.getD s .junk = k.varsF.getD s .junk
  Lq : ∀ (p i d : Nat), k.q[p]? = some i → listed.getD i false = true → k.dst i = some d → d ∉ k.slots → RepA m F k.L W (k.envF.getD p .junk) (a.tmps.getD d undef)
  Lt : ∀ (r i d : Nat), r < kT → k.t[r]? = some i → k.dst i = some d → d ∉ k.slots → RepA m F k.L W (envT.getD (k.q.length + r) .junk) (a.tmps.getD d undef)
  R : Rel k.gb m F k.L W stN
  x : XR k.X k.L sT.ext XO F W
  ap : ∀ b, own m stN b → ¬ XO b
  mv : MvP k.nb k.m0 k.F0 k.XO0 k.W0 k.s0.st m F XO W
  ow : ∀ b, own m stN b → own k.m0 (sto k.s0.st) b ∨ k.W0.heap.size ≤ b
  A : kT = 0 → (∀ i, i < k.s0.st.length → stN i = sto k.s0.st i) ∧ (∀ (p i : Nat), k.q[p]? = some i → listed.getD i false = true → ∀ j, (k.ns p).length ≤ j → j < (k.ns (p + 1)).length → stN (k.s0.st.length + j) = k.newsF.getD j .dead) ∧
    (∀ i, k.s0.st.length ≤ i → stN i ≠ .dead ∨ m i ≠ none → ∃ p i' : Nat, k.q[p]? = some i' ∧ listed.getD i' false = true ∧ k.s0.st.length + (k.ns p).length ≤ i ∧ i < k.s0.st.length + (k.ns (p + 1)).length)
  B : 0 < kT → stN = sto sT.st ∧ ∀ i b, m i = some b → i < sT.st.length
section
variable {k : RK} {listed : Array Bool} {a : Act} {W W' : World} {kT : Nat} {sT : S} {envT : List AV} {m : Nat → Option Nat} {F XO : Nat → Prop} {stN : Sto}
theorem RK.Ok.nsp (h : k.Ok) {p : Nat} : ∀ n, p + n ≤ k.q.length → ∃ e, k.ns (p + n) = k.ns p ++ e := by
  intro n
  induction n with
  | zero => intro _; exact ⟨[], by simp⟩
  | succ n ih =>
    intro hp
    obtain ⟨e, he⟩ := ih (by omega)
    obtain ⟨i, hi⟩ : ∃ i, k.q[p + n]? = some i := ⟨_, List.getElem?_eq_getElem (by omega)⟩
    have his := ((h.qm i).1 (List.mem_of_getElem? hi)).1
    obtain ⟨op, g, _, _, hrs⟩ := h.op (h.qpos hi) (Array.getElem?_eq_getElem his)
    obtain ⟨b, v, _, _, _, h1, h2, _⟩ := h.tr (p + n) _ (by rw [List.getElem?_take, if_pos (by omega)]; exact hrs)
    cases b with
    | false => exact ⟨e, by rw [← Nat.add_assoc, (h1 rfl).2]; exact he⟩
    | true =>
      obtain ⟨n1, _, hn, _⟩ := h2 rfl
      exact ⟨e ++ n1, by rw [← Nat.add_assoc, hn, he, List.append_assoc]⟩
theorem RK.Ok.nsle (h : k.Ok) {p p' : Nat} (h1 : p ≤ p') (h2 : p' ≤ k.q.length) : (k.ns p).length ≤ (k.ns p').length := by
  obtain ⟨e, he⟩ := h.nsp (p := p) (p' - p) (by omega)
  rw [show p + (p' - p) = p' by omega] at he
  rw [he]; simp
theorem RK.Ok.nsget (h : k.Ok) {p j : Nat} (h1 : p ≤ k.q.length) (h2 : j < (k.ns p).length) : k.newsF.getD j .dead = (k.ns p).getD j .dead := by
  obtain ⟨e, he⟩ := h.nsp (p := p) (k.q.length - p) (by omega)
  rw [show p + (k.q.length - p) = k.q.length by omega, h.nM] at he
  rw [he, List.getD_eq_getElem?_getD, List.getElem?_append_left h2, ← List.getD_eq_getElem?_getD]
theorem RK.Ok.owner (h : k.Ok) : ∀ n, n ≤ k.q.length → ∀ j, j < (k.ns n).length → ∃ p, p < n ∧ (k.ns p).length ≤ j ∧ j < (k.ns (p + 1)).length := by
  intro n
  induction n with
  | zero => intro _ j hj; rw [h.n0] at hj; simp at hj
  | succ n ih =>
    intro hn j hj
    by_cases hlt : j < (k.ns n).length
    · obtain ⟨p, h1, h2⟩ := ih (by omega) j hlt
      exact ⟨p, by omega, h2⟩
    · exact ⟨n, by omega, by omega, hj⟩
theorem listed_eq {i : Nat} (h : i < listed.size) (d d' : Bool) : listed.getD i d = listed.getD i d' := by simp [h]
theorem J.st (h : J k listed a W kT sT envT m F XO stN) (ok : k.Ok) (hfl : ∀ (p i : Nat), k.q[p]? = some i → listed.getD i false = false → k.fl.contains p = true) :
    stN = sto sT.st ∧ St k.gb k.X m F k.L XO W sT.st sT.ext := by
  have e : stN = sto sT.st ∧ ∀ i b, m i = some b → i < sT.st.length := by
    rcases Nat.eq_zero_or_pos kT with h0 | h0
    · obtain ⟨a1, a2, a3⟩ := h.A h0
      have hz := h.z h0
      have hst : sT.st = k.s0.st ++ k.newsF := by rw [hz]
      rw [hst]
      refine ⟨?_, fun i b hi => ?_⟩
      · funext i
        rw [sto_append]
        unfold put
        split
        · rename_i hi
          obtain ⟨p, p1, p2, p3⟩ := ok.owner k.q.length (Nat.le_refl _) (i - k.s0.st.length) (by rw [ok.nM]; omega)
          obtain ⟨i', hi'⟩ : ∃ i', k.q[p]? = some i' := ⟨_, List.getElem?_eq_getElem p1⟩
          cases hl : listed.getD i' false with
          | true =>
            have := a2 p i' hi' hl _ p2 p3
            rwa [show k.s0.st.length + (i - k.s0.st.length) = i by omega] at this
          | false =>
            have hc := hfl p i' hi' hl
            have his := ((ok.qm i').1 (List.mem_of_getElem? hi')).1
            obtain ⟨op, g, _, _, hrs⟩ := ok.op (ok.qpos hi') (Array.getElem?_eq_getElem his)
            obtain ⟨b, v, _, _, _, _, _, hn⟩ := ok.tr p _ (by rw [List.getElem?_take, if_pos p1]; exact hrs)
            rw [hn hc] at p3; omega
        · rename_i hi
          by_cases hlt : i < k.s0.st.length
          · exact a1 i hlt
          · have : stN i = .dead := by
              apply Classical.byContradiction
              intro hc
              obtain ⟨p, i', q1, q2, q3, q4⟩ := a3 i (by omega) (.inl hc)
              have hp := (List.getElem?_eq_some_iff.1 q1).1
              have := ok.nsle (p := p + 1) (p' := k.q.length) (by omega) (Nat.le_refl _)
              rw [ok.nM] at this
              omega
            rw [this]
            simp [sto, List.getD_eq_getElem?_getD, List.getElem?_eq_none (show k.s0.st.length ≤ i by omega)]
      · by_cases hlt : i < k.s0.st.length
        · simp; omega
        · obtain ⟨p, i', q1, q2, q3, q4⟩ := a3 i (by omega) (.inr (by rw [hi]; simp))
          have hp := (List.getElem?_eq_some_iff.1 q1).1
          have := ok.nsle (p := p + 1) (p' := k.q.length) (by omega) (Nat.le_refl _)
          rw [ok.nM] at this
          simp; omega
    · exact h.B h0
  obtain ⟨e1, e2⟩ := e
  exact ⟨e1, ⟨e1 ▸ h.R, e2, h.x, fun b hb => h.ap b (e1 ▸ hb)⟩⟩
theorem MvP.mv {nb : Nat} {m m' : Nat → Option Nat} {F F' XO XO' : Nat → Prop} {st st' : List AO} (h : MvP nb m F XO W st m' F' XO' W') (ow : ∀ b, own m' (sto st') b → own m (sto st) b ∨ W.heap.size ≤ b) : Mv nb m F XO W st m' F' XO' W' st' :=
  ⟨h.hm, h.hF, h.nF, h.tr, ow, h.xo, h.rg⟩
theorem Mv.p {nb : Nat} {m m' : Nat → Option Nat} {F F' XO XO' : Nat → Prop} {st st' : List AO} (h : Mv nb m F XO W st m' F' XO' W' st') : MvP nb m F XO W st m' F' XO' W' := ⟨h.hm, h.hF, h.nF, h.tr, h.xo, h.rg⟩
theorem J.done (h : J k listed a W kT sT envT m F XO stN) (ok : k.Ok) (hs : listed.size = k.ops.size) (hall : ∀ i, i < k.ops.size → listed.getD i true = true) : Next k.gb k.X k.nt k.slots k.L k.nb k.m0 k.F0 k.XO0 k.W0 k.s0.st k.sE a W := by
  have hq : ∀ (p i : Nat), k.q[p]? = some i → listed.getD i false = true := fun p i hi => by
    have := ((ok.qm i).1 (List.mem_of_getElem? hi)).1
    rw [listed_eq (by omega) false true]; exact hall i this
  have hk : kT = k.t.length := by
    rcases Nat.lt_or_ge kT k.t.length with hlt | hge
    · obtain ⟨i, hi⟩ : ∃ i, k.t[kT]? = some i := ⟨_, List.getElem?_eq_getElem hlt⟩
      have := ok.tm i (List.mem_of_getElem? hi)
      have := (h.lT kT i hi).1 (by rw [listed_eq (by omega) false true]; exact hall i this)
      omega
    · have := h.kl; omega
  obtain ⟨e, S⟩ := h.st ok (fun p i hi hl => by rw [hq p i hi] at hl; cases hl)
  have hrun := h.run
  have hnil : k.rs.drop (k.q.length + kT) = [] := by
    rw [List.drop_eq_nil_iff, (compOps_get ok.comp).1, (pick_get ok.order).1, hk]
    simp
  rw [hnil] at hrun
  simp only [aOpsT, Option.some.injEq, Prod.mk.injEq] at hrun
  obtain ⟨_, rfl⟩ := hrun
  exact ⟨m, F, XO, S, ⟨h.vz, h.vl, fun i t ht => h.V i t ht fun p i hi _ => hq p i hi⟩, h.mv.mv fun b hb => h.ow b (e ▸ hb)⟩
theorem J.qnext (h : J k listed a W kT sT envT m F XO stN) (ok : k.Ok) (hX : XMono k.X) (hs : listed.size = k.ops.size) {p i : Nat} {o : Oper} {v : AV} {w : Value} {n1 : List AO} (hp : k.q[p]? = some i) (ho : k.ops[i]? = some o) (hun : listed.getD i true = false) (he : ∀ e ∈ o.after, Region.binds .any e = true → listed.getD e.on false = true)
    (hv : k.envF[p]? = some v) (hn : k.ns (p + 1) = k.ns p ++ n1) (hfl : k.fl.contains p = true → n1 = []) (hdt : ∀ (r j : Nat), r < kT → k.t[r]? = some j → ∀ d, k.dst i = some d → k.dst j ≠ some d) (hfree : ∀ i', k.s0.st.length + (k.ns p).length ≤ i' → i' < k.s0.st.length + (k.ns p).length + n1.length → m i' = none)
    (hq : QPost k.gb m F k.L W stN (k.s0.st.length + (k.ns p).length) v n1 w W') : ∃ m' F' stN', J k (listed.setIfInBounds i true) (a.put o.dst w) W' kT sT envT m' F' XO stN' := by
  obtain ⟨m', F', G, R', hrv, hnew⟩ := hq
  have hiq := List.mem_of_getElem? hp
  have hil : i < listed.size := by rw [hs]; exact ((ok.qm i).1 hiq).1
  have hnt : i ∉ k.t := ((ok.qm i).1 hiq).2
  have hun' : listed.getD i false = false := by rw [listed_eq hil false true]; exact hun
  have hpl := (List.getElem?_eq_some_iff.1 hp).1
  have hself : (listed.setIfInBounds i true).getD i false = true := by simp [hil]
  have hset : ∀ j, j ≠ i → (listed.setIfInBounds i true).getD j false = listed.getD j false := fun j hj => getD_set_ne false (Ne.symm hj)
  have hback : ∀ j, (listed.setIfInBounds i true).getD j false = true → j = i ∨ listed.getD j false = true := fun j hj => by
    by_cases e : j = i
    · exact .inl e
    · rw [hset j e] at hj; exact .inr hj
  have hfwd : ∀ j, listed.getD j false = true → (listed.setIfInBounds i true).getD j false = true := fun j hj => getD_set_true hj
  have hdst : o.dst = k.dst i := by simp [RK.dst, ho]
  have hev : k.envF.getD p .junk = v := by rw [List.getD_eq_getElem?_getD, hv]; rfl
  have mono : ∀ {u : AV} {z : Value}, RepA m F k.L W u z → RepA m' F' k.L W' u z := fun h1 => G.rep h.R.hF (fun _ _ h => h) h1
  have hput : ∀ i', ¬ (k.s0.st.length + (k.ns p).length ≤ i' ∧ i' < k.s0.st.length + (k.ns p).length + n1.length) → put stN (k.s0.st.length + (k.ns p).length) n1 i' = stN i' := fun i' h1 => by unfold put; rw [if_neg h1]
  have hown : ∀ b, own m' (put stN (k.s0.st.length + (k.ns p).length) n1) b → own m stN b ∨ W.heap.size ≤ b := by
    rintro b ⟨i', h1, h2⟩
    rcases hnew i' b h2 with h3 | h3
    · refine .inl ⟨i', ?_, h3⟩
      rwa [hput i' (fun hc => by rw [hfree i' hc.1 hc.2] at h3; cases h3)] at h1
    · exact .inr h3.1
  have h0 := h.mv.tr.size
  have hlen1 : (k.ns (p + 1)).length = (k.ns p).length + n1.length := by rw [hn]; simp
  refine ⟨m', F', put stN (k.s0.st.length + (k.ns p).length) n1, ?_⟩
  refine { kl := h.kl, lT := fun r j hj => ?_, run := h.run, e1 := h.e1, e2 := h.e2, z := h.z, ln := h.ln, fl := fun hk p' i' hi' hl => ?_, fsx := fun i' hi' hlt => ?_, cl := fun j oj hj hl e hem hb => ?_, df := ?_, vz := by rw [put_size]; exact h.vz, vl := h.vl,
           V := fun s d hsd hw => ?_, V2 := h.V2, Lq := fun p' i' d hi' hl hd hns => ?_, Lt := fun r j d hr hj hd hns => ?_, R := R', x := ?_, ap := fun b hb hx => ?_, mv := ?_, ow := fun b hb => ?_, A := fun hk => ?_, B := fun hk => ?_ }
  · rw [hset j (fun e => hnt (e ▸ List.mem_of_getElem? hj))]
    exact h.lT r j hj
  · by_cases e : i' = i
    · subst e; rw [hself] at hl; cases hl
    · rw [hset i' e] at hl; exact h.fl hk p' i' hi' hl
  · rw [hput i' (by omega)]; exact h.fsx i' hi' hlt
  · rcases hback j hl with e | h1
    · subst e
      rw [ho] at hj; injection hj with hj; subst hj
      exact hfwd _ (he e hem hb)
    · exact hfwd _ (h.cl j oj hj h1 e hem hb)
  · rw [← h.df]; cases o.dst <;> rfl
  · by_cases e : k.dst i = some d
    · rw [hdst, e, put_self (Nat.lt_of_lt_of_le (ok.dlt e) h.vz)]
      have e1 := h.V2 s d hsd (fun r j hr hj => hdt r j hr hj d e)
      have e2 := (ok.vget hsd k.q.length (Nat.le_refl _)).2.1 p i hpl hp e
      rw [e1, ← ok.vM, e2, hev]
      exact hrv
    · rw [put_get (by rw [hdst]; exact e)]
      exact mono (h.V s d hsd fun p' i' hi' hd => by
        rcases hback i' (hw p' i' hi' hd) with e' | h1
        · subst e'; exact absurd hd e
        · exact h1)
  · by_cases e : i' = i
    · subst e
      have := pw_inj ok.qp hi' hp
      subst this
      rw [hdst, hd, put_self (Nat.lt_of_lt_of_le (ok.dlt hd) h.vz), hev]
      exact hrv
    · rw [put_get (by rw [hdst]; intro hc; exact e (ok.uniq hd hc hns))]
      rw [hset i' e] at hl
      exact mono (h.Lq p' i' d hi' hl hd hns)
  · rw [put_get (by rw [hdst]; intro hc; have := ok.uniq hd hc hns; subst this; exact hnt (List.mem_of_getElem? hj))]
    exact mono (h.Lt r j d hr hj hd hns)
  · exact h.x.mono hX G (fun b hb => ⟨h.R.hF b hb, fun h => h⟩) (fun b _ h => h) R'.hF
  · rcases hown b hb with h1 | h1
    · exact h.ap b h1 hx
    · revert hx
      have hxx := h.x
      cases hL : k.L with
      | none => cases hE : sT.ext with
        | none => rw [hL, hE] at hxx; exact hxx b
        | some e => rw [hL, hE] at hxx; exact hxx.elim
      | some l => cases hE : sT.ext with
        | none => rw [hL, hE] at hxx; exact hxx.elim
        | some e => rw [hL, hE] at hxx; intro hx; have := (hxx.2 b hx).1; omega
  · refine ⟨fun i b hi hb => G.hm i b (h.mv.hm i b hi hb), fun b hb => G.hF b (h.mv.hF b hb), fun b hb => ?_, h.mv.tr.trans G.tr (fun b _ h => h.elim), h.mv.xo, fun i b hb => ?_⟩
    · rcases G.nF b hb with h1 | h1 | h1
      · exact h.mv.nF b h1
      · exact h1.elim
      · exact .inr (.inr (Nat.le_trans h0 h1))
    · rcases hnew i b hb with h1 | h1
      · exact h.mv.rg i b h1
      · exact .inr (Nat.le_trans h0 h1.1)
  · rcases hown b hb with h1 | h1
    · exact h.ow b h1
    · exact .inr (Nat.le_trans h0 h1)
  · obtain ⟨a1, a2, a3⟩ := h.A hk
    refine ⟨fun i' hi' => by rw [hput i' (by omega)]; exact a1 i' hi', fun p' i' hi' hl j h1 h2 => ?_, fun i' hi' hor => ?_⟩
    · by_cases e : i' = i
      · subst e
        have := pw_inj ok.qp hi' hp
        subst this
        rw [hlen1] at h2
        unfold put
        rw [if_pos (by omega), ok.nsget (p := p' + 1) (by omega) (by omega), hn, List.getD_eq_getElem?_getD, List.getD_eq_getElem?_getD, List.getElem?_append_right h1]
        congr 2; omega
      · rw [hset i' e] at hl
        have hp' := (List.getElem?_eq_some_iff.1 hi').1
        rw [hput _ ?_]
        · exact a2 p' i' hi' hl j h1 h2
        · rintro ⟨c1, c2⟩
          rcases Nat.lt_trichotomy p' p with hlt | heq | hlt
          · have := ok.nsle (p := p' + 1) (p' := p) hlt (by omega); omega
          · subst heq; rw [hp] at hi'; injection hi' with hi'; exact e hi'.symm
          · have := ok.nsle (p := p + 1) (p' := p') hlt (by omega); omega
    · by_cases hin : k.s0.st.length + (k.ns p).length ≤ i' ∧ i' < k.s0.st.length + (k.ns p).length + n1.length
      · exact ⟨p, i, hp, hself, hin.1, by rw [hlen1]; omega⟩
      · have : stN i' ≠ .dead ∨ m i' ≠ none := by
          rcases hor with h1 | h1
          · rw [hput i' hin] at h1; exact .inl h1
          · cases hm : m' i' with
            | none => exact absurd hm h1
            | some b =>
              rcases hnew i' b hm with h2 | h2
              · exact .inr (by rw [h2]; simp)
              · exact absurd h2.2 hin
        obtain ⟨p', i2, q1, q2, q3, q4⟩ := a3 i' hi' this
        exact ⟨p', i2, q1, hfwd _ q2, q3, q4⟩
  · have hn1 := hfl (h.fl hk p i hp hun')
    obtain ⟨b1, b2⟩ := h.B hk
    subst hn1
    refine ⟨by rw [put_nil]; exact b1, fun i' b hi' => ?_⟩
    rcases hnew i' b hi' with h1 | h1
    · exact b2 i' b h1
    · have := h1.2; simp at this; omega
end
end Go.Vm

/- Regions whose order is drawn: each operation may come when it is ready. -/
namespace Go.Vm
open Go
section
variable {k : RK} {listed : Array Bool} {a : Act} {W W' : World} {kT : Nat} {sT : S} {envT : List AV} {m : Nat → Option Nat} {F XO : Nat → Prop} {stN : Sto} {ro : Option Nat}
theorem J.bef (h : J k listed a W kT sT envT m F XO stN) {i j : Nat} {o : Oper} (ho : k.ops[i]? = some o) (he : ∀ e ∈ o.after, Region.binds .any e = true → listed.getD e.on false = true) (hb : ((befs k.ops.toList []).getD i 0).testBit j = true) : listed.getD j false = true :=
  bef_listed h.cl i i o j (Nat.le_refl _) ho he hb
theorem J.qlook (_h : J k listed a W kT sT envT m F XO stN) (ok : k.Ok) {i : Nat} {o : Oper} (hi : i ∈ k.q) (ho : k.ops[i]? = some o) (he : ∀ e ∈ o.after, Region.binds .any e = true → listed.getD e.on false = true) {d j : Nat} (hd : d ∈ o.looksAt k.ops) (hj : j ∈ k.q) (hjd : k.dst j = some d) : j < i ∧ listed.getD j false = true := by
  obtain ⟨h1, e, h2, h3, rfl⟩ := ok.Q2 hi ho hd hj hjd
  exact ⟨h1, he e h2 h3⟩
theorem J.tdone (h : J k listed a W kT sT envT m F XO stN) {r j : Nat} (hr : r < kT) (hj : k.t[r]? = some j) : listed.getD j false = true := (h.lT r j hj).2 hr
theorem J.apart (h : J k listed a W kT sT envT m F XO stN) (ok : k.Ok) {i : Nat} {o : Oper} (hi : i ∈ k.q) (ho : k.ops[i]? = some o) (hun : listed.getD i false = false) {r j : Nat} (hr : r < kT) (hj : k.t[r]? = some j) :
    (∀ d, k.dst i = some d → k.dst j ≠ some d) ∧ (∀ d ∈ o.looksAt k.ops, k.dst j ≠ some d) := by
  have hjt := List.mem_of_getElem? hj
  obtain ⟨oj, hoj⟩ : ∃ oj, k.ops[j]? = some oj := ⟨_, Array.getElem?_eq_getElem (ok.tm j hjt)⟩
  have hb : ((befs k.ops.toList []).getD j 0).testBit i = false := by
    cases hc : ((befs k.ops.toList []).getD j 0).testBit i with
    | false => rfl
    | true =>
      have := h.bef hoj (h.cl j oj hoj (h.tdone hr hj)) hc
      rw [hun] at this; cases this
  obtain ⟨h1, h2⟩ := ok.T2 hjt hi hoj ho hb
  exact ⟨fun d hd => (h1 d hd).2, fun d hd hc => h2 d hc hd⟩
theorem compG_eta {C : Ctx} {g : Option (Nat × Bool)} {g' : Option (Nat × Bool)} (h : compG C g = some g') : compG { slots := C.slots, dsts := C.dsts, pos := C.pos, glob := C.glob, h := C.h } g = some g' := h
theorem J.qstep (h : J k listed a W kT sT envT m F XO stN) (ok : k.Ok) (H : LowerOk k.P k.gb k.X k.lo) (hs : listed.size = k.ops.size) {i : Nat} {o : Oper} (hi : i ∈ k.q) (ho : k.ops[i]? = some o) (hun : listed.getD i true = false) (he : ∀ e ∈ o.after, Region.binds .any e = true → listed.getD e.on false = true) :
    (Region.wanted o (yielded k.ops a.tmps) = true → Vm.Ok k.P ro o a W fun w W' => ∃ m' F' stN', J k (listed.setIfInBounds i true) (a.put o.dst w) W' kT sT envT m' F' XO stN') ∧
    (Region.wanted o (yielded k.ops a.tmps) = false → ∃ m' F' stN', J k (listed.setIfInBounds i true) (a.put o.dst undef) W kT sT envT m' F' XO stN') := by
  obtain ⟨p, hpl, hpi⟩ := List.getElem_of_mem hi
  have hp : k.q[p]? = some i := by rw [List.getElem?_eq_getElem hpl, hpi]
  have hil : i < listed.size := by rw [hs]; exact ((ok.qm i).1 hi).1
  have hun' : listed.getD i false = false := by rw [listed_eq hil false true]; exact hun
  obtain ⟨op, g, hop, hg, hrs⟩ := ok.op (ok.qpos hp) ho
  obtain ⟨b, v, hw, hv, hvs, hf, ht, hfn⟩ := ok.tr p _ (by rw [List.getElem?_take, if_pos hpl]; exact hrs)
  simp only at hw hf ht
  have htl : (k.envF.take p).length ≤ p := by simp; omega
  -- local temporaries
  have hloc : ∀ p' d, d ∈ o.looksAt k.ops → p' < (k.envF.take p).length → k.C.dsts[p']? = some (some d) → d ∉ k.slots → RepA m F k.L W ((k.envF.take p).getD p' .junk) (a.tmps.getD d undef) := by
    intro p' d hd hlt hds hns
    obtain ⟨i', h1, h2⟩ := ok.dsts' hds
    rw [List.getElem?_append_left (by omega)] at h1
    have := h.qlook ok hi ho he hd (List.mem_of_getElem? h1) h2
    have e : (k.envF.take p).getD p' .junk = k.envF.getD p' .junk := by
      rw [List.getD_eq_getElem?_getD, List.getElem?_take, if_pos (by omega), List.getD_eq_getElem?_getD]
    rw [e]
    exact h.Lq p' i' d h1 this.2 h2 hns
  have hslot : ∀ s d, d ∈ o.looksAt k.ops → k.slots[s]? = some d → RepA m F k.L W ((k.vs p).getD s .junk) (a.tmps.getD d undef) := by
    intro s d hd hsd
    have h1 := h.V s d hsd fun p' i' hi' hdi => (h.qlook ok hi ho he hd (List.mem_of_getElem? hi') hdi).2
    have h2 := h.V2 s d hsd fun r j hr hj hc => (h.apart ok hi ho hun' hr hj).2 d hd hc
    rw [h2, ← ok.vM] at h1
    obtain ⟨_, g1, g2⟩ := ok.vget hsd p (by omega)
    obtain ⟨_, f1, f2⟩ := ok.vget hsd k.q.length (Nat.le_refl _)
    by_cases hex : ∃ (r j : Nat), k.q[r]? = some j ∧ k.dst j = some d
    · obtain ⟨r, j, hr, hj⟩ := hex
      have hlt := (h.qlook ok hi ho he hd (List.mem_of_getElem? hr) hj).1
      have hrp := (pw_lt ok.qp hr hp).2 hlt
      rw [f1 r j (by omega) hr hj] at h1
      rw [g1 r j hrp hr hj]; exact h1
    · rw [f2 fun r j _ hr hj => hex ⟨r, j, hr, hj⟩] at h1
      rw [g2 fun r j _ hr hj => hex ⟨r, j, hr, hj⟩]; exact h1
  have hwant : Region.wanted o (yielded k.ops a.tmps) = b := by
    refine want_eq2 (C := k.C) (gb := k.C.glob) (slots := k.C.slots) (dsts := k.C.dsts) (pos := k.C.pos) (m := m) (F := F) (L := k.L) (W := W) (env := k.envF.take p) (fun j w p' d hgd hpj hlt hd hns => ?_) (compG_eta hg) (fun j w hgd => ?_) (fun j w d hgd hd => ?_) hw
    · have hord : (k.q ++ k.t)[p']? = some j := by rw [ok.po] at hpj; exact idxOf_get hpj
      refine hloc p' d (looks_guard hgd hd) hlt ?_ (by rw [← ok.cs]; exact hns)
      rw [ok.dsts hord]; exact congrArg some hd
    · obtain ⟨_, d, h1, h2⟩ := guard_ok ok.gu (i := i) (by simpa using ho) hgd
      exact ⟨d, by simpa using h1, by rw [ok.cs]; exact h2⟩
    · exact Nat.lt_of_lt_of_le (ok.dlt (i := j) hd) h.vz
  have hdt : ∀ (r j : Nat), r < kT → k.t[r]? = some j → ∀ d, k.dst i = some d → k.dst j ≠ some d := fun r j hr hj => (h.apart ok hi ho hun' hr hj).1
  rw [hwant]
  refine ⟨fun hb => ?_, fun hb => ?_⟩
  · obtain ⟨n1, hq, hn, hfl⟩ := ht hb
    have hopr : OprOk k.C m F k.L W o a (k.vs p) (k.envF.take p) := by
      refine opr_ok2 ok.cg h.R (fun s d hd hsd => ?_) (fun p' d hd hlt hds hns => ?_)
      · rw [ok.cs] at hsd; exact hslot s d (looks_opr hd) hsd
      · rw [ok.cs] at hns; exact hloc p' d (looks_opr hd) hlt hds hns
    have hlen1 : (k.ns (p + 1)).length = (k.ns p).length + n1.length := by rw [hn]; simp
    have hfree : ∀ i', k.s0.st.length + (k.ns p).length ≤ i' → i' < k.s0.st.length + (k.ns p).length + n1.length → m i' = none := by
      intro i' h1 h2
      rcases Nat.eq_zero_or_pos kT with h0 | h0
      · obtain ⟨_, _, a3⟩ := h.A h0
        apply Classical.byContradiction
        intro hc
        obtain ⟨p', i2, q1, q2, q3, q4⟩ := a3 i' (by omega) (.inr hc)
        have hp' := (List.getElem?_eq_some_iff.1 q1).1
        rcases Nat.lt_trichotomy p' p with hlt | heq | hlt
        · have := ok.nsle (p := p' + 1) (p' := p) hlt (by omega); omega
        · subst heq; rw [hp] at q1; injection q1 with q1; subst q1; rw [hun'] at q2; cases q2
        · have := ok.nsle (p := p + 1) (p' := p') hlt (by omega); omega
      · have := (hfl (h.fl h0 p i hp hun')).1
        subst this; simp at h2; omega
    have hS : ∀ i' ∈ rIds (k.vs p) (k.envF.take p) op, i' < k.s0.st.length → stN i' = sto k.s0.st i' := by
      intro i' h1 h2
      rcases Nat.eq_zero_or_pos kT with h0 | h0
      · exact (h.A h0).1 i' h2
      · exact h.fsx i' ((hfl (h.fl h0 p i hp hun')).2 i' h1) h2
    exact (aQ_sound H hop h.R hfree hopr hS hq).mono fun w W' hpost => h.qnext ok H.xm hs hp ho hun he hv hn (fun hc => (hfl hc).1) hdt hfree hpost
  · obtain ⟨hv0, hn0⟩ := hf hb
    subst hv0
    exact h.qnext (n1 := []) ok H.xm hs hp ho hun he hv (by rw [hn0, List.append_nil]) (fun _ => rfl) hdt (fun i' h1 h2 => by simp at h2; omega) (QPost.val h.R rep_undef)
theorem J.tnext (h : J k listed a W kT sT envT m F XO stN) (ok : k.Ok) (hs : listed.size = k.ops.size) {i : Nat} {o : Oper} {v : AV} {w : Value} {s1 : S} {m1 : Nat → Option Nat} {F1 XO1 : Nat → Prop} (hi : k.t[kT]? = some i) (ho : k.ops[i]? = some o) (he : ∀ e ∈ o.after, Region.binds .any e = true → listed.getD e.on false = true)
    (hfl : ∀ (p i : Nat), k.q[p]? = some i → listed.getD i false = false → k.fl.contains p = true) (hstN : stN = sto sT.st)
    (S1 : St k.gb k.X m1 F1 k.L XO1 W' s1.st s1.ext) (hvars : s1.vars = sT.vars) (M1 : Mv k.nb m F XO W sT.st m1 F1 XO1 W' s1.st) (mono : ∀ u z, RepA m F k.L W u z → RepA m1 F1 k.L W' u z) (hrv : RepA m1 F1 k.L W' v w) (hln : sT.st.length ≤ s1.st.length) (hkeep : ∀ i ∈ k.fsF, i < k.s0.st.length → sto s1.st i = sto sT.st i)
    (hrun : aOpsT k.lo k.fsF (k.rs.drop (k.q.length + (kT + 1))) (envT ++ [v]) { s1 with vars := setW s1.vars (o.dst.bind fun d => k.slots.idxOf? d) v } = some (k.envE, k.sE)) :
    J k (listed.setIfInBounds i true) (a.put o.dst w) W' (kT + 1) { s1 with vars := setW s1.vars (o.dst.bind fun d => k.slots.idxOf? d) v } (envT ++ [v]) m1 F1 XO1 (sto s1.st) := by
  have hit := List.mem_of_getElem? hi
  have hil : i < listed.size := by rw [hs]; exact ok.tm i hit
  have hself : (listed.setIfInBounds i true).getD i false = true := by simp [hil]
  have hset : ∀ j, j ≠ i → (listed.setIfInBounds i true).getD j false = listed.getD j false := fun j hj => getD_set_ne false (Ne.symm hj)
  have hfwd : ∀ j, listed.getD j false = true → (listed.setIfInBounds i true).getD j false = true := fun j hj => getD_set_true hj
  have hdst : o.dst = k.dst i := by simp [RK.dst, ho]
  have hqi : ∀ j, j ∈ k.q → j ≠ i := fun j hj e => ((ok.qm j).1 hj).2 (e ▸ hit)
  have hvl : s1.vars.length = k.slots.length := by rw [hvars]; exact h.vl
  have hlast : ∀ r, r < kT → (envT ++ [v]).getD (k.q.length + r) .junk = envT.getD (k.q.length + r) .junk := fun r hr => by
    rw [List.getD_eq_getElem?_getD, List.getElem?_append_left (by have := h.e2; omega), ← List.getD_eq_getElem?_getD]
  have hnew : (envT ++ [v]).getD (k.q.length + kT) .junk = v := by
    rw [List.getD_eq_getElem?_getD, List.getElem?_append_right (by have := h.e2; omega), h.e2]; simp
  refine { kl := (List.getElem?_eq_some_iff.1 hi).1, lT := fun r j hj => ?_, run := hrun, e1 := ?_, e2 := by simp [h.e2, Nat.add_assoc], z := fun h => absurd h (Nat.succ_ne_zero _), ln := Nat.le_trans h.ln hln, fl := fun _ p' i' hi' hl => ?_, fsx := fun i' hi' hlt => ?_, cl := fun j oj hj hl e hem hb => ?_, df := ?_, vz := by rw [put_size]; exact h.vz, vl := by rw [setW_len]; exact hvl,
           V := fun s d hsd hw => ?_, V2 := fun s d hsd hno => ?_, Lq := fun p' i' d hi' hl hd hns => ?_, Lt := fun r j d hr hj hd hns => ?_, R := S1.R, x := S1.x, ap := S1.ap, mv := ?_, ow := fun b hb => ?_, A := fun h => absurd h (Nat.succ_ne_zero _), B := fun _ => ⟨rfl, S1.up⟩ }
  · by_cases e : j = i
    · subst e
      have := pw_inj ok.tp hj hi
      subst this
      exact ⟨fun _ => Nat.lt_succ_self _, fun _ => hself⟩
    · rw [hset j e, h.lT r j hj]
      constructor
      · intro h1; omega
      · intro h1
        rcases Nat.lt_or_ge r kT with h2 | h2
        · exact h2
        · have : r = kT := by omega
          subst this; rw [hi] at hj; injection hj with hj; exact absurd hj.symm e
  · rw [List.take_append_of_le_length (by have := h.e2; omega)]; exact h.e1
  · rw [hset i' (hqi i' (List.mem_of_getElem? hi'))] at hl
    exact hfl p' i' hi' hl
  · rw [hkeep i' hi' hlt, ← hstN]; exact h.fsx i' hi' hlt
  · by_cases ej : j = i
    · subst ej
      rw [ho] at hj; injection hj with hj; subst hj
      exact hfwd _ (he e hem hb)
    · rw [hset j ej] at hl
      exact hfwd _ (h.cl j oj hj hl e hem hb)
  · rw [← h.df]; cases o.dst <;> rfl
  · rw [setW_get ok.nd hsd hvl]
    by_cases e : o.dst = some d
    · rw [if_pos e, e, put_self (Nat.lt_of_lt_of_le (ok.dlt (hdst ▸ e)) h.vz)]
      exact hrv
    · rw [if_neg e, put_get e, hvars]
      exact mono _ _ (h.V s d hsd fun p' i' hi' hd => by
        have := hw p' i' hi' hd
        rwa [hset i' (hqi i' (List.mem_of_getElem? hi'))] at this)
  · rw [setW_get ok.nd hsd hvl, if_neg (by rw [hdst]; exact hno kT i (Nat.lt_succ_self _) hi), hvars]
    exact h.V2 s d hsd fun r j hr hj => hno r j (by omega) hj
  · have hne := hqi i' (List.mem_of_getElem? hi')
    rw [hset i' hne] at hl
    rw [put_get (by rw [hdst]; intro hc; exact hne (ok.uniq hd hc hns))]
    exact mono _ _ (h.Lq p' i' d hi' hl hd hns)
  · by_cases e : j = i
    · subst e
      have := pw_inj ok.tp hj hi
      subst this
      rw [hdst, hd, put_self (Nat.lt_of_lt_of_le (ok.dlt hd) h.vz), hnew]
      exact hrv
    · have hrk : r < kT := by
        rcases Nat.lt_or_ge r kT with h2 | h2
        · exact h2
        · have : r = kT := by omega
          subst this; rw [hi] at hj; injection hj with hj; exact absurd hj.symm e
      rw [hlast r hrk, put_get (by rw [hdst]; intro hc; exact e (ok.uniq hd hc hns))]
      exact mono _ _ (h.Lt r j d hrk hj hd hns)
  · have := (h.mv.mv (st' := sT.st) fun b hb => h.ow b (hstN ▸ hb)).trans M1
    exact this.p
  · have := (h.mv.mv (st' := sT.st) fun b hb => h.ow b (hstN ▸ hb)).trans M1
    exact this.ow b hb
theorem J.tstep (h : J k listed a W kT sT envT m F XO stN) (ok : k.Ok) (H : LowerOk k.P k.gb k.X k.lo) (hs : listed.size = k.ops.size) {i : Nat} {o : Oper} (hi : i ∈ k.t) (ho : k.ops[i]? = some o) (hun : listed.getD i true = false) (he : ∀ e ∈ o.after, Region.binds .any e = true → listed.getD e.on false = true) :
    (Region.wanted o (yielded k.ops a.tmps) = true → Vm.Ok k.P ro o a W fun w W' => ∃ kT' sT' envT' m' F' XO' stN', J k (listed.setIfInBounds i true) (a.put o.dst w) W' kT' sT' envT' m' F' XO' stN') ∧
    (Region.wanted o (yielded k.ops a.tmps) = false → ∃ kT' sT' envT' m' F' XO' stN', J k (listed.setIfInBounds i true) (a.put o.dst undef) W kT' sT' envT' m' F' XO' stN') := by
  have hil : i < listed.size := by rw [hs]; exact ok.tm i hi
  have hun' : listed.getD i false = false := by rw [listed_eq hil false true]; exact hun
  -- it is the next one
  have hik : k.t[kT]? = some i := by
    obtain ⟨r, hrl, hri⟩ := List.getElem_of_mem hi
    have hr : k.t[r]? = some i := by rw [List.getElem?_eq_getElem hrl, hri]
    have h1 : ¬ r < kT := fun hc => by rw [(h.lT r i hr).2 hc] at hun'; cases hun'
    rcases Nat.lt_or_ge kT r with hlt | hge
    · obtain ⟨j, hj⟩ : ∃ j, k.t[kT]? = some j := ⟨_, List.getElem?_eq_getElem (by omega)⟩
      have hji := (pw_lt ok.tp hj hr).1 hlt
      have := h.bef ho he (ok.T1 hi (List.mem_of_getElem? hj) hji)
      have := (h.lT kT j hj).1 this
      omega
    · have : r = kT := by omega
      rw [← this]; exact hr
  have hbit : ∀ j, listed.getD j false = false → ((befs k.ops.toList []).getD i 0).testBit j = false := by
    intro j hj
    cases hc : ((befs k.ops.toList []).getD i 0).testBit j with
    | false => rfl
    | true => rw [h.bef ho he hc] at hj; cases hj
  have hfl : ∀ (p j : Nat), k.q[p]? = some j → listed.getD j false = false → k.fl.contains p = true := fun p j hp hj => ok.flq p j i hp hi (hbit j hj)
  obtain ⟨hstN, S⟩ := h.st ok hfl
  obtain ⟨op, g, hop, hg, hrs⟩ := ok.op (ok.tpos hik) ho
  have hrun := h.run
  have hdrop : k.rs.drop (k.q.length + kT) = { w := o.dst.bind fun d => k.slots.idxOf? d, g := g, op := op } :: k.rs.drop (k.q.length + (kT + 1)) := by
    obtain ⟨h1, h2⟩ := List.getElem?_eq_some_iff.1 hrs
    rw [List.drop_eq_getElem_cons h1, h2]; rfl
  rw [hdrop] at hrun
  simp only [aOpsT] at hrun
  -- whoever sets what it looks at is done
  have hlook : ∀ d ∈ o.looksAt k.ops, ∀ j, j ∈ k.q → k.dst j = some d → listed.getD j false = true := by
    intro d hd j hj hjd
    cases hc : listed.getD j false with
    | true => rfl
    | false =>
      obtain ⟨oj, hoj⟩ : ∃ oj, k.ops[j]? = some oj := ⟨_, Array.getElem?_eq_getElem ((ok.qm j).1 hj).1⟩
      exact absurd hd ((ok.T2 hi hj ho hoj (hbit j hc)).1 d hjd).1
  have hloc : ∀ p' d, d ∈ o.looksAt k.ops → p' < envT.length → k.C.dsts[p']? = some (some d) → d ∉ k.slots → RepA m F k.L W (envT.getD p' .junk) (a.tmps.getD d undef) := by
    intro p' d hd hlt hds hns
    obtain ⟨i', h1, h2⟩ := ok.dsts' hds
    by_cases hpq : p' < k.q.length
    · rw [List.getElem?_append_left hpq] at h1
      have e : envT.getD p' .junk = k.envF.getD p' .junk := by
        rw [← h.e1, List.getD_eq_getElem?_getD, List.getD_eq_getElem?_getD, List.getElem?_take, if_pos hpq]
      rw [e]
      exact h.Lq p' i' d h1 (hlook d hd i' (List.mem_of_getElem? h1) h2) h2 hns
    · rw [List.getElem?_append_right (by omega)] at h1
      have := h.Lt (p' - k.q.length) i' d (by have := h.e2; omega) h1 h2 hns
      rwa [show k.q.length + (p' - k.q.length) = p' by omega] at this
  have hwant : ∀ b, wantG envT g = some b → Region.wanted o (yielded k.ops a.tmps) = b := by
    intro b hw
    refine want_eq2 (C := k.C) (gb := k.C.glob) (slots := k.C.slots) (dsts := k.C.dsts) (pos := k.C.pos) (m := m) (F := F) (L := k.L) (W := W) (env := envT) (fun j w p' d hgd hpj hlt hd hns => ?_) (compG_eta hg) (fun j w hgd => ?_) (fun j w d hgd hd => ?_) hw
    · have hord : (k.q ++ k.t)[p']? = some j := by rw [ok.po] at hpj; exact idxOf_get hpj
      refine hloc p' d (looks_guard hgd hd) hlt ?_ (by rw [← ok.cs]; exact hns)
      rw [ok.dsts hord]; exact congrArg some hd
    · obtain ⟨_, d, h1, h2⟩ := guard_ok ok.gu (i := i) (by simpa using ho) hgd
      exact ⟨d, by simpa using h1, by rw [ok.cs]; exact h2⟩
    · exact Nat.lt_of_lt_of_le (ok.dlt (i := j) hd) h.vz
  split at hrun
  · cases hrun
  · rename_i hw
    rw [hwant false hw]
    refine ⟨(fun h => nomatch h), fun _ => ?_⟩
    exact ⟨_, _, _, _, _, _, _, h.tnext ok hs hik ho he hfl hstN S rfl (Mv.refl k.nb) (fun _ _ h => h) rep_undef (Nat.le_refl _) (fun _ _ _ => rfl) hrun⟩
  · rename_i hw
    rw [hwant true hw]
    refine ⟨fun _ => ?_, (fun h => nomatch h)⟩
    split at hrun
    · rename_i hap
      split at hrun
      · cases hrun
      · rename_i v s1 hopr
        have hoprok : OprOk k.C m F k.L W o a sT.vars envT := by
          refine opr_ok2 ok.cg (hstN ▸ h.R) (fun s d hd hsd => ?_) (fun p' d hd hlt hds hns => ?_)
          · rw [ok.cs] at hsd
            exact h.V s d hsd fun p' i' hi' hdi => hlook d (looks_opr hd) i' (List.mem_of_getElem? hi') hdi
          · rw [ok.cs] at hns; exact hloc p' d (looks_opr hd) hlt hds hns
        obtain ⟨hok, hvars⟩ := aOp_sound (ro := ro) (a := a) H hop S hoprok hopr
        obtain ⟨hkl, hkk⟩ := aOp_keep hopr
        refine hok.mono fun w W' ⟨m1, F1, XO1, p⟩ => ?_
        refine ⟨_, _, _, _, _, _, _, h.tnext ok hs hik ho he hfl hstN p.s hvars (p.mv k.nb) (fun u z h => p.rep S h) p.rv hkl (fun i' hi' hlt => hkk i' (Nat.lt_of_lt_of_le hlt h.ln) fun hc => ?_) hrun⟩
        have := List.all_eq_true.1 hap i' hc
        simp at this
        exact this hi'
    · cases hrun
end
end Go.Vm

/- Soundness: regions. -/
namespace Go.Vm
open Go
section
variable {P : Program} {gb : Nat → Option (List D)} {X : XT} {a : Act} {W : World} {m : Nat → Option Nat} {F : Nat → Prop} {L : Option Nat} {XO : Nat → Prop} {st : List AO} {ext : Option Ext} {vars : List AV} {ro : Option Nat} {lo : Lower}
def drewW (W : World) : World := { W with drawn := W.drawn + 1 }
theorem tr_drew (O : Nat → Prop) (W : World) : Tr O W (drewW W) := ⟨rfl, rfl, rfl, Nat.le_refl _, fun _ _ _ => rfl, fun _ _ h => h⟩
theorem st_drew (hX : XMono X) (S : St gb X m F L XO W st ext) : St gb X m F L XO (drewW W) st ext :=
  ⟨Rel.mono S.R (tr_drew (fun _ => False) W) (fun _ _ h => h) S.R.hm (fun _ h => h) S.R.hF (fun _ _ _ _ h => h) (fun _ _ h => h) S.R.nF, S.up,
   S.x.mono (m := m) (m' := m) hX (O := fun _ => False) ⟨fun _ _ h => h, fun _ h => h, fun _ h => .inl h, tr_drew _ W⟩ (fun b hb => ⟨S.R.hF b hb, fun h => h⟩) (fun _ _ h => h) S.R.hF, S.ap⟩
theorem rep_drew {v : AV} {w : Value} (h : RepA m F L W v w) : RepA m F L (drewW W) v w :=
  RepA.mono (W := W) (W' := drewW W) (fun _ _ h => h) (fun _ h => h) (fun _ _ => rfl) (fun _ _ h => h) h
theorem order_nodup {q t : List Nat} (hq : q.Nodup) (ht : t.Nodup) (hd : ∀ i ∈ q, i ∉ t) : (q ++ t).Nodup := by
  rw [List.nodup_append]
  exact ⟨hq, ht, fun a ha b hb e => hd a ha (e ▸ hb)⟩
theorem edges_of {ops : Array Oper} (h : edgesOk ops = true) : ∀ (i : Nat) (o : Oper), ops[i]? = some o → ∀ e ∈ o.after, Region.binds .any e = true → e.on < i := by
  intro i o ho e he hb
  have hi := (Array.getElem?_eq_some_iff.1 ho).1
  have := List.all_eq_true.1 h i (List.mem_range.2 hi)
  rw [ho] at this
  simp only at this
  obtain ⟨j, hj, rfl⟩ := Array.getElem_of_mem he
  have := Array.all_eq_true.1 this j hj
  rw [hb] at this
  simpa using this
theorem draw_sound (H : LowerOk P gb X lo) {ops : Array Oper} {slots q t : List Nat} {h : Hint} {nb : Nat} {rs : List ROp} {fl : List Nat} {s s' : S} {id : Nat} {Q : Exit → Act → World → Prop} (hm : P.follows .mixedOrders = true) (hn : slots.Nodup) (hloc : localsOk h.nt ops.toList slots = true) (hgu : guardsOk ops.toList slots = true)
    (hqok : quietOk ops q = true) (hcok : chainOk ops (befs ops.toList []) q t = true) (hed : edgesOk ops = true) (hqp : q.Pairwise (· < ·)) (htp : t.Pairwise (· < ·)) (htm : ∀ i ∈ t, i < ops.size) (hqm : ∀ i, i ∈ q ↔ i < ops.size ∧ i ∉ t)
    (hfl : fl = (flagged (befs ops.toList []) q t).filterMap fun i => (q ++ t).idxOf? i) (hc : compOps P { slots := slots, dsts := (pickOps ops.toList (q ++ t)).map (·.dst), pos := fun i => (q ++ t).idxOf? i, glob := gb, h := h } (pickOps ops.toList (q ++ t)) = some rs)
    (ha : aRegion lo rs (some (q.length, fl)) s = some s') (S : St gb X m F L XO W s.st s.ext) (hv : Vr h.nt slots m F L W a s.vars) (hQ : ∀ a' W', Next gb X h.nt slots L nb m F XO W s.st s' a' W' → a'.defers = a.defers → Q .normal a' W') :
    (Code.region id ops true).wpIn (fen ro) 0 P Q a W := by
  simp only [aRegion] at ha
  split at ha
  · cases ha
  · rename_i envF varsF newsF fsF hq
    split at ha
    · rename_i envE sE hT
      injection ha with ha; subst ha
      obtain ⟨vs, ns, k1, k2, k3, k4, k5, k6, k7, k8⟩ := q_trace hq
      simp only [List.length_nil, Nat.zero_add] at k1 k2 k3 k4 k5 k6 k8
      have hlen : (rs.take q.length).length = q.length := by
        rw [List.length_take, (compOps_get hc).1, (pick_get (ops := ops.toList) fun i hi => ?_).1]
        · simp
        · rw [List.mem_append] at hi
          simp only [Array.length_toList]
          exact hi.elim (fun hi => ((hqm i).1 hi).1) (htm i)
      rw [hlen] at k2 k5 k6
      have S1 := st_drew H.xm S
      obtain ⟨k, hk⟩ : ∃ k : RK, k = { P := P, gb := gb, X := X, lo := lo, C := { slots := slots, dsts := (pickOps ops.toList (q ++ t)).map (·.dst), pos := fun i => (q ++ t).idxOf? i, glob := gb, h := h }, ops := ops, slots := slots, nt := h.nt, nb := nb, q := q, t := t, fl := fl, rs := rs, s0 := s, envF := envF, varsF := varsF, newsF := newsF, fsF := fsF, vs := vs, ns := ns, envE := envE, sE := sE, L := L, m0 := m, F0 := F, XO0 := XO, W0 := W, a0 := a } := ⟨_, rfl⟩
      have hond : (q ++ t).Nodup := order_nodup (pw_nodup hqp) (pw_nodup htp) fun i hi => ((hqm i).1 hi).2
      have ok : k.Ok := by
        subst hk
        refine { cs := rfl, cg := rfl, ds := rfl, po := fun _ => rfl, nd := hn, loc := hloc, gu := hgu, qp := hqp, tp := htp, qm := hqm, tm := htm, qok := hqok, cok := hcok, flq := fun p i j hp hj hb => ?_, comp := hc, tr := k8, el := k2, vl0 := hv.ln, v0 := k3, n0 := k4, vM := k5, nM := k6 }
        simp only at hp hj hb ⊢
        rw [hfl, List.contains_iff_mem, List.mem_filterMap]
        refine ⟨i, List.mem_filter.2 ⟨List.mem_of_getElem? hp, List.any_eq_true.2 ⟨j, hj, by rw [hb]; rfl⟩⟩, ?_⟩
        exact idx_of hond (by rw [List.getElem?_append_left (List.getElem?_eq_some_iff.1 hp).1]; exact hp)
      have none : ∀ i, (Array.replicate ops.size false).getD i false = false := fun i => by
        by_cases hi : i < ops.size
        · simp [hi]
        · simp [hi]
      have ons : ∀ b, own m (sto s.st) b → own m (sto s.st) b ∨ W.heap.size ≤ b := fun b h => .inl h
      have hJ : J k (Array.replicate ops.size false) a (drewW W) 0 { s with vars := varsF, st := s.st ++ newsF } envF m F XO (sto s.st) := by
        subst hk
        refine { kl := Nat.zero_le _, lT := fun r i hi => ?_, run := ?_, e1 := ?_, e2 := ?_, z := fun _ => rfl, ln := by simp, fl := fun h => absurd h (Nat.lt_irrefl _), fsx := fun _ _ _ => rfl, cl := fun i o _ hl => ?_, df := rfl, vz := hv.sz, vl := ?_,
                 V := fun sl d hsd hw => ?_, V2 := fun _ _ _ _ => rfl, Lq := fun p i d _ hl => ?_, Lt := fun r i d hr => absurd hr (Nat.not_lt_zero _), R := S1.R, x := S1.x, ap := S1.ap, mv := ⟨fun _ _ _ h => h, fun _ h => h, fun _ h => .inl h, tr_drew _ W, fun _ h => .inl h, fun i _ h => .inl ⟨i, h⟩⟩, ow := ons, A := fun _ => ⟨fun _ _ => rfl, fun p i _ hl => ?_, fun i hi hor => ?_⟩, B := fun h => absurd h (Nat.lt_irrefl _) }
        · simp only [none]; simp
        · exact hT
        · exact List.take_of_length_le (by simp only; omega)
        · exact k2
        · rw [none] at hl; cases hl
        · have := (ok.vget (s := 0) (d := 0))
          simp only
          rw [← k5]
          have key : ∀ p, p ≤ q.length → (vs p).length = slots.length := by
            intro p
            induction p with
            | zero => intro _; rw [k3]; exact hv.ln
            | succ p ih =>
              intro hp
              have hlt : p < (rs.take q.length).length := by rw [hlen]; omega
              obtain ⟨b, v, _, _, hstep, _⟩ := k8 p _ (List.getElem?_eq_getElem hlt)
              rw [hstep, setW_len]; exact ih (by omega)
          exact key _ (Nat.le_refl _)
        · have := (ok.vget hsd q.length (Nat.le_refl _)).2.2 fun r i _ hr hd => by
            have := hw r i hr hd
            rw [none] at this; cases this
          simp only at this ⊢
          rw [k5] at this
          rw [this]
          exact rep_drew (hv.vr sl d hsd)
        · rw [none] at hl; cases hl
        · rw [none] at hl; cases hl
        · exfalso
          simp only at hi hor
          rcases hor with h1 | h1
          · exact h1 (by simp [sto, List.getD_eq_getElem?_getD, List.getElem?_eq_none hi])
          · cases hmi : m i with
            | none => exact h1 hmi
            | some b => have := S.up i b hmi; omega
      refine wpIn_region_draw fun tt => ?_
      simp only [Region.schedule, hm, Bool.true_or, if_true]
      have hops : k.ops = ops := by rw [hk]
      refine sched (fun listed a' W' => ∃ kT sT envT m' F' XO' stN, listed.size = ops.size ∧ J k listed a' W' kT sT envT m' F' XO' stN) (edges_of hed) (fun listed a' w i o hs hI ho hun he => ?_) (fun listed a' w hI hall => ?_) ops.size tt (Array.replicate ops.size false) a (drewW W) (by simp) (by
          have := cnt_le (Array.replicate ops.size false) ops.size; exact this) ⟨0, _, envF, m, F, XO, sto s.st, by simp, hJ⟩
      · obtain ⟨kT, sT, envT, m', F', XO', stN, _, hj⟩ := hI
        have HH : LowerOk k.P k.gb k.X k.lo := by rw [hk]; exact H
        have hsz : listed.size = k.ops.size := by rw [hops]; exact hs
        have ho' : k.ops[i]? = some o := by rw [hops]; exact ho
        have hset : (listed.setIfInBounds i true).size = ops.size := by simpa using hs
        have hP : k.P = P := by rw [hk]
        by_cases hit : i ∈ k.t
        · obtain ⟨h1, h2⟩ := hj.tstep (ro := ro) ok HH hsz hit ho' hun he
          rw [hops, hP] at h1
          rw [hops] at h2
          refine ⟨fun hw next hn => h1 hw next Q fun v W' ⟨kT', sT', envT', m2, F2, XO2, st2, hj2⟩ => hn _ _ ⟨kT', sT', envT', m2, F2, XO2, st2, hset, hj2⟩, fun hw => ⟨fun f _ => fen_fn ro f, ?_⟩⟩
          obtain ⟨kT', sT', envT', m2, F2, XO2, st2, hj2⟩ := h2 hw
          exact ⟨kT', sT', envT', m2, F2, XO2, st2, hset, hj2⟩
        · have hiq : i ∈ k.q := (ok.qm i).2 ⟨(Array.getElem?_eq_some_iff.1 ho').1, hit⟩
          obtain ⟨h1, h2⟩ := hj.qstep (ro := ro) ok HH hsz hiq ho' hun he
          rw [hops, hP] at h1
          rw [hops] at h2
          refine ⟨fun hw next hn => h1 hw next Q fun v W' ⟨m2, F2, st2, hj2⟩ => hn _ _ ⟨kT, sT, envT, m2, F2, XO', st2, hset, hj2⟩, fun hw => ⟨fun f _ => fen_fn ro f, ?_⟩⟩
          obtain ⟨m2, F2, st2, hj2⟩ := h2 hw
          exact ⟨kT, sT, envT, m2, F2, XO', st2, hset, hj2⟩
      · obtain ⟨kT, sT, envT, m', F', XO', stN, hs, hj⟩ := hI
        have := hj.done ok (by rw [hops]; exact hs) (by rw [hops]; exact hall)
        have hdf := hj.df
        subst hk
        exact hQ a' w this hdf
    · cases ha
theorem region_sound (H : LowerOk P gb X lo) {ops : Array Oper} {slots : List Nat} {h : Hint} {nb : Nat} {rs : List ROp} {dr : Option (Nat × List Nat)} {draw : Bool} {s s' : S} {id : Nat} {Q : Exit → Act → World → Prop} (hm : P.follows .mixedOrders = true) (hn : slots.Nodup) (hc : compRegion P slots gb h ops draw = some (.region rs dr))
    (ha : aRegion lo rs dr s = some s') (S : St gb X m F L XO W s.st s.ext) (hv : Vr h.nt slots m F L W a s.vars) (hQ : ∀ a' W', Next gb X h.nt slots L nb m F XO W s.st s' a' W' → a'.defers = a.defers → Q .normal a' W') :
    (Code.region id ops draw).wpIn (fen ro) 0 P Q a W := by
  unfold compRegion at hc
  split at hc
  · cases hc
  · rename_i hok
    have hok' : localsOk h.nt ops.toList slots = true ∧ guardsOk ops.toList slots = true := by
      cases h1 : localsOk h.nt ops.toList slots <;> cases h2 : guardsOk ops.toList slots <;> simp [h1, h2] at hok ⊢
    obtain ⟨hloc, hgu⟩ := hok'
    cases draw with
    | false =>
      simp only [Bool.not_false, if_true, Option.map_eq_some_iff, IR.region.injEq] at hc
      obtain ⟨rs', hcomp, rfl, rfl⟩ := hc
      simp only [aRegion] at ha
      split at ha
      · rename_i env' s1 hops
        injection ha with ha; subst ha
        refine wpIn_region ?_
        have := ops_sound (ro := ro) (Q := Q) (nb := nb) H rfl hn hloc hgu ops.toList rs' [] env' s s1 a W m F XO (by simp) (Nat.zero_le _) hcomp hops S hv (fun i t h => absurd h (Nat.not_lt_zero _)) hQ
        rw [List.range_eq_range']
        exact this
      · cases ha
    | true =>
      simp only [Bool.not_true, Bool.false_eq_true, if_false] at hc
      split at hc
      · rename_i hchk
        simp only [Bool.and_eq_true, decide_eq_true_eq] at hchk
        obtain ⟨⟨⟨⟨⟨h1, h2⟩, h3⟩, h4⟩, h5⟩, h6⟩ := hchk
        simp only [Option.map_eq_some_iff, IR.region.injEq] at hc
        obtain ⟨rs', hcomp, rfl, rfl⟩ := hc
        exact draw_sound H hm hn hloc hgu h1 h2 h3 h4 h5 (fun i hi => by simpa using List.all_eq_true.1 h6 i hi) (fun i => by simp [List.mem_filter]) rfl hcomp ha S hv hQ
      · cases hc
end
end Go.Vm

/- Soundness: code. -/
namespace Go.Vm
open Go
section
variable {P : Program} {gb : Nat → Option (List D)} {X : XT} {a a' : Act} {W W' : World} {m m' : Nat → Option Nat} {F F' : Nat → Prop} {L : Option Nat} {XO XO' : Nat → Prop} {st st' : List AO} {ext : Option Ext} {vars : List AV} {ro : Option Nat} {lo : Lower}
structure DOk (n0 : Nat) (ds : List Deferred) (W : World) (m : Nat → Option Nat) (st : List AO) (F XO : Nat → Prop) : Prop where
  sz : n0 ≤ W.heap.size
  all : ∀ d ∈ ds, ∃ b, d.target = .collected b ∧ W.heap[b]? = some (.deferred (some [])) ∧ ¬ ownA m st XO b ∧ ¬ F b ∧ n0 ≤ b
  nd : (ds.map (·.target)).Nodup
theorem DOk.mv {nb n0 : Nat} {ds : List Deferred} (h : DOk n0 ds W m st F XO) (M : Mv nb m F XO W st m' F' XO' W' st') : DOk n0 ds W' m' st' F' XO' := by
  refine ⟨Nat.le_trans h.sz M.tr.size, fun d hd => ?_, h.nd⟩
  obtain ⟨b, h1, h2, h3, h5, h6⟩ := h.all d hd
  have hlt : b < W.heap.size := (Array.getElem?_eq_some_iff.1 h2).1
  refine ⟨b, h1, (M.tr.keep b hlt h3).trans h2, fun hc => ?_, fun hc => ?_, h6⟩
  · rcases hc with hc | hc
    · rcases M.ow b hc with h4 | h4
      · exact h3 (.inl h4)
      · omega
    · rcases M.xo b hc with h4 | h4
      · exact h3 (.inr h4)
      · omega
  · rcases M.nF b hc with h4 | h4 | h4
    · exact h5 h4
    · exact h3 h4
    · omega
def CN (n0 : Nat) (gb : Nat → Option (List D)) (X : XT) (nt : Nat) (slots : List Nat) (L : Option Nat) (nb : Nat) (m : Nat → Option Nat) (F XO : Nat → Prop) (W : World) (st : List AO) (s' : S) (a' : Act) (W' : World) : Prop :=
  ∃ m' F' XO', St gb X m' F' L XO' W' s'.st s'.ext ∧ Vr nt slots m' F' L W' a' s'.vars ∧ Mv nb m F XO W st m' F' XO' W' s'.st ∧ DOk n0 a'.defers W' m' s'.st F' XO'
def exitOf : AExit → Exit
  | .normal => .normal
  | .exit i => .exit i
  | .ret => .ret
theorem least {p : Nat → Prop} (h : ∃ n, p n) : ∃ n, p n ∧ ∀ j, p j → n ≤ j := by
  obtain ⟨n, hn⟩ := h
  induction n using Nat.strongRecOn with
  | _ n ih =>
    by_cases hc : ∃ j, j < n ∧ p j
    · obtain ⟨j, hj, hp⟩ := hc; exact ih j hj hp
    · exact ⟨n, hn, fun j hj => by
        rcases Nat.lt_or_ge j n with h | h
        · exact absurd ⟨j, h, hj⟩ hc
        · exact h⟩
theorem wpIn_loop_n {Fe : Fence} {n : Nat} {c : Code} {Q : Exit → Act → World → Prop} (I : Nat → Act → World → Prop) (round : ∀ j a w, I j a w → ∃ j', j = j' + 1 ∧ c.wpIn Fe n P (Exit.then (fun a' w' => I j' a' w') Q) a w) {j : Nat} (h0 : I j a W) : (Code.loop c).wpIn Fe n P Q a W := by
  have mu : ∃ μ : Act → World → Nat, ∀ a w, (∃ j, I j a w) → I (μ a w) a w ∧ ∀ j, I j a w → μ a w ≤ j := by
    have := fun (a : Act) (w : World) => Classical.em (∃ j, I j a w)
    refine ⟨fun a w => open Classical in if h : ∃ j, I j a w then Classical.choose (least h) else 0, fun a w h => ?_⟩
    simp only [h, dite_true]
    exact Classical.choose_spec (least h)
  obtain ⟨μ, hμ⟩ := mu
  refine wpIn_loop (fun a w => ∃ j, I j a w) μ ⟨j, h0⟩ fun a w hI => ?_
  obtain ⟨h1, h2⟩ := hμ a w hI
  obtain ⟨j', hj, hw⟩ := round _ a w h1
  refine wpIn_mono hw fun e a' w' he => ?_
  cases e with
  | normal => exact ⟨⟨j', he⟩, by have := (hμ a' w' ⟨j', he⟩).2 j' he; omega⟩
  | _ => exact he
theorem keepVars_get : ∀ (l : List AV) (keep : List Nat) (i : Nat), (keepVars keep l).getD i .junk = l.getD i .junk ∨ (keepVars keep l).getD i .junk = .junk
  | [], keep, i => by simp [keepVars]
  | v :: r, [], i => by
    cases i with
    | zero => exact .inr rfl
    | succ i => simpa [keepVars] using keepVars_get r [] i
  | v :: r, 0 :: ks, i => by
    cases i with
    | zero => exact .inr rfl
    | succ i => simpa [keepVars] using keepVars_get r ks i
  | v :: r, (_ + 1) :: ks, i => by
    cases i with
    | zero => exact .inl rfl
    | succ i => simpa [keepVars] using keepVars_get r ks i
theorem keepVars_len : ∀ (l : List AV) (keep : List Nat), (keepVars keep l).length = l.length
  | [], _ => by simp [keepVars]
  | v :: r, [] => by simp [keepVars, keepVars_len r]
  | v :: r, 0 :: ks => by simp [keepVars, keepVars_len r]
  | v :: r, (_ + 1) :: ks => by simp [keepVars, keepVars_len r]
theorem head_next {n0 : Nat} {cx : Cx} {keep : List Nat} {nt : Nat} {slots : List Nat} {s : S} (hS : St gb X m F L XO W s.st s.ext) (hv : Vr nt slots m F L W a s.vars) (hd : DOk n0 a.defers W m s.st F XO) :
    CN n0 gb X nt slots L cx.nb m F XO W s.st (head cx keep s) a W := by
  obtain ⟨l, hl⟩ : ∃ l, l = keepIds cx.nb (idsL (keepVars keep s.vars)) s.st := ⟨_, rfl⟩
  have hn : l.Nodup := by rw [hl]; exact keep_nodup _ _ _
  have e1 : (head cx keep s).st = pickSt (idx l) l s.st := by simp only [head, gc, hl]
  have e2 : (head cx keep s).vars = renL (idx l) (keepVars keep s.vars) := by simp only [head, gc, hl]
  have e3 : (head cx keep s).ext = s.ext := rfl
  have howp : ∀ b, own (fun j : Nat => (l[j]?).bind m) (sto (pickSt (idx l) l s.st)) b → own m (sto s.st) b := fun b hb => own_pick hb
  have M : Mv cx.nb m F XO W s.st (fun j : Nat => (l[j]?).bind m) F XO W (head cx keep s).st := by
    rw [e1]
    refine ⟨fun i b hi hb => ?_, fun _ h => h, fun _ h => .inl h, Tr.refl _ W, fun b hb => .inl (howp b hb), fun _ h => .inl h, fun i b hi => ?_⟩
    · have : l[i]? = some i := by rw [hl]; exact keep_get hi
      simp only [this, Option.bind_some]; exact hb
    · cases hj : l[i]? with
      | none => simp [hj] at hi
      | some j => simp only [hj, Option.bind_some] at hi; exact .inl ⟨j, hi⟩
  refine ⟨fun j : Nat => (l[j]?).bind m, F, XO, ?_, ?_, M, hd.mv M⟩
  · rw [e1, e3]
    refine ⟨pick_rel hS.R hn, fun i b hi => ?_, hS.x, fun b hb => hS.ap b (howp b hb)⟩
    cases hj : l[i]? with
    | none => simp [hj] at hi
    | some j => have := (List.getElem?_eq_some_iff.1 hj).1; simpa [pickSt] using this
  · rw [e2]
    refine ⟨hv.sz, by rw [renL_map, List.length_map, keepVars_len]; exact hv.ln, fun i t ht => ?_⟩
    have hi : i < s.vars.length := by rw [hv.ln]; exact (List.getElem?_eq_some_iff.1 ht).1
    have e : (renL (idx l) (keepVars keep s.vars)).getD i .junk = ren (idx l) ((keepVars keep s.vars).getD i .junk) := by
      rw [renL_map, List.getD_eq_getElem?_getD, List.getElem?_map, List.getD_eq_getElem?_getD]
      rw [List.getElem?_eq_getElem (by rw [keepVars_len]; exact hi)]; rfl
    rw [e]
    rcases keepVars_get s.vars keep i with h | h
    · rw [h]; exact pick_rep (hv.vr i t ht)
    · rw [h]; exact .junk _
theorem CN.trans {nt nb n0 : Nat} {slots : List Nat} {s1 s2 : S} {a1 a2 : Act} {W1 W2 : World} (h : ∃ m' F' XO', St gb X m' F' L XO' W1 s1.st s1.ext ∧ Vr nt slots m' F' L W1 a1 s1.vars ∧ Mv nb m F XO W st m' F' XO' W1 s1.st ∧ DOk n0 a1.defers W1 m' s1.st F' XO' ∧ CN n0 gb X nt slots L nb m' F' XO' W1 s1.st s2 a2 W2) : CN n0 gb X nt slots L nb m F XO W st s2 a2 W2 := by
  obtain ⟨m', F', XO', _, _, M, _, m2, F2, XO2, k1, k2, k3, k4⟩ := h
  exact ⟨m2, F2, XO2, k1, k2, M.trans k3, k4⟩
def CodeOk (P : Program) (gb : Nat → Option (List D)) (X : XT) (slots : List Nat) (h : Hint) (lo : Lower) (c : Code) (ir : IR) : Prop :=
  ∀ (n0 : Nat) (ro : Option Nat) (cx : Cx) (L : Option Nat) (s s' : S) (x : AExit) (a : Act) (W : World) (m : Nat → Option Nat) (F XO : Nat → Prop) (Q : Exit → Act → World → Prop), (cx.rd = false → ro = none) → aCode lo cx ir s = some (x, s') → St gb X m F L XO W s.st s.ext → Vr h.nt slots m F L W a s.vars → DOk n0 a.defers W m s.st F XO →
    (∀ a' W', CN n0 gb X h.nt slots L cx.nb m F XO W s.st s' a' W' → Q (exitOf x) a' W') → c.wpIn (fen ro) 0 P Q a W
theorem code_sound (H : LowerOk P gb X lo) (hm : P.follows .mixedOrders = true) {slots : List Nat} (hn : slots.Nodup) {h : Hint}
    (hrf : ∀ (t : Nat) (ps : Array Tmp) (asg body : Code) (i : Nat) (qs : List Nat) (asg' body' : IR), slots.idxOf? t = some i → ps.toList.mapM (fun p => slots.idxOf? p) = some qs → (∃ ks ks', comp P slots gb h asg ks = some (asg', ks')) → (∃ ks ks', comp P slots gb h body ks = some (body', ks')) → CodeOk P gb X slots h lo (.rangeFunc (.tmp t) ps asg body) (.rfunc (.var i) qs asg' body')) :
    ∀ (c : Code) (ks ks' : List (List Nat)) (ir : IR), comp P slots gb h c ks = some (ir, ks') → CodeOk P gb X slots h lo c ir := by
  intro c
  induction c with
  | skip =>
    intro ks ks' ir hc n0 ro cx L s s' x a W m F XO Q hro ha hS hv hd hQ
    simp only [comp, Option.some.injEq, Prod.mk.injEq] at hc
    obtain ⟨rfl, rfl⟩ := hc
    simp only [aCode, Option.some.injEq, Prod.mk.injEq] at ha
    obtain ⟨rfl, rfl⟩ := ha
    exact wpIn_skip (hQ a W ⟨m, F, XO, hS, hv, Mv.refl _, hd⟩)
  | label l =>
    intro ks ks' ir hc n0 ro cx L s s' x a W m F XO Q hro ha hS hv hd hQ
    simp only [comp, Option.some.injEq, Prod.mk.injEq] at hc
    obtain ⟨rfl, rfl⟩ := hc
    simp only [aCode, Option.some.injEq, Prod.mk.injEq] at ha
    obtain ⟨rfl, rfl⟩ := ha
    exact wpIn_label (hQ a W ⟨m, F, XO, hS, hv, Mv.refl _, hd⟩)
  | exit id =>
    intro ks ks' ir hc n0 ro cx L s s' x a W m F XO Q hro ha hS hv hd hQ
    simp only [comp, Option.some.injEq, Prod.mk.injEq] at hc
    obtain ⟨rfl, rfl⟩ := hc
    simp only [aCode, Option.some.injEq, Prod.mk.injEq] at ha
    obtain ⟨rfl, rfl⟩ := ha
    exact wpIn_exit (hQ a W ⟨m, F, XO, hS, hv, Mv.refl _, hd⟩)
  | ret =>
    intro ks ks' ir hc n0 ro cx L s s' x a W m F XO Q hro ha hS hv hd hQ
    simp only [comp, Option.some.injEq, Prod.mk.injEq] at hc
    obtain ⟨rfl, rfl⟩ := hc
    simp only [aCode, Option.some.injEq, Prod.mk.injEq] at ha
    obtain ⟨rfl, rfl⟩ := ha
    exact wpIn_ret (hQ a W ⟨m, F, XO, hS, hv, Mv.refl _, hd⟩)
  | region id ops draw =>
    intro ks ks' ir hc n0 ro cx L s s' x a W m F XO Q hro ha hS hv hd hQ
    simp only [comp, Option.map_eq_some_iff, Prod.mk.injEq] at hc
    obtain ⟨ir0, hcr, rfl, rfl⟩ := hc
    obtain ⟨rs, dr, rfl⟩ : ∃ rs dr, ir0 = .region rs dr := by
      unfold compRegion at hcr
      split at hcr
      · cases hcr
      · split at hcr
        · simp only [Option.map_eq_some_iff] at hcr
          obtain ⟨rs, _, rfl⟩ := hcr; exact ⟨_, _, rfl⟩
        · dsimp only at hcr
          split at hcr
          · simp only [Option.map_eq_some_iff] at hcr
            obtain ⟨rs, _, rfl⟩ := hcr; exact ⟨_, _, rfl⟩
          · cases hcr
    simp only [aCode] at ha
    split at ha
    · rename_i s1 hr
      simp only [Option.some.injEq, Prod.mk.injEq] at ha
      obtain ⟨rfl, rfl⟩ := ha
      refine region_sound (nb := cx.nb) H hm hn hcr hr hS hv fun a' W' hN hdf => hQ a' W' ?_
      obtain ⟨m', F', XO', k1, k2, k3⟩ := hN
      exact ⟨m', F', XO', k1, k2, k3, hdf ▸ hd.mv k3⟩
    · cases ha
  | seq c1 c2 ih1 ih2 =>
    intro ks ks' ir hc n0 ro cx L s s' x a W m F XO Q hro ha hS hv hd hQ
    simp only [comp] at hc
    split at hc
    · rename_i ir1 ks1 h1
      split at hc
      · rename_i ir2 ks2 h2
        simp only [Option.some.injEq, Prod.mk.injEq] at hc
        obtain ⟨rfl, rfl⟩ := hc
        simp only [aCode] at ha
        refine wpIn_seq ?_
        split at ha
        · rename_i s1 ha1
          refine ih1 _ _ _ h1 n0 ro cx L s s1 .normal a W m F XO _ hro ha1 hS hv hd fun a' W' hN => ?_
          obtain ⟨m', F', XO', k1, k2, k3, k4⟩ := hN
          exact ih2 _ _ _ h2 n0 ro cx L s1 s' x a' W' m' F' XO' Q hro ha k1 k2 k4 fun a2 W2 hN2 => hQ a2 W2 (CN.trans ⟨m', F', XO', k1, k2, k3, k4, hN2⟩)
        · rename_i r hne
          refine ih1 _ _ _ h1 n0 ro cx L s s' x a W m F XO _ hro ha hS hv hd fun a' W' hN => ?_
          have := hQ a' W' hN
          cases x with
          | normal => exact (hne s' ha).elim
          | exit i => exact this
          | ret => exact this
      · cases hc
    · cases hc
  | cond c1 c2 c3 ih1 ih2 =>
    intro ks ks' ir hc n0 ro cx L s s' x a W m F XO Q hro ha hS hv hd hQ
    cases c1 with
    | tmp t =>
      simp only [comp] at hc
      split at hc
      · rename_i i ir1 ks1 hi h1
        split at hc
        · rename_i ir2 ks2 h2
          simp only [Option.some.injEq, Prod.mk.injEq] at hc
          obtain ⟨rfl, rfl⟩ := hc
          simp only [aCode, opnd] at ha
          split at ha
          · rename_i b e
            have hr := hv.vr i t (idxOf_get hi)
            rw [e] at hr
            refine wpIn_cond (t := b) (imm_bool hr) ?_
            cases b with
            | true => exact ih1 _ _ _ h1 n0 ro cx L s s' x a W m F XO Q hro ha hS hv hd hQ
            | false => exact ih2 _ _ _ h2 n0 ro cx L s s' x a W m F XO Q hro ha hS hv hd hQ
          · cases ha
        · cases hc
      · cases hc
    | _ => simp [comp] at hc
  | block id c ih =>
    intro ks ks' ir hc n0 ro cx L s s' x a W m F XO Q hro ha hS hv hd hQ
    simp only [comp] at hc
    split at hc
    · rename_i ir1 ks1 h1
      simp only [Option.some.injEq, Prod.mk.injEq] at hc
      obtain ⟨rfl, rfl⟩ := hc
      simp only [aCode] at ha
      refine wpIn_block ?_
      split at ha
      · rename_i i s1 ha1
        simp only [Option.some.injEq, Prod.mk.injEq] at ha
        obtain ⟨rfl, rfl⟩ := ha
        refine ih _ _ _ h1 n0 ro cx L s s1 (.exit i) a W m F XO _ hro ha1 hS hv hd fun a' W' hN => ?_
        have := hQ a' W' hN
        simp only [exitOf, Exit.inBlock]
        split at this
        · rename_i e; rw [if_pos e]; exact this
        · rename_i e; rw [if_neg e]; exact this
      · rename_i r hne
        refine ih _ _ _ h1 n0 ro cx L s s' x a W m F XO _ hro ha hS hv hd fun a' W' hN => ?_
        have := hQ a' W' hN
        cases x with
        | normal => exact this
        | exit i => exact (hne i s' ha).elim
        | ret => exact this
    · cases hc
  | loop c ih =>
    intro ks ks' ir hc n0 ro cx L s s' x a W m F XO Q hro ha hS hv hd hQ
    rcases ks with _ | ⟨keep, _ | ⟨out, ks⟩⟩
    · simp [comp] at hc
    · simp [comp] at hc
    · simp only [comp] at hc
      split at hc
      · rename_i ir1 ks1 h1
        simp only [Option.some.injEq, Prod.mk.injEq] at hc
        obtain ⟨rfl, rfl⟩ := hc
        simp only [aCode] at ha
        split at ha
        · rename_i x0 s0 ha0
          simp only [Option.some.injEq, Prod.mk.injEq] at ha
          obtain ⟨rfl, rfl⟩ := ha
          obtain ⟨nF, ha⟩ := loopC_ex ha0
          refine wpIn_loop_n (fun j a' W' => ∃ s1 m1 F1 XO1, loopN (aCode lo cx ir1) (head cx keep) j s1 = some (x0, s0) ∧ St gb X m1 F1 L XO1 W' s1.st s1.ext ∧ Vr h.nt slots m1 F1 L W' a' s1.vars ∧ Mv cx.nb m F XO W s.st m1 F1 XO1 W' s1.st ∧ DOk n0 a'.defers W' m1 s1.st F1 XO1) ?_ ⟨s, m, F, XO, ha, hS, hv, Mv.refl _, hd⟩
          rintro j a1 W1 ⟨s1, m1, F1, XO1, hl, S1, V1, M1, D1⟩
          cases j with
          | zero => simp [loopN] at hl
          | succ j =>
            refine ⟨j, rfl, ?_⟩
            simp only [loopN] at hl
            obtain ⟨m2, F2, XO2, S2, V2, M2, D2⟩ := head_next (cx := cx) (keep := keep) S1 V1 D1
            split at hl
            · rename_i s3 hb
              refine ih _ _ _ h1 n0 ro cx L (head cx keep s1) s3 .normal a1 W1 m2 F2 XO2 _ hro hb S2 V2 D2 fun a' W' hN => ?_
              obtain ⟨m4, F4, XO4, S4, V4, M4, D4⟩ := hN
              exact ⟨s3, m4, F4, XO4, hl, S4, V4, (M1.trans M2).trans M4, D4⟩
            · rename_i r hne
              refine ih _ _ _ h1 n0 ro cx L (head cx keep s1) s0 x0 a1 W1 m2 F2 XO2 _ hro hl S2 V2 D2 fun a' W' hN => ?_
              obtain ⟨m4, F4, XO4, S4, V4, M4, D4⟩ := hN
              obtain ⟨m5, F5, XO5, S5, V5, M5, D5⟩ := head_next (cx := cx) (keep := out) S4 V4 D4
              have := hQ a' W' ⟨m5, F5, XO5, S5, V5, ((M1.trans M2).trans M4).trans M5, D5⟩
              cases x0 with
              | normal => exact (hne s0 hl).elim
              | exit i => exact this
              | ret => exact this
        · cases ha
      · cases hc
  | scope c ih =>
    intro ks ks' ir hc n0 ro cx L s s' x a W m F XO Q hro ha hS hv hd hQ
    simp only [comp] at hc
    split at hc
    · rename_i ir1 ks1 h1
      simp only [Option.some.injEq, Prod.mk.injEq] at hc
      obtain ⟨rfl, rfl⟩ := hc
      simp only [aCode] at ha
      split at ha
      · cases ha
      · rename_i hrd
        have hro0 := hro (by simpa using hrd)
        subst hro0
        refine wpIn_wide.2 (wp_scope_straight ((wpIn_wide (n := 0)).1 ?_))
        refine ih _ _ _ h1 n0 none cx L s s' x a W m F XO _ hro ha hS hv hd fun a' W' hN => ?_
        have := hQ a' W' hN
        cases x <;> exact this
    · cases hc
  | rangeFunc f ps asg body ih1 ih2 =>
    intro ks ks' ir hc
    cases f with
    | tmp t =>
      simp only [comp] at hc
      split at hc
      · rename_i i qs hi hqs
        split at hc
        · rename_i ir1 ks1 h1
          split at hc
          · rename_i ir2 ks2 h2
            simp only [Option.some.injEq, Prod.mk.injEq] at hc
            obtain ⟨rfl, rfl⟩ := hc
            exact hrf t ps asg body i qs ir1 ir2 hi hqs ⟨_, _, h1⟩ ⟨_, _, h2⟩
          · cases hc
        · cases hc
      · cases hc
    | _ => simp [comp] at hc
  | goto l =>
    intro ks ks' ir hc
    simp [comp] at hc
  | refuse =>
    intro ks ks' ir hc
    simp [comp] at hc
end
end Go.Vm

/- Soundness: functions. -/
namespace Go.Vm
open Go
section
variable {P : Program} {gb : Nat → Option (List D)} {X : XT} {a a' : Act} {W W' : World} {m m' : Nat → Option Nat} {F F' : Nat → Prop} {L : Option Nat} {XO XO' : Nat → Prop} {st st' : List AO} {ext : Option Ext} {vars : List AV} {ro : Option Nat} {lo : Lower}
def readRes (tmps : Array Value) : ResultVar → Sem Value
  | .tmp t => pure (tmps.getD t undef)
  | .cell a t => do loadVar t (← asAddr (tmps.getD a undef))
theorem res_one {nt : Nat} {slots : List Nat} {s : S} {r : ResultVar} {r' : RV} {v : AV} (hc : compRV P slots r = some r') (hS : St gb X m F L XO W s.st s.ext) (hv : Vr nt slots m F L W a s.vars) (h : resV s r' = some v) :
    ∃ w, (readRes a.tmps r).run P W = .ok w W ∧ RepA m F L W v w := by
  cases r with
  | tmp t =>
    simp only [compRV, Option.map_eq_some_iff] at hc
    obtain ⟨i, hi, rfl⟩ := hc
    simp only [resV, Option.some.injEq] at h
    subst h
    exact ⟨_, by simp [readRes], hv.vr i t (idxOf_get hi)⟩
  | cell b t =>
    simp only [compRV] at hc
    split at hc
    · rename_i i g n hi hg hn
      injection hc with hc; subst hc
      simp only [resV] at h
      have hr := hv.vr i b (idxOf_get hi)
      obtain ⟨u, hu, hru⟩ := load_rep (P := P) (stL := sto s.st) (st := s.st) hS.R hg hn hr (fun _ _ _ => rfl) h
      have hp : ∃ q, a.tmps.getD b undef = .pointer (some q) := by
        unfold aLoad at h
        split at h
        · rename_i cs e
          rw [e] at hr
          generalize a.tmps.getD b undef = z at hr
          cases hr with | imm _ _ h => cases h with | ptr _ q => exact ⟨q, rfl⟩
        · rename_i id off e
          rw [e] at hr
          generalize a.tmps.getD b undef = z at hr
          cases hr with | ptr _ _ q h => exact ⟨_, rfl⟩
        · cases h
      obtain ⟨q, hq⟩ := hp
      refine ⟨u, ?_, hru⟩
      rw [hq] at hu
      simp only [readRes, hq, asAddr, pure_bind]
      simpa [Instr.loadAt, Instr.sureAddr] using hu
    · cases hc
theorem res_all {nt : Nat} {slots : List Nat} {s : S} (hS : St gb X m F L XO W s.st s.ext) (hv : Vr nt slots m F L W a s.vars) : ∀ {rs : List ResultVar} {rs' : List RV} {vs : List AV}, rs.mapM (compRV P slots) = some rs' → resVs s rs' = some vs →
    ∃ ws : List Value, (rs.mapM (readRes a.tmps)).run P W = .ok ws W ∧ ws.length = vs.length ∧ ∀ j v, vs[j]? = some v → RepA m F L W v (ws.getD j undef)
  | [], rs', vs, hc, h => by
    simp only [List.mapM_nil, pure, Option.some.injEq] at hc
    subst hc
    simp only [resVs, Option.some.injEq] at h
    subst h
    exact ⟨[], by simp, rfl, by simp⟩
  | r :: rs, rs', vs, hc, h => by
    simp only [List.mapM_cons, bind, Option.bind_eq_some_iff, pure, Option.some.injEq] at hc
    obtain ⟨r', h1, rs2, h2, rfl⟩ := hc
    simp only [resVs] at h
    split at h
    · rename_i v vs' h3 h4
      injection h with h; subst h
      obtain ⟨w, k1, k2⟩ := res_one h1 hS hv h3
      obtain ⟨ws, k3, k4, k5⟩ := res_all hS hv h2 h4
      refine ⟨w :: ws, by rw [List.mapM_cons]; simp only [Sem.run_bind, k1, Result.andThen_ok, k3, Sem.run_pure], by simp [k4], fun j v' hj => ?_⟩
      cases j with
      | zero => simp at hj; subst hj; exact k2
      | succ j => simpa using k5 j v' (by simpa using hj)
    · cases h
theorem results_ok {nt : Nat} {slots : List Nat} {s : S} {fn : Func} {res : List RV} {v : AV} (hc : fn.results.toList.mapM (compRV P slots) = some res) (hS : St gb X m F L XO W s.st s.ext) (hv : Vr nt slots m F L W a s.vars) (h : Vm.results s res = some v) :
    ∃ w, (Go.results fn a.tmps).run P W = .ok w W ∧ RepA m F L W v w := by
  unfold Vm.results at h
  have hres : Go.results fn a.tmps = (fn.results.mapM (readRes a.tmps) >>= fun vs => pure (if h : vs.size = 1 then vs[0] else .tuple vs)) := by
    unfold Go.results readRes; rfl
  have key : ∀ vs, resVs s res = some vs → ∃ ws : List Value, (fn.results.mapM (readRes a.tmps)).run P W = .ok ws.toArray W ∧ ws.length = vs.length ∧ ∀ j v, vs[j]? = some v → RepA m F L W v (ws.getD j undef) := by
    intro vs hvs
    obtain ⟨ws, k1, k2, k3⟩ := res_all hS hv hc hvs
    exact ⟨ws, by rw [Array.mapM_eq_mapM_toList]; simp only [Sem.run_map, k1, Result.andThen_ok], k2, k3⟩
  split at h
  · rename_i v0 hvs
    injection h with h; subst h
    obtain ⟨ws, k1, k2, k3⟩ := key _ hvs
    obtain ⟨w, rfl⟩ : ∃ w, ws = [w] := List.length_eq_one_iff.1 k2
    refine ⟨w, by rw [hres]; simp only [Sem.run_bind, k1, Result.andThen_ok]; simp, by simpa using k3 0 v0 rfl⟩
  · rename_i vs hne hvs
    injection h with h; subst h
    obtain ⟨ws, k1, k2, k3⟩ := key _ hvs
    have hlen : ws.length ≠ 1 := by
      intro h1
      rw [k2] at h1
      obtain ⟨v, rfl⟩ := List.length_eq_one_iff.1 h1
      exact hne v rfl
    refine ⟨.tuple ws.toArray, by rw [hres]; simp only [Sem.run_bind, k1, Result.andThen_ok]; simp [hlen], rep_mkTup (by simpa using k2) fun j d hj => ?_⟩
    have := k3 j d hj
    rwa [show ws.toArray.getD j undef = ws.getD j undef by simp [Array.getD_eq_getD_getElem?, List.getD_eq_getElem?_getD]]
  · cases h
theorem leaves_ok {fn : Func} {tmps : Array Value} {R : Ending → World → Prop} : ∀ (ds : List Deferred) (W : World), (∀ d ∈ ds, ∃ b, d.target = .collected b ∧ W.heap[b]? = some (.deferred (some []))) → (ds.map (·.target)).Nodup →
    (∀ W', Tr (fun b => ∃ d ∈ ds, d.target = .collected b) W W' → ∃ w, (Go.results fn tmps).run P W' = .ok w W' ∧ R (.returned w) W') → LeavesInM Fence.wide 0 P fn tmps R ds .returning W
  | [], W, _, _, h => h W (Tr.refl _ W)
  | d :: ds, W, hd, hn, h => by
    obtain ⟨b, h1, h2⟩ := hd d (by simp)
    rw [List.map_cons, List.nodup_cons] at hn
    have T : Tr (fun x => x = b) W { W with heap := W.heap.setIfInBounds b (.deferred none) } := tr_setObj h2 (by simp)
    refine ⟨by simp, .inl ⟨b, { W with heap := W.heap.setIfInBounds b (.deferred none) }, h1, ?_, leaves_ok ds _ (fun d' hd' => ?_) hn.2 fun W' T' => ?_⟩⟩
    · simp [Instr.takeDeferred, getObj, setObj, Sem.run, h2]
    · obtain ⟨b', k1, k2⟩ := hd d' (by simp [hd'])
      have hne : b' ≠ b := by
        rintro rfl
        exact hn.1 (List.mem_map.2 ⟨d', hd', by rw [k1, h1]⟩)
      exact ⟨b', k1, (T.keep b' (Array.getElem?_eq_some_iff.1 k2).1 hne).trans k2⟩
    · refine h W' ((T.mono (O' := fun x => ∃ d' ∈ d :: ds, d'.target = .collected x) fun x _ e => ⟨d, by simp, by rw [e]; exact h1⟩).trans T' fun x _ ⟨d', k1, k2⟩ => ⟨d', by simp [k1], k2⟩)
theorem comp_facts {slots : List Nat} {keeps : List (List Nat)} {h : Hint} {glob : Nat → Option (List D)} {fn : Func} {f : IFn} (hc : compFn P slots keeps h glob fn = some f) :
    ∃ c, fn.body = some c ∧ slots.Nodup ∧ (∀ t ∈ slots, t < fn.ntmps) ∧ slots.take (fn.params.size + fn.nfree) = List.range (fn.params.size + fn.nfree) ∧ comp P slots glob { h with nt := fn.ntmps } c keeps = some (f.body, []) ∧ fn.results.toList.mapM (compRV P slots) = some f.res ∧ f.nv = slots.length ∧ f.np = fn.params.size + fn.nfree := by
  unfold compFn at hc
  split at hc
  · rename_i c res hb hr
    split at hc
    · rename_i hs
      split at hc
      · rename_i ir hir
        injection hc with hc; subst hc
        exact ⟨c, hb, hs.1, fun t ht => by simpa using List.all_eq_true.1 hs.2.1 t ht, hs.2.2, hir, hr, rfl, rfl⟩
      · cases hc
    · cases hc
  · cases hc
theorem fn_entry {f : FuncId} {fn : Func} (hf : P.funcs[f]? = some fn) (hb : fn.body.isSome = true) (hn : (fn.name == "runtime.NumGoroutine") = false) : Entry P f := by
  intro args W
  have hb' : fn.body.isNone = false := by cases h : fn.body <;> simp [h] at hb ⊢
  simp only [callFunc, Sem.run_bind, run_program, Result.andThen_ok, hf, hn, hb', Bool.false_eq_true, if_false, Sem.run_pure]
theorem fn_sound (H : LowerOk P gb X lo) (hm : P.follows .mixedOrders = true) {slots : List Nat} {keeps : List (List Nat)} {h : Hint} {fn : Func} {fi : IFn} {f : FuncId} (hf : P.funcs[f]? = some fn) (hc : compFn P slots keeps h gb fn = some fi)
    (hrf : slots.Nodup → (∀ t ∈ slots, t < fn.ntmps) → ∀ (t : Nat) (ps : Array Tmp) (asg body : Code) (i : Nat) (qs : List Nat) (asg' body' : IR), slots.idxOf? t = some i → ps.toList.mapM (fun p => slots.idxOf? p) = some qs → (∃ ks ks', comp P slots gb { h with nt := fn.ntmps } asg ks = some (asg', ks')) → (∃ ks ks', comp P slots gb { h with nt := fn.ntmps } body ks = some (body', ks')) → CodeOk P gb X slots { h with nt := fn.ntmps } lo (.rangeFunc (.tmp t) ps asg body) (.rfunc (.var i) qs asg' body'))
    {args : List AV} {v : AV} {ext' : Option Ext} {vs : Array Value} (hrun : runFn lo fi args st ext = some (v, st', ext')) (S : St gb X m F L XO W st ext) (hsz : vs.size = args.length) (hr : ∀ j d, args[j]? = some d → RepA m F L W d (vs.getD j undef)) :
    CallsIn Fence.wide 0 P f vs W fun e w => ∃ r m' F' XO', e = .returned r ∧ Post gb X m F L XO W st v st' ext' r w m' F' XO' := by
  obtain ⟨c, hb, hn, hlt, htk, hcomp, hres, hnv, hnp⟩ := comp_facts hc
  have hpar : args.length ≤ fn.params.size + fn.nfree := by
    unfold runFn at hrun
    split at hrun
    · cases hrun
    · omega
  have hal : args.length ≤ slots.length := by
    have := congrArg List.length htk
    simp only [List.length_take, List.length_range] at this
    omega
  have hnle : ¬ fi.np < args.length := by omega
  refine callsIn_of_wp_marks (F := Fence.wide) (n := 0) hf hb True.intro ?_ rfl
  have hcode := code_sound H hm hn (hrf hn hlt) c keeps [] fi.body hcomp
  have hstart : Vr fn.ntmps slots m F L W { tmps := vs ++ Array.replicate (fn.ntmps - vs.size) undef, defers := [] } (args ++ List.replicate (fi.nv - args.length) .junk) := by
    refine ⟨by simp; omega, by rw [hnv]; simp; omega, fun i t ht => ?_⟩
    by_cases hi : i < args.length
    · have hti : t = i := by
        have h1 : (slots.take (fn.params.size + fn.nfree))[i]? = some t := by rw [List.getElem?_take, if_pos (by omega)]; exact ht
        rw [htk, List.getElem?_range (by omega)] at h1
        exact (Option.some.inj h1).symm
      subst hti
      have e1 : (args ++ List.replicate (fi.nv - args.length) AV.junk).getD t .junk = args[t] := by
        rw [List.getD_eq_getElem?_getD, List.getElem?_append_left hi, List.getElem?_eq_getElem hi]; rfl
      have e2 : (vs ++ Array.replicate (fn.ntmps - vs.size) undef).getD t undef = vs.getD t undef := by
        simp only [Array.getD_eq_getD_getElem?]
        rw [Array.getElem?_append_left (by omega)]
      rw [e1, e2]
      exact hr t _ (List.getElem?_eq_getElem hi)
    · have e1 : (args ++ List.replicate (fi.nv - args.length) AV.junk).getD i .junk = .junk := by
        rw [List.getD_eq_getElem?_getD, List.getElem?_append_right (by omega), List.getElem?_replicate]
        split <;> rfl
      rw [e1]; exact .junk _
  have fin : ∀ (x : AExit) (s' : Vm.S), (x = .normal ∨ x = .ret) → aCode lo { nb := st.length, rd := false } fi.body { vars := args ++ List.replicate (fi.nv - args.length) .junk, st := st, ext := ext } = some (x, s') → Vm.results s' fi.res = some v → s'.st = st' → s'.ext = ext' →
      c.wpIn Fence.wide 0 P (bodyPostM Fence.wide 0 P fn fun e w => ∃ r m' F' XO', e = .returned r ∧ Post gb X m F L XO W st v st' ext' r w m' F' XO') { tmps := vs ++ Array.replicate (fn.ntmps - vs.size) undef, defers := [] } W := by
    intro x s' hx ha hresv e1 e2
    subst e1; subst e2
    refine hcode W.heap.size none { nb := st.length, rd := false } L _ s' x _ W m F XO _ (fun _ => rfl) ha S hstart ⟨Nat.le_refl _, by simp, by simp⟩ fun a' W' hN => ?_
    obtain ⟨m', F', XO', k1, k2, k3, k4⟩ := hN
    have hleave : LeavesInM Fence.wide 0 P fn a'.tmps (fun e w => ∃ r m' F' XO', e = .returned r ∧ Post gb X m F L XO W st v s'.st s'.ext r w m' F' XO') a'.defers .returning W' := by
      refine leaves_ok a'.defers W' (fun d hd => ?_) k4.nd fun W2 T2 => ?_
      · obtain ⟨b, h1, h2, _⟩ := k4.all d hd
        exact ⟨b, h1, h2⟩
      · have hno : ∀ b, (∃ d ∈ a'.defers, d.target = .collected b) → ¬ ownA m' s'.st XO' b ∧ ¬ F' b ∧ W.heap.size ≤ b := by
          rintro b ⟨d, hd, ht⟩
          obtain ⟨b', h1, _, h3, h4, h5⟩ := k4.all d hd
          rw [ht] at h1; injection h1 with h1; subst h1
          exact ⟨h3, h4, h5⟩
        have hF2 : ∀ b, F' b → ¬ ∃ d ∈ a'.defers, d.target = .collected b := fun b hb hc => (hno b hc).2.1 hb
        have S2 : St gb X m' F' L XO' W2 s'.st s'.ext :=
          ⟨Rel.mono k1.R T2 (fun _ _ h => h) (fun i b hi => Nat.lt_of_lt_of_le (k1.R.hm i b hi) T2.size) (fun _ h => h) (fun b hb => Nat.lt_of_lt_of_le (k1.R.hF b hb) T2.size) (k1.notO (fun b hb hc => (hno b hc).1 (.inl hb)) hF2) hF2 k1.R.nF, k1.up,
           k1.x.mono (m := m') (m' := m') H.xm ⟨fun _ _ h => h, fun _ h => h, fun _ h => .inl h, T2⟩ (fun b hb => ⟨k1.R.hF b hb, hF2 b hb⟩) (fun b hb hc => (hno b hc).1 (.inr hb)) (fun b hb => Nat.lt_of_lt_of_le (k1.R.hF b hb) T2.size), k1.ap⟩
        have V2 : Vr fn.ntmps slots m' F' L W2 a' s'.vars := k2.mono fun u z hu => hu.mono (fun _ _ h => h) (fun _ h => h) (fun b hb => T2.keep b (k1.R.hF b hb) (hF2 b hb)) T2.rows
        obtain ⟨w, hw, hrw⟩ := results_ok hres S2 V2 hresv
        exact ⟨w, hw, w, m', F', XO', rfl, ⟨⟨fun i b hi => k3.hm i b (S.up i b hi) hi, k3.hF, k3.nF, k3.tr.trans T2 fun b hlt hb => absurd (hno b hb).2.2 (by omega)⟩, S2, hrw, k3.ow, k3.xo, k3.rg⟩⟩
    rcases hx with rfl | rfl
    · exact hleave
    · exact hleave
  unfold runFn at hrun
  rw [if_neg hnle] at hrun
  split at hrun
  · rename_i s' ha
    split at hrun
    · rename_i v' hv
      simp only [Option.some.injEq, Prod.mk.injEq] at hrun
      obtain ⟨rfl, h2, h3⟩ := hrun
      exact fin _ s' (.inl rfl) ha hv h2 h3
    · cases hrun
  · rename_i s' ha
    split at hrun
    · rename_i v' hv
      simp only [Option.some.injEq, Prod.mk.injEq] at hrun
      obtain ⟨rfl, h2, h3⟩ := hrun
      exact fin _ s' (.inr rfl) ha hv h2 h3
    · cases hrun
  · cases hrun
end
end Go.Vm

/- Loops over functions: the owner's state, and one round. -/
namespace Go.Vm
open Go
def jumpOf : Option AExit → Option Code
  | none => none
  | some .normal => none
  | some (.exit i) => some (.exit i)
  | some .ret => some .ret
structure XP where
  m0 : Nat → Option Nat
  n0 : Nat
  nb : Nat
  slots : List Nat
  h : Hint
  T : Array Value
structure XCs (P : Program) (gb : Nat → Option (List D)) (m0 : Nat → Option Nat) (n0 nb : Nat) (slots : List Nat) (h : Hint) (T : Array Value) (l : Nat) (e : Ext) (XO F : Nat → Prop) (W : World) (m : Nat → Option Nat) (r : Loop) : Prop where
  nd : slots.Nodup
  lt : ∀ t ∈ slots, t < h.nt
  nbe : e.nb = nb
  tm : r.tmps = T
  asg : ∃ ks ks', comp P slots gb h r.assign ks = some (e.asg, ks')
  body : ∃ ks ks', comp P slots gb h r.body ks = some (e.body, ks')
  hl : W.heap[l]? = some (.loop r)
  ps : r.params.toList.mapM (fun p => slots.idxOf? p) = some e.ps
  pe : e.pend ≠ some .normal
  stt : r.state = if e.pend = none then .ready else .done
  pnd : r.pending = jumpOf e.pend
  R : Rel gb m F none W (sto e.st)
  up : ∀ i b, m i = some b → i < e.st.length
  own : ∀ b, own m (sto e.st) b → XO b ∧ b ≠ l
  lo : XO l
  vr : Vr h.nt slots m F none W { tmps := r.tmps, defers := [] } e.vars
  hm : ∀ i b, i < e.nb → m0 i = some b → m i = some b
  rg : ∀ i b, m i = some b → (∃ j, m0 j = some b) ∨ n0 ≤ b
  sz : n0 ≤ W.heap.size
def XC (P : Program) (gb : Nat → Option (List D)) (p : XP) : XT := fun l e XO F W => ∃ m r, XCs P gb p.m0 p.n0 p.nb p.slots p.h p.T l e XO F W m r
section
variable {P : Program} {gb : Nat → Option (List D)}
theorem xc_mono (p : XP) : XMono (XC P gb p) := by
  rintro l e XO O F F' m1 m1' W W' ⟨m, r, k⟩ G hF hO hB
  have hl : l < W.heap.size := (Array.getElem?_eq_some_iff.1 k.hl).1
  have hsO : ∀ i b, sto e.st i ≠ .dead → m i = some b → ¬ O b := by
    intro i b hi h1
    cases hlv : lv (sto e.st i) with
    | true => exact hO b (k.own b ⟨i, hlv, h1⟩).1
    | false =>
      obtain ⟨b2, h2, h3⟩ := k.R.hs i hi
      rw [h1] at h2; injection h2 with h2; subst h2
      cases hob : sto e.st i with
      | dead => exact absurd hob hi
      | fbox cs => rw [hob] at h3; obtain ⟨_, _, _, _, _, h, _⟩ := h3; exact (hF b h).2
      | farr sz es => rw [hob] at h3; obtain ⟨_, _, _, _, _, _, h, _⟩ := h3; exact (hF b h).2
      | _ => rw [hob] at hlv; cases hlv
  have hR : Rel gb m F' none W' (sto e.st) := Rel.mono k.R G.tr (fun _ _ h => h) (fun i b hi => Nat.lt_of_lt_of_le (k.R.hm i b hi) G.tr.size) G.hF hB hsO (fun b hb => (hF b hb).2) fun i b hl hi hc => by
    rcases G.nF b hc with h1 | h1 | h1
    · exact k.R.nF i b hl hi h1
    · exact hO b (k.own b ⟨i, hl, hi⟩).1 h1
    · have := k.R.hm i b hi; omega
  exact ⟨m, r, ⟨k.nd, k.lt, k.nbe, k.tm, k.asg, k.body, (G.tr.keep l hl (hO l k.lo)).trans k.hl, k.ps, k.pe, k.stt, k.pnd, hR, k.up, k.own, k.lo, k.vr.mono fun u z hu => hu.mono (fun _ _ h => h) G.hF (fun b hb => G.tr.keep b (hF b hb).1 (hF b hb).2) G.tr.rows, k.hm, k.rg, Nat.le_trans k.sz G.tr.size⟩⟩
end
end Go.Vm

/- Loops over functions: the parameters of a round. -/
namespace Go.Vm
open Go
section
variable {P : Program} {gb : Nat → Option (List D)} {m : Nat → Option Nat} {F : Nat → Prop} {L : Option Nat} {W : World}
theorem setPs_vr {nt : Nat} {slots : List Nat} (hn : slots.Nodup) : ∀ {ps : List Nat} {qs : List Nat} {vs : List Value} {ds : List D} {T : Array Value} {vars : List AV}, ps.mapM (fun p => slots.idxOf? p) = some qs → (∀ p ∈ ps, p < nt) → vs.length = ps.length → ds.length = ps.length → (∀ j d, ds[j]? = some d → RepD F W d (vs.getD j undef)) →
    Vr nt slots m F L W { tmps := T, defers := [] } vars → Vr nt slots m F L W { tmps := (ps.zip vs).foldl (fun t p => t.setIfInBounds p.1 p.2) T, defers := [] } (setPs vars qs ds)
  | [], qs, vs, ds, T, vars, hq, _, _, _, _, hv => by
    simp only [List.mapM_nil, pure, Option.some.injEq] at hq
    subst hq
    simpa [setPs] using hv
  | p :: ps, qs, vs, ds, T, vars, hq, hlt, hl1, hl2, hr, hv => by
    simp only [List.mapM_cons, bind, Option.bind_eq_some_iff, pure, Option.some.injEq] at hq
    obtain ⟨q, h1, qs', h2, rfl⟩ := hq
    cases vs with
    | nil => simp at hl1
    | cons v vs =>
      cases ds with
      | nil => simp at hl2
      | cons d ds =>
        simp only [List.zip_cons_cons, List.foldl_cons, setPs]
        have hd : RepA m F L W (.imm d) v := .imm _ _ (hr 0 d rfl)
        have := Vr.put (dst := some p) (v := .imm d) (w := v) hv hn (fun t ht => by injection ht with ht; subst ht; exact hlt _ (by simp)) hd
        simp only [Option.bind_some, h1, setW, Act.put] at this
        exact setPs_vr hn h2 (fun x hx => hlt x (by simp [hx])) (by simpa using hl1) (by simpa using hl2) (fun j e hj => by simpa using hr (j + 1) e (by simpa using hj)) this
end
end Go.Vm

/- Loops over functions: a round. -/
namespace Go.Vm
open Go
def RfOk (P : Program) (gb : Nat → Option (List D)) (X : XT) (lo : Lower) : Prop :=
  ∀ (slots : List Nat) (h : Hint) (t : Nat) (ps : Array Tmp) (asg body : Code) (i : Nat) (qs : List Nat) (asg' body' : IR), slots.Nodup → (∀ t ∈ slots, t < h.nt) → slots.idxOf? t = some i → ps.toList.mapM (fun p => slots.idxOf? p) = some qs →
    (∃ ks ks', comp P slots gb h asg ks = some (asg', ks')) → (∃ ks ks', comp P slots gb h body ks = some (body', ks')) → CodeOk P gb X slots h lo (.rangeFunc (.tmp t) ps asg body) (.rfunc (.var i) qs asg' body')
section
variable {P : Program} {gb : Nat → Option (List D)} {X : XT} {lo : Lower} {F XO : Nat → Prop} {W : World} {l : Nat} {e e' : Ext}
theorem tr_putObj {b : Nat} {ob ob' : Obj} (hb : W.heap[b]? = some ob) (h : ∀ c t f, ob ≠ .cells c t f) : Tr (fun x => x = b) W (W.putObj b ob') := tr_setObj hb h
theorem st_put {m : Nat → Option Nat} {st : List AO} {r : Loop} {ob' : Obj} {XO : Nat → Prop} {ext : Option Ext} (S : St gb X m F none XO W st ext) (hl : W.heap[l]? = some (.loop r)) (hno : ∀ b, own m (sto st) b → b ≠ l) (hFl : ¬ F l) : St gb X m F none XO (W.putObj l ob') st ext := by
  have T := tr_putObj (ob' := ob') hl (by simp)
  exact ⟨Rel.mono S.R T (fun _ _ h => h) (fun i b hi => Nat.lt_of_lt_of_le (S.R.hm i b hi) T.size) (fun _ h => h) (fun b hb => Nat.lt_of_lt_of_le (S.R.hF b hb) T.size) (S.notO (fun b hb => hno b hb) fun b hb e => hFl (e ▸ hb)) (fun b hb e => hFl (e ▸ hb)) S.R.nF, S.up, (by have := S.x; cases ext <;> exact this), S.ap⟩
theorem code_ok (H : LowerOk P gb X lo) (hm : P.follows .mixedOrders = true) (hrf : RfOk P gb X lo) {slots : List Nat} {h : Hint} (hn : slots.Nodup) (hlt : ∀ t ∈ slots, t < h.nt) {c : Code} {ir : IR} (hc : ∃ ks ks', comp P slots gb h c ks = some (ir, ks')) : CodeOk P gb X slots h lo c ir := by
  obtain ⟨ks, ks', hc⟩ := hc
  exact code_sound H hm hn (fun t ps asg body i qs asg' body' => hrf slots h t ps asg body i qs asg' body' hn hlt) c ks ks' ir hc
end
end Go.Vm

/- Loops over functions: a round is sound. -/
namespace Go.Vm
open Go
section
variable {P : Program} {gb : Nat → Option (List D)} {xp : XP} {X : XT} {lo : Lower} {F XO : Nat → Prop} {W : World} {l : Nat} {e e' : Ext}
theorem mapM_len {f : Nat → Option Nat} : ∀ {ps qs : List Nat}, ps.mapM f = some qs → qs.length = ps.length
  | [], qs, h => by simp only [List.mapM_nil, pure, Option.some.injEq] at h; subst h; rfl
  | p :: ps, qs, h => by
    simp only [List.mapM_cons, bind, Option.bind_eq_some_iff, pure, Option.some.injEq] at h
    obtain ⟨q, _, qs', h2, rfl⟩ := h
    simp [mapM_len h2]
theorem mapM_lt {slots : List Nat} {n : Nat} : ∀ {ps qs : List Nat}, ps.mapM (fun p => slots.idxOf? p) = some qs → (∀ t ∈ slots, t < n) → ∀ p ∈ ps, p < n
  | [], _, _, _ => by simp
  | p :: ps, qs, h, hl => by
    simp only [List.mapM_cons, bind, Option.bind_eq_some_iff, pure, Option.some.injEq] at h
    obtain ⟨q, h1, qs', h2, rfl⟩ := h
    intro x hx
    rcases List.mem_cons.1 hx with e | hx
    · subst e; exact hl _ (List.mem_of_getElem? (idxOf_get h1))
    · exact mapM_lt h2 hl x hx
theorem round_sound (H : LowerOk P gb X lo) (hm : P.follows .mixedOrders = true) (hrf : RfOk P gb X lo) {ds : List D} {b : Bool} {vs : Array Value} (h : runRound lo e ds = some (e', b)) (hx : XC P gb xp l e XO F W) (hXO : ∀ b, XO b → b < W.heap.size ∧ ¬ F b) (hF : ∀ b, F b → b < W.heap.size) (hsz : vs.size = ds.length) (hr : ∀ j d, ds[j]? = some d → RepD F W d (vs.getD j undef)) :
    YieldAt Fence.wide 0 P l vs W fun en w => ∃ F' XO', en = .returned (.bool b) ∧ Grow XO (fun _ => none) F W (fun _ => none) F' w ∧ XC P gb xp l e' XO' F' w ∧ (∀ b, XO' b → b < w.heap.size ∧ ¬ F' b) ∧ (∀ b, F' b → b < w.heap.size) ∧ (∀ b, XO' b → XO b ∨ W.heap.size ≤ b) := by
  obtain ⟨m, r, k⟩ := hx
  obtain ⟨m0, n0, nb, slots, hh, T⟩ := xp
  simp only at k
  have hpl := mapM_lt k.ps k.lt
  unfold runRound at h
  split at h
  · cases h
  · rename_i hpend
    split at h
    · cases h
    · rename_i hlen
      have hlen' : ds.length = e.ps.length := Classical.byContradiction hlen
      have hps := mapM_len k.ps
      have hvs : vs.size = r.params.size := by rw [hsz, hlen', hps]; simp
      split at h
      · rename_i s1 ha1
        split at h
        · rename_i x s2 ha2
          simp only [Option.some.injEq, Prod.mk.injEq] at h
          obtain ⟨rfl, rfl⟩ := h
          refine ⟨r.fn, _, r.assign, r.body, run_yield k.hl hvs, roundIn_of_wpIn True.intro ?_⟩
          have S0 : St gb X m F none (fun _ => False) W e.st none := ⟨k.R, k.up, fun _ h => h, fun _ _ h => h⟩
          have hfold : (r.params.zip vs).foldl (fun t p => t.setIfInBounds p.1 p.2) r.tmps = (r.params.toList.zip vs.toList).foldl (fun t p => t.setIfInBounds p.1 p.2) r.tmps := by
            rw [← Array.foldl_toList, Array.toList_zip]
          have V0 : Vr hh.nt slots m F none W { tmps := (r.params.toList.zip vs.toList).foldl (fun t p => t.setIfInBounds p.1 p.2) r.tmps, defers := [] } (setPs e.vars e.ps ds) :=
            setPs_vr k.nd k.ps hpl (by simpa using hvs) (by rw [hlen', hps]) (fun j d hj => by
              have := hr j d hj
              rwa [show vs.toList.getD j undef = vs.getD j undef by simp [List.getD_eq_getElem?_getD, Array.getD_eq_getD_getElem?]]) k.vr
          have hl := k.hl
          have hFl : ¬ F l := (hXO l k.lo).2
          refine code_ok H hm hrf k.nd k.lt k.asg W.heap.size (some l) { nb := e.st.length, rd := true } none _ s1 .normal _ W m F (fun _ => False) _ (fun h => nomatch h) ha1 S0 (by rw [← hfold] at V0; exact V0) ⟨Nat.le_refl _, by simp, by simp⟩ fun a1 W1 hN => ?_
          obtain ⟨m1, F1, XO1, S1, V1, M1, D1⟩ := hN
          have hlt : l < W.heap.size := (Array.getElem?_eq_some_iff.1 hl).1
          have hnl : ¬ ownA m e.st (fun _ => False) l := fun hc => hc.elim (fun hc => (k.own l hc).2 rfl) fun h => h
          have hl1 : W1.heap[l]? = some (.loop r) := (M1.tr.keep l hlt hnl).trans hl
          have hFl1 : ¬ F1 l := fun hc => (M1.nF l hc).elim hFl fun h => h.elim hnl fun h => by omega
          have hst : r.state = .ready := by rw [k.stt, hpend]; simp
          refine ⟨_, run_beginRound hl1 hst, ?_⟩
          have S1' := st_put (ob' := .loop { r with state := .busy }) S1 hl1 (fun b hb => (M1.ow b hb).elim (fun h => (k.own b h).2) fun h e => by subst e; omega) hFl1
          have T1 := tr_putObj (ob' := .loop { r with state := .busy }) hl1 (by simp)
          have V1' : Vr hh.nt slots m1 F1 none (W1.putObj l (.loop { r with state := .busy })) a1 s1.vars := V1.mono fun u z hu => hu.mono (fun _ _ h => h) (fun _ h => h) (fun b hb => T1.keep b (S1.R.hF b hb) fun e => hFl1 (e ▸ hb)) T1.rows
          have D1' : DOk W.heap.size a1.defers (W1.putObj l (.loop { r with state := .busy })) m1 s1.st F1 XO1 := by
            refine ⟨Nat.le_trans D1.sz T1.size, fun d hd => ?_, D1.nd⟩
            obtain ⟨q, q1, q2, q3⟩ := D1.all d hd
            exact ⟨q, q1, (T1.keep q (Array.getElem?_eq_some_iff.1 q2).1 fun e => by subst e; rw [hl1] at q2; cases q2).trans q2, q3⟩
          refine code_ok H hm hrf k.nd k.lt k.body W.heap.size (some l) { nb := e.st.length, rd := true } none s1 s2 x a1 _ m1 F1 XO1 _ (fun h => nomatch h) ha2 S1' V1' D1' fun a2 W2 hN2 => ?_
          obtain ⟨m2, F2, XO2, S2, V2, M2, D2⟩ := hN2
          have hnone : ∀ {XO : Nat → Prop} {F : Nat → Prop} {ext : Option Ext} {W : World}, XR X none ext XO F W → ∀ b, ¬ XO b := fun {XO F ext W} h => by cases ext <;> first | exact h | exact h.elim
          have hown1 : ∀ b, ownA m1 s1.st XO1 b → own m (sto e.st) b ∨ W.heap.size ≤ b := fun b hb => hb.elim (M1.ow b) fun h => absurd h (hnone S1.x b)
          have hnl1 : ¬ ownA m1 s1.st XO1 l := fun hc => (hown1 l hc).elim (fun h => (k.own l h).2 rfl) fun h => by omega
          have hlt1 : l < W1.heap.size := (Array.getElem?_eq_some_iff.1 hl1).1
          have hl1' : (W1.putObj l (.loop { r with state := .busy })).heap[l]? = some (.loop { r with state := .busy }) := World.putObj_heap_same hlt1
          have hl2 : W2.heap[l]? = some (.loop { r with state := .busy }) := (M2.tr.keep l (by simpa using hlt1) hnl1).trans hl1'
          -- what was before the round, told at its end
          have hm12 : ∀ i b, m i = some b → m2 i = some b := fun i b hi => M2.hm i b (k.up i b hi) (M1.hm i b (k.up i b hi) hi)
          have hF12 : ∀ b, F b → F2 b := fun b hb => M2.hF b (M1.hF b hb)
          have hnF2 : ∀ b, F2 b → F b ∨ XO b ∨ W.heap.size ≤ b := fun b hb => by
            rcases M2.nF b hb with h | h | h
            · rcases M1.nF b h with h | h | h
              · exact .inl h
              · exact h.elim (fun h => .inr (.inl (k.own b h).1)) fun h => h.elim
              · exact .inr (.inr h)
            · exact (hown1 b h).elim (fun h => .inr (.inl (k.own b h).1)) fun h => .inr (.inr h)
            · have := M1.tr.size
              have : W1.heap.size ≤ b := by simpa using h
              exact .inr (.inr (by omega))
          have T2 : Tr XO W W2 := by
            have t1 : Tr XO W W1 := M1.tr.mono fun b _ h => h.elim (fun h => (k.own b h).1) fun h => h.elim
            have t2 : Tr XO W (W1.putObj l (.loop { r with state := .busy })) := t1.trans T1 fun b _ h => h ▸ k.lo
            exact t2.trans M2.tr fun b hb h => (hown1 b h).elim (fun h => (k.own b h).1) fun h => absurd h (by omega)
          have hFl2 : ¬ F2 l := fun hc => (M2.nF l hc).elim hFl1 fun h => h.elim hnl1 fun h => by
            have : W1.heap.size ≤ l := by simpa using h
            omega
          obtain ⟨l2, hl2e⟩ : ∃ l2, l2 = keepIds e.nb (idsL e.vars) s2.st := ⟨_, rfl⟩
          have hn2 : l2.Nodup := by rw [hl2e]; exact keep_nodup _ _ _
          obtain ⟨pe, hpe⟩ : ∃ pe : Option AExit, pe = if x = .normal then none else some x := ⟨_, rfl⟩
          have fin : ∃ v w', (Instr.endRound l (jumpOf pe)).run P W2 = .ok v w' ∧ ∃ F' XO', Ending.returned v = .returned (.bool (decide (x = .normal))) ∧ Grow XO (fun _ => none) F W (fun _ => none) F' w' ∧ XC P gb { m0 := m0, n0 := n0, nb := nb, slots := slots, h := hh, T := T } l { e with vars := (gc e.nb e.vars s2.st).1, st := (gc e.nb e.vars s2.st).2, pend := if x = .normal then none else some x } XO' F' w' ∧ (∀ b, XO' b → b < w'.heap.size ∧ ¬ F' b) ∧ (∀ b, F' b → b < w'.heap.size) ∧ (∀ b, XO' b → XO b ∨ W.heap.size ≤ b) := by
            have T3 := tr_putObj (ob' := .loop { ({ r with state := .busy } : Loop) with state := if (jumpOf pe).isNone then .ready else .done, pending := jumpOf pe }) hl2 (by simp)
            have hs2 := M2.tr.size
            have hs1 := M1.tr.size
            have hs2' : W1.heap.size ≤ W2.heap.size := by simpa using hs2
            have hs3 := T3.size
            have howW : ∀ b, own m2 (sto s2.st) b → XO b ∨ W.heap.size ≤ b := fun b hb => by
              rcases M2.ow b hb with h | h
              · exact (hown1 b (.inl h)).imp (fun h => (k.own b h).1) id
              · have : W1.heap.size ≤ b := by simpa using h
                exact .inr (by omega)
            have hol : ∀ b, own m2 (sto s2.st) b → b ≠ l := fun b hb e => by
              subst e
              rcases M2.ow b hb with h | h
              · exact hnl1 (.inl h)
              · have : W1.heap.size ≤ b := by simpa using h
                omega
            have hop : ∀ b, own (fun j : Nat => (l2[j]?).bind m2) (sto (pickSt (idx l2) l2 s2.st)) b → own m2 (sto s2.st) b := fun b hb => own_pick hb
            refine ⟨_, _, run_endRound _ hl2, F2, fun b => own (fun j : Nat => (l2[j]?).bind m2) (sto (pickSt (idx l2) l2 s2.st)) b ∨ b = l, ?_, ⟨fun _ _ h => h, hF12, hnF2, T2.trans T3 fun b _ h => h ▸ k.lo⟩, ?_, fun b hb => ?_, fun b hb => Nat.lt_of_lt_of_le (S2.R.hF b hb) hs3, fun b hb => ?_⟩
            · subst hpe; cases x <;> rfl
            · have hgc : gc e.nb e.vars s2.st = (renL (idx l2) e.vars, pickSt (idx l2) l2 s2.st) := by simp only [gc, ← hl2e]
              rw [hgc]
              have Sp : St gb X (fun j : Nat => (l2[j]?).bind m2) F2 none XO2 W2 (pickSt (idx l2) l2 s2.st) s2.ext := by
                refine ⟨pick_rel S2.R hn2, fun i b hi => ?_, S2.x, fun b hb => S2.ap b (hop b hb)⟩
                cases hj : l2[i]? with
                | none => simp [hj] at hi
                | some j => have := (List.getElem?_eq_some_iff.1 hj).1; simpa [pickSt] using this
              have Sq := st_put (ob' := .loop { ({ r with state := .busy } : Loop) with state := if (jumpOf pe).isNone then .ready else .done, pending := jumpOf pe }) Sp hl2 (fun b hb => hol b (hop b hb)) hFl2
              have mono2 : ∀ {u : AV} {z : Value}, RepA m F none W u z → RepA m2 F2 none W2 u z := fun hu => hu.mono hm12 hF12 (fun b hb => T2.keep b (hF b hb) fun hc => (hXO b hc).2 hb) T2.rows
              have mono3 : ∀ {u : AV} {z : Value}, RepA (fun j : Nat => (l2[j]?).bind m2) F2 none W2 u z → RepA (fun j : Nat => (l2[j]?).bind m2) F2 none (W2.putObj l (.loop { ({ r with state := .busy } : Loop) with state := if (jumpOf pe).isNone then .ready else .done, pending := jumpOf pe })) u z := fun hu => hu.mono (fun _ _ h => h) (fun _ h => h) (fun b hb => T3.keep b (S2.R.hF b hb) fun e => hFl2 (e ▸ hb)) T3.rows
              refine ⟨fun j : Nat => (l2[j]?).bind m2, { ({ r with state := .busy } : Loop) with state := if (jumpOf pe).isNone then .ready else .done, pending := jumpOf pe }, ⟨k.nd, k.lt, k.nbe, k.tm, k.asg, k.body, World.putObj_heap_same (Array.getElem?_eq_some_iff.1 hl2).1, k.ps, ?_, ?_, ?_, Sq.R, Sq.up, fun b hb => ⟨.inl hb, hol b (hop b hb)⟩, .inr rfl, ⟨k.vr.sz, ?_, fun i t ht => ?_⟩, fun i b hi hb => ?_, fun i b hi => ?_, by rw [World.putObj_size]; have h0 : n0 ≤ W.heap.size := k.sz; show n0 ≤ _; omega⟩⟩
              · cases x <;> simp
              · subst hpe; cases x <;> rfl
              · rw [← hpe]
              · simp only [renL_map, List.length_map]; exact k.vr.ln
              · have hi : i < e.vars.length := by rw [k.vr.ln]; exact (List.getElem?_eq_some_iff.1 ht).1
                have e3 : (renL (idx l2) e.vars).getD i .junk = ren (idx l2) (e.vars.getD i .junk) := by
                  rw [renL_map, List.getD_eq_getElem?_getD, List.getElem?_map, List.getD_eq_getElem?_getD, List.getElem?_eq_getElem hi]; rfl
                simp only
                rw [e3]
                exact mono3 (pick_rep (mono2 (k.vr.vr i t ht)))
              · have : l2[i]? = some i := by rw [hl2e]; exact keep_get hi
                simp only [this, Option.bind_some]
                exact hm12 i b (k.hm i b hi hb)
              · cases hj : l2[i]? with
                | none => simp [hj] at hi
                | some j =>
                  simp only [hj, Option.bind_some] at hi
                  have hsz0 : n0 ≤ W.heap.size := k.sz
                  show (∃ j, m0 j = some b) ∨ n0 ≤ b
                  rcases M2.rg j b hi with ⟨j1, h1⟩ | h1
                  · rcases M1.rg j1 b h1 with ⟨j2, h2⟩ | h2
                    · exact k.rg j2 b h2
                    · exact .inr (by omega)
                  · have : W1.heap.size ≤ b := by simpa using h1
                    exact .inr (by omega)
            · rcases hb with hb | hb
              · obtain ⟨i, h1, h2⟩ := hop b hb
                exact ⟨Nat.lt_of_lt_of_le (S2.R.hm i b h2) hs3, S2.R.nF i b h1 h2⟩
              · subst hb; exact ⟨by rw [World.putObj_size]; omega, hFl2⟩
            · rcases hb with hb | hb
              · exact howW b (hop b hb)
              · exact .inl (hb ▸ k.lo)
          cases x with
          | normal => subst hpe; exact fin
          | exit i => subst hpe; exact fin
          | ret => subst hpe; exact fin
        · cases h
      · cases h
end
end Go.Vm

/- Loops over functions: the statement. -/
namespace Go.Vm
open Go
section
variable {P : Program} {gb : Nat → Option (List D)} {X : XT} {lo : Lower} {F : Nat → Prop} {W : World}
theorem tr_alloc (W : World) (o : Obj) : Tr (fun _ => False) W (W.alloc o) := by
  refine ⟨rfl, rfl, rfl, by simp [World.size_alloc], fun b hb _ => ?_, fun b s hr => ?_⟩
  · show (W.heap.push o)[b]? = W.heap[b]?
    rw [Array.getElem?_push, if_neg (by omega)]
  · unfold rowSize at hr ⊢
    have hb : b < W.heap.size := by
      apply Classical.byContradiction
      intro h
      rw [Array.getElem?_eq_none (by omega)] at hr
      cases hr
    have : (W.alloc o).heap[b]? = W.heap[b]? := by
      show (W.heap.push o)[b]? = W.heap[b]?
      rw [Array.getElem?_push, if_neg (by omega)]
    rw [this]; exact hr
theorem run_ofValue {f : FuncId} {vx vy args : Array Value} : (Deferred.ofValue (.func (.func f) vx vy) args).run P W = .ok { target := .fn (.func f) vy, args := vx ++ args } W := by
  simp [Deferred.ofValue]
theorem rf_ok (HA : ∀ p : XP, LowerOk P gb (XC P gb p) lo) : RfOk P gb X lo := by
  intro slots h t ps asg body i qs asg' body' hn hlt hi hqs hasg hbody n0 ro cx L s s' x a W m F XO Q hro ha hS hv hd hQ
  simp only [aCode] at ha
  split at ha
  · cases ha
  rename_i hc
  have hrd : cx.rd = false := by cases h : cx.rd <;> simp [h] at hc ⊢
  have hext : s.ext = none := by cases h : s.ext <;> simp [h] at hc ⊢
  have hro0 := hro hrd
  subst hro0
  rw [hext] at hS
  have hL : L = none := by
    cases L with
    | none => rfl
    | some l => exact hS.x.elim
  subst hL
  have hXO : ∀ b, ¬ XO b := hS.x
  split at ha
  · rename_i g fa fb hf
    split at ha
    · rename_i v1 st1 e hcall
      simp only [Option.some.injEq, Prod.mk.injEq] at ha
      obtain ⟨rfl, rfl⟩ := ha
      have hrf := hv.vr i t (idxOf_get hi)
      have hf' : s.vars.getD i .junk = .imm (.fn g fa fb) := hf
      rw [hf'] at hrf
      obtain ⟨vx, vy, hval, hx, hy⟩ : ∃ vx vy, a.tmps.getD t undef = .func (.func g) vx vy ∧ (vx.size = fa.length ∧ ∀ j d, fa[j]? = some d → RepD F W d (vx.getD j undef)) ∧ (vy.size = fb.length ∧ ∀ j d, fb[j]? = some d → RepD F W d (vy.getD j undef)) := by
        generalize a.tmps.getD t undef = z at hrf
        cases hrf with
        | imm _ _ h => cases h with | fn _ _ _ vx vy hx hy rx ry => exact ⟨vx, vy, rfl, ⟨hx, rx⟩, hy, ry⟩
      -- the world with the record
      obtain ⟨r, hr⟩ : ∃ r : FuncId → Loop, r = fun fn => { state := .ready, pending := none, fn, tmps := a.tmps, params := ps, assign := asg, body := body, defers := W.heap.size } := ⟨_, rfl⟩
      refine wpIn_rangeFunc fun fn hfn => ?_
      obtain ⟨W1, hW1⟩ : ∃ W1, W1 = (W.alloc (.deferred (some []))).alloc (.loop (r fn)) := ⟨_, rfl⟩
      have hsz1 : W1.heap.size = W.heap.size + 2 := by rw [hW1]; simp [World.size_alloc]
      have T1 : Tr (fun _ => False) W W1 := by rw [hW1]; exact (tr_alloc _ _).trans (tr_alloc _ _) fun _ _ h => h
      have hl1 : W1.heap[W.heap.size + 1]? = some (.loop (r fn)) := by
        rw [hW1]
        have := World.alloc_heap_new (W.alloc (.deferred (some []))) (.loop (r fn))
        simpa [World.size_alloc] using this
      have hd1 : W1.heap[W.heap.size]? = some (.deferred (some [])) := by
        rw [hW1]
        rw [(tr_alloc (W.alloc (.deferred (some []))) (.loop (r fn))).keep W.heap.size (by simp [World.size_alloc]) (fun h => h)]
        exact World.alloc_heap_new _ _
      have hF1 : ∀ b, F b → W1.heap[b]? = W.heap[b]? := fun b hb => T1.keep b (hS.R.hF b hb) fun h => h
      have mono1 : ∀ {u : AV} {z : Value}, RepA m F none W u z → RepA m F none W1 u z := fun hu => hu.mono (fun _ _ h => h) (fun _ h => h) hF1 T1.rows
      obtain ⟨xp, hxp⟩ : ∃ xp : XP, xp = { m0 := m, n0 := W.heap.size, nb := cx.nb, slots := slots, h := h, T := a.tmps } := ⟨_, rfl⟩
      have R1 : Rel gb m F none W1 (sto s.st) := Rel.mono hS.R T1 (fun _ _ h => h) (fun i b hi => Nat.lt_of_lt_of_le (hS.R.hm i b hi) T1.size) (fun _ h => h) (fun b hb => Nat.lt_of_lt_of_le (hS.R.hF b hb) T1.size) (fun _ _ _ _ h => h) (fun _ _ h => h) hS.R.nF
      have hlast : ∀ b, own m (sto s.st) b → b < W.heap.size := fun b ⟨i, _, h⟩ => hS.R.hm i b h
      have hX : XC P gb xp (W.heap.size + 1) { ps := qs, asg := asg', body := body', vars := s.vars, st := s.st, nb := cx.nb, pend := none } (fun b => own m (sto s.st) b ∨ b = W.heap.size + 1) F W1 := by
        subst hxp
        refine ⟨m, r fn, ⟨hn, hlt, rfl, by rw [hr], by rw [hr]; exact hasg, by rw [hr]; exact hbody, hl1, by rw [hr]; exact hqs, by simp, by rw [hr]; simp, by rw [hr]; rfl, R1, hS.up, fun b hb => ⟨.inl hb, fun e => by have := hlast b hb; omega⟩, .inr rfl, ?_, fun _ _ _ h => h, fun i b h => .inl ⟨i, h⟩, by simp only; omega⟩⟩
        refine ⟨by rw [hr]; exact hv.sz, hv.ln, fun i t ht => ?_⟩
        have := mono1 (hv.vr i t ht)
        rw [hr]; exact this
      have S1 : St gb (XC P gb xp) (fun _ => none) F (some (W.heap.size + 1)) (fun b => own m (sto s.st) b ∨ b = W.heap.size + 1) W1 [] (some { ps := qs, asg := asg', body := body', vars := s.vars, st := s.st, nb := cx.nb, pend := none }) := by
        refine ⟨⟨R1.gl, fun i hi => absurd rfl hi, fun _ _ _ _ _ h => (nomatch h), fun _ _ _ h => (nomatch h), R1.hF, fun _ _ h => (nomatch h)⟩, fun _ _ h => (nomatch h), ⟨hX, fun b hb => ?_⟩, fun b h => ?_⟩
        · rcases hb with hb | hb
          · exact ⟨by have := hlast b hb; omega, fun hc => (hS.ownF b hc).2 hb⟩
          · exact ⟨by omega, fun hc => by have := hS.R.hF b hc; omega⟩
        · obtain ⟨i, _, h⟩ := h; cases h
      have hargs : (vx ++ #[Value.func (.yield (W.heap.size + 1)) #[] #[]] ++ vy).size = (fa.map AV.imm ++ [AV.yield] ++ fb.map AV.imm).length ∧
          ∀ j d, (fa.map AV.imm ++ [AV.yield] ++ fb.map AV.imm)[j]? = some d → RepA (fun _ => none) F (some (W.heap.size + 1)) W1 d ((vx ++ #[Value.func (.yield (W.heap.size + 1)) #[] #[]] ++ vy).getD j undef) := by
        refine rep_app (rep_app ⟨by simpa using hx.1, imm_args fun j d hj => (hx.2 j d hj).mono (fun _ h => h) hF1⟩ ⟨rfl, fun j d hj => ?_⟩) ⟨by simpa using hy.1, imm_args fun j d hj => (hy.2 j d hj).mono (fun _ h => h) hF1⟩
        cases j with
        | zero => simp at hj; subst hj; exact .yield _ rfl
        | succ j => simp at hj
      refine ⟨W.heap.size + 1, [{ target := .collected W.heap.size, args := #[] }], W1, { target := .fn (.func g) vy, args := vx ++ #[Value.func (.yield (W.heap.size + 1)) #[] #[]] }, W1, g, vx ++ #[Value.func (.yield (W.heap.size + 1)) #[] #[]] ++ vy, W1, ?_, ?_, fun f' _ => fen_fn none f', ?_, (fun hc => by rw [fen_depth] at hc; cases hc), ?_⟩
      · rw [hW1, hr]; exact run_enterLoop_outer fn a.tmps ps asg body
      · have := run_ofValue (P := P) (W := W1) (f := g) (vx := vx) (vy := vy) (args := #[Value.func (.yield (W.heap.size + 1)) #[] #[]])
        simpa [resolve, Act.eval, hval] using this
      · simp only [invoke]
        exact (HA xp).ent hcall _ _
      · refine ((HA xp).call hcall S1 hargs.1 hargs.2).mono fun en w hen => ?_
        obtain ⟨rv, m', F', XO', rfl, p⟩ := hen
        obtain ⟨⟨m2, r2, k⟩, hXO'⟩ := p.s.x
        subst hxp
        simp only at k
        have hst : r2.state ≠ .busy := by rw [k.stt]; split <;> simp
        have T3 := tr_putObj (ob' := .loop { r2 with state := .exhausted }) k.hl (by simp)
        have hol : ∀ b, own m2 (sto e.st) b → b ≠ W.heap.size + 1 := fun b hb => (k.own b hb).2
        have hFl : ¬ F' (W.heap.size + 1) := (hXO' _ k.lo).2
        have Sx : St gb X m2 F' none (fun _ => False) w e.st none := ⟨k.R, k.up, fun _ h => h, fun _ _ h => h⟩
        have Sf := st_put (ob' := .loop { r2 with state := .exhausted }) Sx k.hl hol hFl
        have hV : Vr h.nt slots m2 F' none (w.putObj (W.heap.size + 1) (.loop { r2 with state := .exhausted })) { a with defers := [{ target := .collected W.heap.size, args := #[] }] ++ a.defers } e.vars := by
          refine ⟨hv.sz, k.vr.ln, fun i t ht => ?_⟩
          have := k.vr.vr i t ht
          rw [k.tm] at this
          exact this.mono (fun _ _ h => h) (fun _ h => h) (fun b hb => T3.keep b (k.R.hF b hb) fun e => hFl (e ▸ hb)) T3.rows
        have hO1 : ∀ b, ownA (fun _ => none) [] (fun b => own m (sto s.st) b ∨ b = W.heap.size + 1) b → own m (sto s.st) b ∨ b = W.heap.size + 1 := by
          rintro b (⟨i, _, h⟩ | h)
          · cases h
          · exact h
        have M : Mv cx.nb m F XO W s.st m2 F' (fun _ => False) (w.putObj (W.heap.size + 1) (.loop { r2 with state := .exhausted })) e.st := by
          refine ⟨fun i b hi hb => k.hm i b (by rw [k.nbe]; exact hi) hb, p.gr.hF, fun b hb => ?_, ?_, fun b hb => ?_, fun b h => h.elim, fun i b hi => k.rg i b hi⟩
          · rcases p.gr.nF b hb with h | h | h
            · exact .inl h
            · rcases hO1 b h with h | h
              · exact .inr (.inl (.inl h))
              · exact .inr (.inr (by omega))
            · exact .inr (.inr (by omega))
          · have t1 : Tr (ownA m s.st XO) W w := (T1.mono (O' := ownA m s.st XO) fun _ _ h => h.elim).trans p.gr.tr fun b hb h => by
              rcases hO1 b h with h | h
              · exact .inl h
              · omega
            exact t1.trans T3 fun b hb h => by omega
          · rcases p.xo b (k.own b hb).1 with h | h
            · rcases h with h | h
              · exact .inl h
              · exact .inr (by omega)
            · exact .inr (by omega)
        have hdk : w.heap[W.heap.size]? = some (.deferred (some [])) := by
          rw [p.gr.tr.keep W.heap.size (by omega) fun hc => by
            rcases hO1 _ hc with h | h
            · have := hlast _ h; omega
            · omega]
          exact hd1
        have hnd : W.heap.size ≠ W.heap.size + 1 := by omega
        have hD : DOk n0 ([{ target := .collected W.heap.size, args := #[] }] ++ a.defers) (w.putObj (W.heap.size + 1) (.loop { r2 with state := .exhausted })) m2 e.st F' (fun _ => False) := by
          have D0 := hd.mv M
          refine ⟨D0.sz, fun d hdm => ?_, ?_⟩
          · rcases List.mem_cons.1 hdm with rfl | hdm
            · refine ⟨W.heap.size, rfl, ?_, fun hc => ?_, fun hc => ?_, hd.sz⟩
              · rw [World.putObj_heap_other hnd]; exact hdk
              · rcases hc with hc | hc
                · rcases p.xo _ (k.own _ hc).1 with h | h
                  · rcases h with h | h
                    · have := hlast _ h; omega
                    · omega
                  · omega
                · exact hc
              · rcases p.gr.nF _ hc with h | h | h
                · have := hS.R.hF _ h; omega
                · rcases hO1 _ h with h | h
                  · have := hlast _ h; omega
                  · omega
                · omega
            · exact D0.all d hdm
          · simp only [List.cons_append, List.nil_append, List.map_cons, List.nodup_cons]
            refine ⟨fun hc => ?_, hd.nd⟩
            obtain ⟨d, hdm, hdt⟩ := List.mem_map.1 hc
            obtain ⟨b, h1, h2, _⟩ := hd.all d hdm
            rw [hdt] at h1
            injection h1 with h1
            subst h1
            have := (Array.getElem?_eq_some_iff.1 h2).1
            omega
        have fin := hQ { a with defers := [{ target := .collected W.heap.size, args := #[] }] ++ a.defers } (w.putObj (W.heap.size + 1) (.loop { r2 with state := .exhausted })) ⟨m2, F', fun _ => False, Sf, hV, M, hD⟩
        refine ⟨r2.pending, _, run_endLoop k.hl hst, ?_⟩
        have hpn := k.pnd
        cases hp : e.pend with
        | none =>
          rw [hp] at fin hpn
          have hpn' : r2.pending = none := hpn
          split
          · exact fin
          · rename_i c hcc; rw [hpn'] at hcc; cases hcc
        | some q =>
          rw [hp] at fin hpn
          cases q with
          | normal => exact absurd hp k.pe
          | exit i =>
            have hpn' : r2.pending = some (.exit i) := hpn
            split
            · rename_i hcc; rw [hpn'] at hcc; cases hcc
            · rename_i c hcc; rw [hpn'] at hcc; injection hcc with hcc; subst hcc; exact wpIn_exit fin
          | ret =>
            have hpn' : r2.pending = some .ret := hpn
            split
            · rename_i hcc; rw [hpn'] at hcc; cases hcc
            · rename_i c hcc; rw [hpn'] at hcc; injection hcc with hcc; subst hcc; exact wpIn_ret fin
    · cases ha
  · cases ha
end
end Go.Vm

/- Soundness: all levels. -/
namespace Go.Vm
open Go
def FnOk (P : Program) (gb : Nat → Option (List D)) (f : FuncId) (fi : IFn) : Prop :=
  ∃ slots keeps h fn, P.funcs[f]? = some fn ∧ compFn P slots keeps h gb fn = some fi ∧ (fn.name == "runtime.NumGoroutine") = false
section
variable {P : Program} {gb : Nat → Option (List D)}
theorem level_ok (E : Env) (hm : P.follows .mixedOrders = true) (hfn : ∀ f fi, E.fn f = some fi → FnOk P gb f fi) (hp : ∀ f, E.prim f = none) : ∀ (n : Nat) (p : XP), LowerOk P gb (XC P gb p) (level E n)
  | 0, p => ⟨xc_mono p, fun h => (nomatch h), fun h => (nomatch h), fun h => (nomatch h)⟩
  | n + 1, p => by
    have HA := level_ok E hm hfn hp n
    refine ⟨xc_mono p, ?_, ?_, ?_⟩
    · intro f args st ext v st' ext' m F L XO W vs hc S hsz hr
      simp only [level] at hc
      split at hc
      · rename_i fi hf
        obtain ⟨slots, keeps, h, fn, h1, h2, _⟩ := hfn f fi hf
        exact fn_sound (HA p) hm h1 h2 (fun hn hlt t ps asg body i qs asg' body' => rf_ok HA slots { h with nt := fn.ntmps } t ps asg body i qs asg' body' hn hlt) hc S hsz hr
      · unfold runPrim at hc
        rw [hp f] at hc
        cases hc
    · intro f args st ext r hc
      simp only [level] at hc
      split at hc
      · rename_i fi hf
        obtain ⟨slots, keeps, h, fn, h1, h2, h3⟩ := hfn f fi hf
        obtain ⟨c, hb, _⟩ := comp_facts h2
        exact fn_entry h1 (by rw [hb]; rfl) h3
      · unfold runPrim at hc
        rw [hp f] at hc
        cases hc
    · intro l e ds e' b XO F W vs hc hx hXO hF hsz hr
      exact round_sound (HA p) hm (rf_ok HA) hc hx hXO hF hsz hr
end
end Go.Vm

/- Chapter 12: each function's code in the model compiles to the machine's code. -/
set_option maxRecDepth 100000
namespace Go.Vm.P12
open Go Go.Vm Go.Proofs
theorem k7 : FnOk Tryd.prog glob 7 ir7 := ⟨ir7.slots, ks7, hi7, Tryd.f7, Tryd.func7, by kernel_rfl, by kernel_rfl⟩
theorem k8 : FnOk Tryd.prog glob 8 ir8 := ⟨ir8.slots, ks8, hi8, Tryd.f8, Tryd.func8, by kernel_rfl, by kernel_rfl⟩
theorem k9 : FnOk Tryd.prog glob 9 ir9 := ⟨ir9.slots, ks9, hi9, Tryd.f9, Tryd.func9, by kernel_rfl, by kernel_rfl⟩
theorem k10 : FnOk Tryd.prog glob 10 ir10 := ⟨ir10.slots, ks10, hi10, Tryd.f10, Tryd.func10, by kernel_rfl, by kernel_rfl⟩
theorem k11 : FnOk Tryd.prog glob 11 ir11 := ⟨ir11.slots, ks11, hi11, Tryd.f11, Tryd.func11, by kernel_rfl, by kernel_rfl⟩
theorem k12 : FnOk Tryd.prog glob 12 ir12 := ⟨ir12.slots, ks12, hi12, Tryd.f12, Tryd.func12, by kernel_rfl, by kernel_rfl⟩
theorem k15 : FnOk Tryd.prog glob 15 ir15 := ⟨ir15.slots, ks15, hi15, Tryd.f15, Tryd.func15, by kernel_rfl, by kernel_rfl⟩
theorem k16 : FnOk Tryd.prog glob 16 ir16 := ⟨ir16.slots, ks16, hi16, Tryd.f16, Tryd.func16, by kernel_rfl, by kernel_rfl⟩
theorem k17 : FnOk Tryd.prog glob 17 ir17 := ⟨ir17.slots, ks17, hi17, Tryd.f17, Tryd.func17, by kernel_rfl, by kernel_rfl⟩
theorem k21 : FnOk Tryd.prog glob 21 ir21 := ⟨ir21.slots, ks21, hi21, Tryd.f21, Tryd.func21, by kernel_rfl, by kernel_rfl⟩
theorem k23 : FnOk Tryd.prog glob 23 ir23 := ⟨ir23.slots, ks23, hi23, Tryd.f23, Tryd.func23, by kernel_rfl, by kernel_rfl⟩
theorem k24 : FnOk Tryd.prog glob 24 ir24 := ⟨ir24.slots, ks24, hi24, Tryd.f24, Tryd.func24, by kernel_rfl, by kernel_rfl⟩
theorem k25 : FnOk Tryd.prog glob 25 ir25 := ⟨ir25.slots, ks25, hi25, Tryd.f25, Tryd.func25, by kernel_rfl, by kernel_rfl⟩
theorem k26 : FnOk Tryd.prog glob 26 ir26 := ⟨ir26.slots, ks26, hi26, Tryd.f26, Tryd.func26, by kernel_rfl, by kernel_rfl⟩
theorem k28 : FnOk Tryd.prog glob 28 ir28 := ⟨ir28.slots, ks28, hi28, Tryd.f28, Tryd.func28, by kernel_rfl, by kernel_rfl⟩
theorem k29 : FnOk Tryd.prog glob 29 ir29 := ⟨ir29.slots, ks29, hi29, Tryd.f29, Tryd.func29, by kernel_rfl, by kernel_rfl⟩
theorem k32 : FnOk Tryd.prog glob 32 ir32 := ⟨ir32.slots, ks32, hi32, Tryd.f32, Tryd.func32, by kernel_rfl, by kernel_rfl⟩
theorem k35 : FnOk Tryd.prog glob 35 ir35 := ⟨ir35.slots, ks35, hi35, Tryd.f35, Tryd.func35, by kernel_rfl, by kernel_rfl⟩
theorem k36 : FnOk Tryd.prog glob 36 ir36 := ⟨ir36.slots, ks36, hi36, Tryd.f36, Tryd.func36, by kernel_rfl, by kernel_rfl⟩
theorem k37 : FnOk Tryd.prog glob 37 ir37 := ⟨ir37.slots, ks37, hi37, Tryd.f37, Tryd.func37, by kernel_rfl, by kernel_rfl⟩
theorem k38 : FnOk Tryd.prog glob 38 ir38 := ⟨ir38.slots, ks38, hi38, Tryd.f38, Tryd.func38, by kernel_rfl, by kernel_rfl⟩
theorem k39 : FnOk Tryd.prog glob 39 ir39 := ⟨ir39.slots, ks39, hi39, Tryd.f39, Tryd.func39, by kernel_rfl, by kernel_rfl⟩
theorem k40 : FnOk Tryd.prog glob 40 ir40 := ⟨ir40.slots, ks40, hi40, Tryd.f40, Tryd.func40, by kernel_rfl, by kernel_rfl⟩
theorem k41 : FnOk Tryd.prog glob 41 ir41 := ⟨ir41.slots, ks41, hi41, Tryd.f41, Tryd.func41, by kernel_rfl, by kernel_rfl⟩
theorem k42 : FnOk Tryd.prog glob 42 ir42 := ⟨ir42.slots, ks42, hi42, Tryd.f42, Tryd.func42, by kernel_rfl, by kernel_rfl⟩
theorem k43 : FnOk Tryd.prog glob 43 ir43 := ⟨ir43.slots, ks43, hi43, Tryd.f43, Tryd.func43, by kernel_rfl, by kernel_rfl⟩
theorem k44 : FnOk Tryd.prog glob 44 ir44 := ⟨ir44.slots, ks44, hi44, Tryd.f44, Tryd.func44, by kernel_rfl, by kernel_rfl⟩
theorem k45 : FnOk Tryd.prog glob 45 ir45 := ⟨ir45.slots, ks45, hi45, Tryd.f45, Tryd.func45, by kernel_rfl, by kernel_rfl⟩
theorem k46 : FnOk Tryd.prog glob 46 ir46 := ⟨ir46.slots, ks46, hi46, Tryd.f46, Tryd.func46, by kernel_rfl, by kernel_rfl⟩
theorem k47 : FnOk Tryd.prog glob 47 ir47 := ⟨ir47.slots, ks47, hi47, Tryd.f47, Tryd.func47, by kernel_rfl, by kernel_rfl⟩
theorem k48 : FnOk Tryd.prog glob 48 ir48 := ⟨ir48.slots, ks48, hi48, Tryd.f48, Tryd.func48, by kernel_rfl, by kernel_rfl⟩
theorem k49 : FnOk Tryd.prog glob 49 ir49 := ⟨ir49.slots, ks49, hi49, Tryd.f49, Tryd.func49, by kernel_rfl, by kernel_rfl⟩
theorem k50 : FnOk Tryd.prog glob 50 ir50 := ⟨ir50.slots, ks50, hi50, Tryd.f50, Tryd.func50, by kernel_rfl, by kernel_rfl⟩
theorem k51 : FnOk Tryd.prog glob 51 ir51 := ⟨ir51.slots, ks51, hi51, Tryd.f51, Tryd.func51, by kernel_rfl, by kernel_rfl⟩
theorem k52 : FnOk Tryd.prog glob 52 ir52 := ⟨ir52.slots, ks52, hi52, Tryd.f52, Tryd.func52, by kernel_rfl, by kernel_rfl⟩
theorem k57 : FnOk Tryd.prog glob 57 ir57 := ⟨ir57.slots, ks57, hi57, Tryd.f57, Tryd.func57, by kernel_rfl, by kernel_rfl⟩
theorem k58 : FnOk Tryd.prog glob 58 ir58 := ⟨ir58.slots, ks58, hi58, Tryd.f58, Tryd.func58, by kernel_rfl, by kernel_rfl⟩
theorem k59 : FnOk Tryd.prog glob 59 ir59 := ⟨ir59.slots, ks59, hi59, Tryd.f59, Tryd.func59, by kernel_rfl, by kernel_rfl⟩
theorem k60 : FnOk Tryd.prog glob 60 ir60 := ⟨ir60.slots, ks60, hi60, Tryd.f60, Tryd.func60, by kernel_rfl, by kernel_rfl⟩
theorem k62 : FnOk Tryd.prog glob 62 ir62 := ⟨ir62.slots, ks62, hi62, Tryd.f62, Tryd.func62, by kernel_rfl, by kernel_rfl⟩
theorem k63 : FnOk Tryd.prog glob 63 ir63 := ⟨ir63.slots, ks63, hi63, Tryd.f63, Tryd.func63, by kernel_rfl, by kernel_rfl⟩
theorem k64 : FnOk Tryd.prog glob 64 ir64 := ⟨ir64.slots, ks64, hi64, Tryd.f64, Tryd.func64, by kernel_rfl, by kernel_rfl⟩
theorem k65 : FnOk Tryd.prog glob 65 ir65 := ⟨ir65.slots, ks65, hi65, Tryd.f65, Tryd.func65, by kernel_rfl, by kernel_rfl⟩
theorem k66 : FnOk Tryd.prog glob 66 ir66 := ⟨ir66.slots, ks66, hi66, Tryd.f66, Tryd.func66, by kernel_rfl, by kernel_rfl⟩
theorem k67 : FnOk Tryd.prog glob 67 ir67 := ⟨ir67.slots, ks67, hi67, Tryd.f67, Tryd.func67, by kernel_rfl, by kernel_rfl⟩
theorem k68 : FnOk Tryd.prog glob 68 ir68 := ⟨ir68.slots, ks68, hi68, Tryd.f68, Tryd.func68, by kernel_rfl, by kernel_rfl⟩
theorem k69 : FnOk Tryd.prog glob 69 ir69 := ⟨ir69.slots, ks69, hi69, Tryd.f69, Tryd.func69, by kernel_rfl, by kernel_rfl⟩
theorem k71 : FnOk Tryd.prog glob 71 ir71 := ⟨ir71.slots, ks71, hi71, Tryd.f71, Tryd.func71, by kernel_rfl, by kernel_rfl⟩
theorem k72 : FnOk Tryd.prog glob 72 ir72 := ⟨ir72.slots, ks72, hi72, Tryd.f72, Tryd.func72, by kernel_rfl, by kernel_rfl⟩
theorem k73 : FnOk Tryd.prog glob 73 ir73 := ⟨ir73.slots, ks73, hi73, Tryd.f73, Tryd.func73, by kernel_rfl, by kernel_rfl⟩
theorem k74 : FnOk Tryd.prog glob 74 ir74 := ⟨ir74.slots, ks74, hi74, Tryd.f74, Tryd.func74, by kernel_rfl, by kernel_rfl⟩
theorem k75 : FnOk Tryd.prog glob 75 ir75 := ⟨ir75.slots, ks75, hi75, Tryd.f75, Tryd.func75, by kernel_rfl, by kernel_rfl⟩
theorem k76 : FnOk Tryd.prog glob 76 ir76 := ⟨ir76.slots, ks76, hi76, Tryd.f76, Tryd.func76, by kernel_rfl, by kernel_rfl⟩
theorem k79 : FnOk Tryd.prog glob 79 ir79 := ⟨ir79.slots, ks79, hi79, Tryd.f79, Tryd.func79, by kernel_rfl, by kernel_rfl⟩
theorem k80 : FnOk Tryd.prog glob 80 ir80 := ⟨ir80.slots, ks80, hi80, Tryd.f80, Tryd.func80, by kernel_rfl, by kernel_rfl⟩
theorem k81 : FnOk Tryd.prog glob 81 ir81 := ⟨ir81.slots, ks81, hi81, Tryd.f81, Tryd.func81, by kernel_rfl, by kernel_rfl⟩
theorem k82 : FnOk Tryd.prog glob 82 ir82 := ⟨ir82.slots, ks82, hi82, Tryd.f82, Tryd.func82, by kernel_rfl, by kernel_rfl⟩
theorem k83 : FnOk Tryd.prog glob 83 ir83 := ⟨ir83.slots, ks83, hi83, Tryd.f83, Tryd.func83, by kernel_rfl, by kernel_rfl⟩
theorem k84 : FnOk Tryd.prog glob 84 ir84 := ⟨ir84.slots, ks84, hi84, Tryd.f84, Tryd.func84, by kernel_rfl, by kernel_rfl⟩
theorem k85 : FnOk Tryd.prog glob 85 ir85 := ⟨ir85.slots, ks85, hi85, Tryd.f85, Tryd.func85, by kernel_rfl, by kernel_rfl⟩
theorem k86 : FnOk Tryd.prog glob 86 ir86 := ⟨ir86.slots, ks86, hi86, Tryd.f86, Tryd.func86, by kernel_rfl, by kernel_rfl⟩
theorem k87 : FnOk Tryd.prog glob 87 ir87 := ⟨ir87.slots, ks87, hi87, Tryd.f87, Tryd.func87, by kernel_rfl, by kernel_rfl⟩
theorem k90 : FnOk Tryd.prog glob 90 ir90 := ⟨ir90.slots, ks90, hi90, Tryd.f90, Tryd.func90, by kernel_rfl, by kernel_rfl⟩
theorem k91 : FnOk Tryd.prog glob 91 ir91 := ⟨ir91.slots, ks91, hi91, Tryd.f91, Tryd.func91, by kernel_rfl, by kernel_rfl⟩
theorem k92 : FnOk Tryd.prog glob 92 ir92 := ⟨ir92.slots, ks92, hi92, Tryd.f92, Tryd.func92, by kernel_rfl, by kernel_rfl⟩
theorem k93 : FnOk Tryd.prog glob 93 ir93 := ⟨ir93.slots, ks93, hi93, Tryd.f93, Tryd.func93, by kernel_rfl, by kernel_rfl⟩
theorem k94 : FnOk Tryd.prog glob 94 ir94 := ⟨ir94.slots, ks94, hi94, Tryd.f94, Tryd.func94, by kernel_rfl, by kernel_rfl⟩
theorem k95 : FnOk Tryd.prog glob 95 ir95 := ⟨ir95.slots, ks95, hi95, Tryd.f95, Tryd.func95, by kernel_rfl, by kernel_rfl⟩
theorem k98 : FnOk Tryd.prog glob 98 ir98 := ⟨ir98.slots, ks98, hi98, Tryd.f98, Tryd.func98, by kernel_rfl, by kernel_rfl⟩
theorem k99 : FnOk Tryd.prog glob 99 ir99 := ⟨ir99.slots, ks99, hi99, Tryd.f99, Tryd.func99, by kernel_rfl, by kernel_rfl⟩
theorem k100 : FnOk Tryd.prog glob 100 ir100 := ⟨ir100.slots, ks100, hi100, Tryd.f100, Tryd.func100, by kernel_rfl, by kernel_rfl⟩
theorem k101 : FnOk Tryd.prog glob 101 ir101 := ⟨ir101.slots, ks101, hi101, Tryd.f101, Tryd.func101, by kernel_rfl, by kernel_rfl⟩
theorem k102 : FnOk Tryd.prog glob 102 ir102 := ⟨ir102.slots, ks102, hi102, Tryd.f102, Tryd.func102, by kernel_rfl, by kernel_rfl⟩
theorem k103 : FnOk Tryd.prog glob 103 ir103 := ⟨ir103.slots, ks103, hi103, Tryd.f103, Tryd.func103, by kernel_rfl, by kernel_rfl⟩
theorem k104 : FnOk Tryd.prog glob 104 ir104 := ⟨ir104.slots, ks104, hi104, Tryd.f104, Tryd.func104, by kernel_rfl, by kernel_rfl⟩
theorem k122 : FnOk Tryd.prog glob 122 ir122 := ⟨ir122.slots, ks122, hi122, Tryd.f122, Tryd.func122, by kernel_rfl, by kernel_rfl⟩
theorem k123 : FnOk Tryd.prog glob 123 ir123 := ⟨ir123.slots, ks123, hi123, Tryd.f123, Tryd.func123, by kernel_rfl, by kernel_rfl⟩
theorem k124 : FnOk Tryd.prog glob 124 ir124 := ⟨ir124.slots, ks124, hi124, Tryd.f124, Tryd.func124, by kernel_rfl, by kernel_rfl⟩
theorem k125 : FnOk Tryd.prog glob 125 ir125 := ⟨ir125.slots, ks125, hi125, Tryd.f125, Tryd.func125, by kernel_rfl, by kernel_rfl⟩
end Go.Vm.P12

/- Chapter 12, functions: numbers, searches, what is made of each element of a list. -/
set_option maxRecDepth 100000
namespace Go.Vm.P12
open Go Go.Vm
def fnz : List Int → Int
  | [] => 0
  | x :: r => if x = 0 then fnz r else x
def offB (n a b : Int) : Bool := decide (n < a) || decide (b < n)
theorem ok59 (n : Nat) (a b c : Int) : callP (level E (n+1)) 59 [.int .i64 a, .int .i64 b, .int .i64 c] = some (.bool (offB a b c)) := by
  rw [p59]
  by_cases h : a < b <;> simp only [go_sem, Nat.reduceAdd, Nat.reduceSub, Nat.reduceMul, Nat.reduceDiv, Nat.reduceMod, Nat.reduceLeDiff, Nat.reduceBEq, Int.reduceToNat, Int.reduceLT, Int.reduceLE, Int.reduceEq, h, offB]
theorem fnz_cons (x : Int) (r : List Int) : fnz (x :: r) = if x = 0 then fnz r else x := rfl
theorem ok58 (n : Nat) (b : Bool) (x : Int) : callP (level E (n+1)) 58 [.bool b, .int .i64 x] = some (.int .i64 (if b then x else 0)) := by
  rw [p58]
  cases b <;> simp only [go_sem, Nat.reduceAdd, Nat.reduceSub, Nat.reduceMul, Nat.reduceDiv, Nat.reduceMod, Nat.reduceLeDiff, Nat.reduceBEq, Int.reduceToNat, Int.reduceLT, Int.reduceLE, Int.reduceEq, Bool.false_eq_true]
theorem ok42 (n : Nat) (b : Bool) (x : Int) : callP (level E (n+1)) 42 [.bool b, .int .i64 x] = some (.int .i64 (if b then x else 0)) := by
  rw [p42]
  cases b <;> simp only [go_sem, Nat.reduceAdd, Nat.reduceSub, Nat.reduceMul, Nat.reduceDiv, Nat.reduceMod, Nat.reduceLeDiff, Nat.reduceBEq, Int.reduceToNat, Int.reduceLT, Int.reduceLE, Int.reduceEq, Bool.false_eq_true]
def ckR (a b c : Int) : Int := if a < b ∨ c < a then 3 else 0
theorem ok17 (n : Nat) (a b c : Int) : callP (level E (n+2)) 17 [.int .i64 a, .int .i64 b, .int .i64 c] = some (.int .i64 (ckR a b c)) := by
  rw [p17]
  by_cases h : a < b <;> simp only [go_sem, Nat.reduceAdd, Nat.reduceSub, Nat.reduceMul, Nat.reduceDiv, Nat.reduceMod, Nat.reduceLeDiff, Nat.reduceBEq, Int.reduceToNat, Int.reduceLT, Int.reduceLE, Int.reduceEq, h, ok42, true_or, false_or, decide_eq_true_eq, ckR]
theorem l57 {lo : Lower} {b : Bool} {l : List Int} (hl : l.length < 1000000000) : ∀ (r : List Int) (i : Nat), l.drop i = r →
    outC ⟨0, false⟩ [0, 1, 0, 0, 0, 0, 0, 0] (rnd (aCode lo ⟨0, false⟩ b57_0) (head ⟨0, false⟩ [0, 0, 0, 1, 1, 1, 0, 0]) ⟨[.junk, .junk, .junk, .imm (slD b 1 (l.map ic)), .imm (.int .i64 l.length), .imm (.int .i64 i), .junk, .junk], [], none⟩) =
      some (if fnz r = 0 then (.exit 0, ⟨[.junk, .junk, .junk, .junk, .junk, .junk, .junk, .junk], [], none⟩) else (.ret, ⟨[.junk, .imm (.int .i64 (fnz r)), .junk, .junk, .junk, .junk, .junk, .junk], [], none⟩))
  | [], i, h => by
    rw [rnd_eq]
    simp only [go_sem, Nat.reduceAdd, Nat.reduceSub, Nat.reduceMul, Nat.reduceDiv, Nat.reduceMod, Nat.reduceLeDiff, Nat.reduceBEq, Int.reduceToNat, Int.reduceLT, Int.reduceLE, Int.reduceEq, lt_f (drop_n h), fnz]
  | x :: r, i, h => by
    obtain ⟨h1, h2, h3⟩ := drop_c h
    rw [rnd_eq]
    by_cases h0 : x = 0
    · subst h0
      simp only [go_sem, Nat.reduceAdd, Nat.reduceSub, Nat.reduceMul, Nat.reduceDiv, Nat.reduceMod, Nat.reduceLeDiff, Nat.reduceBEq, Int.reduceToNat, Int.reduceLT, Int.reduceLE, Int.reduceEq, lt_t h2, h1, ne_eq, not_true_eq_false, fnz]
      rw [wrpS (by omega)]
      exact l57 hl r (i + 1) h3
    · simp only [go_sem, Nat.reduceAdd, Nat.reduceSub, Nat.reduceMul, Nat.reduceDiv, Nat.reduceMod, Nat.reduceLeDiff, Nat.reduceBEq, Int.reduceToNat, Int.reduceLT, Int.reduceLE, Int.reduceEq, lt_t h2, h1, ne_eq, h0, not_false_eq_true, fnz]
theorem ok57 (n : Nat) (b : Bool) (l : List Int) (hl : l.length < 1000000000) : callP (level E (n+1)) 57 [slD b 1 (l.map ic)] = some (.int .i64 (fnz l)) := by
  rw [p57]
  have h := l57 (lo := level E n) (b := b) hl l 0
  rw [cast0] at h
  simp only [go_sem, Nat.reduceAdd, Nat.reduceSub, Nat.reduceMul, Nat.reduceDiv, Nat.reduceMod, Nat.reduceLeDiff, Nat.reduceBEq, Int.reduceToNat, Int.reduceLT, Int.reduceLE, Int.reduceEq]
  rw [h rfl]
  by_cases h0 : fnz l = 0 <;> simp only [go_sem, Nat.reduceAdd, Nat.reduceSub, Nat.reduceMul, Nat.reduceDiv, Nat.reduceMod, Nat.reduceLeDiff, Nat.reduceBEq, Int.reduceToNat, Int.reduceLT, Int.reduceLE, Int.reduceEq, h0]
theorem ok57' (n : Nat) (l : List (List D)) (r : List Int) (hr : l = r.map ic) (hl : r.length < 1000000000) : callP (level E (n+1)) 57 [.sl 1 l] = some (.int .i64 (fnz r)) := by
  subst hr
  exact ok57 n false r hl
theorem l16 {lo : Lower} {b : Bool} {l : List Int} (hl : l.length < 1000000000) : ∀ (r : List Int) (i : Nat), l.drop i = r →
    outC ⟨0, false⟩ [0, 1, 0, 0, 0] (rnd (aCode lo ⟨0, false⟩ b16_0) (head ⟨0, false⟩ [1, 0, 1, 0, 0]) ⟨[.imm (slD b 1 (l.map ic)), .junk, .imm (.int .i64 i), .junk, .junk], [], none⟩) =
      some (if fnz r = 0 then (.exit 0, ⟨[.junk, .junk, .junk, .junk, .junk], [], none⟩) else (.ret, ⟨[.junk, .imm (.int .i64 (fnz r)), .junk, .junk, .junk], [], none⟩))
  | [], i, h => by
    rw [rnd_eq]
    simp only [go_sem, Nat.reduceAdd, Nat.reduceSub, Nat.reduceMul, Nat.reduceDiv, Nat.reduceMod, Nat.reduceLeDiff, Nat.reduceBEq, Int.reduceToNat, Int.reduceLT, Int.reduceLE, Int.reduceEq, lt_f (drop_n h), fnz]
  | x :: r, i, h => by
    obtain ⟨h1, h2, h3⟩ := drop_c h
    rw [rnd_eq]
    by_cases h0 : x = 0
    · subst h0
      simp only [go_sem, Nat.reduceAdd, Nat.reduceSub, Nat.reduceMul, Nat.reduceDiv, Nat.reduceMod, Nat.reduceLeDiff, Nat.reduceBEq, Int.reduceToNat, Int.reduceLT, Int.reduceLE, Int.reduceEq, lt_t h2, h1, ne_eq, not_true_eq_false, fnz]
      rw [wrpS (by omega)]
      exact l16 hl r (i + 1) h3
    · simp only [go_sem, Nat.reduceAdd, Nat.reduceSub, Nat.reduceMul, Nat.reduceDiv, Nat.reduceMod, Nat.reduceLeDiff, Nat.reduceBEq, Int.reduceToNat, Int.reduceLT, Int.reduceLE, Int.reduceEq, lt_t h2, h1, ne_eq, h0, not_false_eq_true, fnz]
theorem ok16 (n : Nat) (b : Bool) (l : List Int) (hl : l.length < 1000000000) : callP (level E (n+1)) 16 [slD b 1 (l.map ic)] = some (.int .i64 (fnz l)) := by
  rw [p16]
  have h := l16 (lo := level E n) (b := b) hl l 0
  rw [cast0] at h
  simp only [go_sem, Nat.reduceAdd, Nat.reduceSub, Nat.reduceMul, Nat.reduceDiv, Nat.reduceMod, Nat.reduceLeDiff, Nat.reduceBEq, Int.reduceToNat, Int.reduceLT, Int.reduceLE, Int.reduceEq]
  rw [h rfl]
  by_cases h0 : fnz l = 0 <;> simp only [go_sem, Nat.reduceAdd, Nat.reduceSub, Nat.reduceMul, Nat.reduceDiv, Nat.reduceMod, Nat.reduceLeDiff, Nat.reduceBEq, Int.reduceToNat, Int.reduceLT, Int.reduceLE, Int.reduceEq, h0]
theorem ok16' (n : Nat) (l : List (List D)) (r : List Int) (hr : l = r.map ic) (hl : r.length < 1000000000) : callP (level E (n+1)) 16 [.sl 1 l] = some (.int .i64 (fnz r)) := by
  subst hr
  exact ok16 n false r hl
theorem ok57_2 (n : Nat) (a0 a1 : Int) : callP (level E (n+1)) 57 [.sl 1 [[.int .i64 a0], [.int .i64 a1]]] = some (.int .i64 (fnz [a0, a1])) := ok57' n _ [a0, a1] rfl (by simp)
theorem ok57_3 (n : Nat) (a0 a1 a2 : Int) : callP (level E (n+1)) 57 [.sl 1 [[.int .i64 a0], [.int .i64 a1], [.int .i64 a2]]] = some (.int .i64 (fnz [a0, a1, a2])) := ok57' n _ [a0, a1, a2] rfl (by simp)
theorem ok57_4 (n : Nat) (a0 a1 a2 a3 : Int) : callP (level E (n+1)) 57 [.sl 1 [[.int .i64 a0], [.int .i64 a1], [.int .i64 a2], [.int .i64 a3]]] = some (.int .i64 (fnz [a0, a1, a2, a3])) := ok57' n _ [a0, a1, a2, a3] rfl (by simp)
theorem ok16_3 (n : Nat) (a0 a1 a2 : Int) : callP (level E (n+1)) 16 [.sl 1 [[.int .i64 a0], [.int .i64 a1], [.int .i64 a2]]] = some (.int .i64 (fnz [a0, a1, a2])) := ok16' n _ [a0, a1, a2] rfl (by simp)
def fidx {α : Type} (p : α → Bool) : List α → Nat → Int
  | [], _ => -1
  | x :: r, i => if p x then (i : Int) else fidx p r (i + 1)
theorem fidx_ge {α : Type} (p : α → Bool) : ∀ (l : List α) (i : Nat), decide (0 ≤ fidx p l i) = l.any p
  | [], i => by simp [fidx]
  | x :: r, i => by
    cases h : p x
    · simp only [fidx, List.any_cons, h, Bool.false_eq_true, if_false, Bool.false_or]; exact fidx_ge p r (i + 1)
    · simp [fidx, h]
theorem l91 {n : Nat} {b : Bool} {l : List Int} {g : FuncId} {cs : List D} {p : Int → Bool} (H : ∀ x ∈ l, callP (level E n) g (.int .i64 x :: cs) = some (.bool (p x))) (hl : l.length < 1000000000) : ∀ (r : List Int) (i : Nat), l.drop i = r →
    outC ⟨0, false⟩ [0, 0, 1, 0, 0, 0, 0, 0] (rnd (aCode (level E n) ⟨0, false⟩ b91_0) (head ⟨0, false⟩ [1, 1, 0, 0, 1, 1, 0, 0]) ⟨[.imm (slD b 1 (l.map ic)), .imm (.fn g [] cs), .junk, .junk, .imm (.int .i64 l.length), .imm (.int .i64 i), .junk, .junk], [], none⟩) =
      some (if r.any p then (.ret, ⟨[.junk, .junk, .imm (.int .i64 (fidx p r i)), .junk, .junk, .junk, .junk, .junk], [], none⟩) else (.exit 0, ⟨[.junk, .junk, .junk, .junk, .junk, .junk, .junk, .junk], [], none⟩))
  | [], i, h => by
    rw [rnd_eq]
    simp only [go_sem, Nat.reduceAdd, Nat.reduceSub, Nat.reduceMul, Nat.reduceDiv, Nat.reduceMod, Nat.reduceLeDiff, Nat.reduceBEq, Int.reduceToNat, Int.reduceLT, Int.reduceLE, Int.reduceEq, lt_f (drop_n h), List.any_nil, Bool.false_eq_true]
  | x :: r, i, h => by
    obtain ⟨h1, h2, h3⟩ := drop_c h
    have H' := H x (List.mem_of_getElem? h1)
    rw [rnd_eq]
    cases h0 : p x
    · simp only [go_sem, Nat.reduceAdd, Nat.reduceSub, Nat.reduceMul, Nat.reduceDiv, Nat.reduceMod, Nat.reduceLeDiff, Nat.reduceBEq, Int.reduceToNat, Int.reduceLT, Int.reduceLE, Int.reduceEq, lt_t h2, h1, H', h0, List.any_cons, fidx, Bool.false_eq_true]
      rw [wrpS (by omega)]
      exact l91 H hl r (i + 1) h3
    · simp only [go_sem, Nat.reduceAdd, Nat.reduceSub, Nat.reduceMul, Nat.reduceDiv, Nat.reduceMod, Nat.reduceLeDiff, Nat.reduceBEq, Int.reduceToNat, Int.reduceLT, Int.reduceLE, Int.reduceEq, lt_t h2, h1, H', h0, List.any_cons, fidx]
theorem ok91 (n : Nat) (b : Bool) (l : List Int) (g : FuncId) (cs : List D) (p : Int → Bool) (H : ∀ x ∈ l, callP (level E n) g (.int .i64 x :: cs) = some (.bool (p x))) (hl : l.length < 1000000000) :
    callP (level E (n+1)) 91 [slD b 1 (l.map ic), .fn g [] cs] = some (.int .i64 (fidx p l 0)) := by
  rw [p91]
  have h := l91 (b := b) H hl l 0
  have h1 : l.any p = false → fidx p l 0 = -1 := by
    intro h
    have : ∀ (l : List Int) (i : Nat), l.any p = false → fidx p l i = -1 := by
      intro l
      induction l with
      | nil => intros; rfl
      | cons x r ih => intro i h; simp only [List.any_cons, Bool.or_eq_false_iff] at h; simp only [fidx, h.1, Bool.false_eq_true, if_false]; exact ih _ h.2
    exact this l 0 h
  rw [cast0] at h
  simp only [go_sem, Nat.reduceAdd, Nat.reduceSub, Nat.reduceMul, Nat.reduceDiv, Nat.reduceMod, Nat.reduceLeDiff, Nat.reduceBEq, Int.reduceToNat, Int.reduceLT, Int.reduceLE, Int.reduceEq]
  rw [h rfl]
  cases h0 : l.any p
  · simp only [go_sem, Nat.reduceAdd, Nat.reduceSub, Nat.reduceMul, Nat.reduceDiv, Nat.reduceMod, Nat.reduceLeDiff, Nat.reduceBEq, Int.reduceToNat, Int.reduceLT, Int.reduceLE, Int.reduceEq, Bool.false_eq_true, h1 h0]
  · simp only [go_sem, Nat.reduceAdd, Nat.reduceSub, Nat.reduceMul, Nat.reduceDiv, Nat.reduceMod, Nat.reduceLeDiff, Nat.reduceBEq, Int.reduceToNat, Int.reduceLT, Int.reduceLE, Int.reduceEq]
theorem ok67 (n : Nat) (b : Bool) (l : List Int) (g : FuncId) (cs : List D) (p : Int → Bool) (H : ∀ x ∈ l, callP (level E n) g (.int .i64 x :: cs) = some (.bool (p x))) (hl : l.length < 1000000000) :
    callP (level E (n+2)) 67 [slD b 1 (l.map ic), .fn g [] cs] = some (.bool (l.any p)) := by
  rw [p67]
  simp only [go_sem, Nat.reduceAdd, Nat.reduceSub, Nat.reduceMul, Nat.reduceDiv, Nat.reduceMod, Nat.reduceLeDiff, Nat.reduceBEq, Int.reduceToNat, Int.reduceLT, Int.reduceLE, Int.reduceEq, ok91 n b l g cs p H hl, fidx_ge]
theorem ok66 (n : Nat) (x : Int) : callP (level E (n+2)) 66 [.int .i64 x] = some (.bool (offB x (-1048576) 1048576)) := by
  rw [p66]; simp only [go_sem, Nat.reduceAdd, Nat.reduceSub, Nat.reduceMul, Nat.reduceDiv, Nat.reduceMod, Nat.reduceLeDiff, Nat.reduceBEq, Int.reduceToNat, Int.reduceLT, Int.reduceLE, Int.reduceEq, ok59]
theorem ok92 (n : Nat) (x : Int) : callP (level E (n+2)) 92 [.int .i64 x] = some (.bool (offB x (-1048576) 1048576)) := by
  rw [p92]; simp only [go_sem, Nat.reduceAdd, Nat.reduceSub, Nat.reduceMul, Nat.reduceDiv, Nat.reduceMod, Nat.reduceLeDiff, Nat.reduceBEq, Int.reduceToNat, Int.reduceLT, Int.reduceLE, Int.reduceEq, ok59]
theorem ok100 (n : Nat) (x : Int) : callP (level E (n+1)) 100 [.int .i64 x] = some (.bool (decide (x ≠ 0))) := by
  rw [p100]; simp only [go_sem, Nat.reduceAdd, Nat.reduceSub, Nat.reduceMul, Nat.reduceDiv, Nat.reduceMod, Nat.reduceLeDiff, Nat.reduceBEq, Int.reduceToNat, Int.reduceLT, Int.reduceLE, Int.reduceEq]
theorem ok95 (n : Nat) (x m : Int) (r : List D) : callP (level E (n+2)) 95 [.int .i64 x, .ptr (.int .i64 m :: r)] = some (.bool (offB x 0 m)) := by
  rw [p95]; simp only [go_sem, Nat.reduceAdd, Nat.reduceSub, Nat.reduceMul, Nat.reduceDiv, Nat.reduceMod, Nat.reduceLeDiff, Nat.reduceBEq, Int.reduceToNat, Int.reduceLT, Int.reduceLE, Int.reduceEq, ok59]
theorem ok94 (n : Nat) (x : Int) : callP (level E (n+1)) 94 [.int .i64 x] = some (.fn 95 [] [.ptr [.int .i64 x]]) := by
  rw [p94]; simp only [go_sem, Nat.reduceAdd, Nat.reduceSub, Nat.reduceMul, Nat.reduceDiv, Nat.reduceMod, Nat.reduceLeDiff, Nat.reduceBEq, Int.reduceToNat, Int.reduceLT, Int.reduceLE, Int.reduceEq]
theorem ok124 (n : Nat) (x : Int) : callP (level E (n+1)) 124 [.int .i64 x] = some (.int .i64 (max x 0)) := by
  rw [p124]; simp only [go_sem, Nat.reduceAdd, Nat.reduceSub, Nat.reduceMul, Nat.reduceDiv, Nat.reduceMod, Nat.reduceLeDiff, Nat.reduceBEq, Int.reduceToNat, Int.reduceLT, Int.reduceLE, Int.reduceEq]
theorem ok125 (n : Nat) (x : Int) : callP (level E (n+1)) 125 [.int .i64 x] = some (.int .i64 (max (wrp .i64 (0 - x)) 0)) := by
  rw [p125]; simp only [go_sem, Nat.reduceAdd, Nat.reduceSub, Nat.reduceMul, Nat.reduceDiv, Nat.reduceMod, Nat.reduceLeDiff, Nat.reduceBEq, Int.reduceToNat, Int.reduceLT, Int.reduceLE, Int.reduceEq]
theorem ok51 (n : Nat) (b : Bool) (l : List Int) (c : Int) : callP (level E (n+1)) 51 [.agg [slD b 1 (l.map ic), .int .i64 c]] = some (.bool (decide (l.length ≤ 8))) := by
  rw [p51]; simp only [go_sem, Nat.reduceAdd, Nat.reduceSub, Nat.reduceMul, Nat.reduceDiv, Nat.reduceMod, Nat.reduceLeDiff, Nat.reduceBEq, Int.reduceToNat, Int.reduceLT, Int.reduceLE, Int.reduceEq]
  congr 2; apply decide_eq_decide.2; omega
theorem ok47 (n : Nat) : callP (level E (n+1)) 47 [] = some (.agg [.int .i64 0, .int .i64 9]) := by
  rw [p47]; simp only [go_sem, Nat.reduceAdd, Nat.reduceSub, Nat.reduceMul, Nat.reduceDiv, Nat.reduceMod, Nat.reduceLeDiff, Nat.reduceBEq, Int.reduceToNat, Int.reduceLT, Int.reduceLE, Int.reduceEq]
end Go.Vm.P12

/- Chapter 12, functions: copies, lists made of lists, the errors of lines and spans. -/
set_option maxRecDepth 100000
namespace Go.Vm.P12
open Go Go.Vm
structure Ln where
  nl : Bool
  co : List Int
  c : Int
structure Sp where
  lo : Int
  hi : Int
deriving DecidableEq
def enL (x : Ln) : List D := [slD x.nl 1 (x.co.map ic), .int .i64 x.c]
def enS (x : Sp) : List D := [.int .i64 x.lo, .int .i64 x.hi]
attribute [go_sem] enL enS
def clV (b : Bool) (sz : Nat) (es : List (List D)) : AV := match b, es with | true, [] => .imm .nil | false, [] => .e0 sz | _, es => .ref 0 sz 0 es.length
def clO (sz : Nat) (es : List (List D)) : List AO := match es with | [] => [] | es => [.arr sz es]
theorem ok104 (n : Nat) (b : Bool) (es : List (List D)) (h : es.length < 1000000000) : callI (level E (n+1)) 104 [slD b 1 es] = some (clV b 1 es, clO 1 es) := by
  rw [i104]
  cases es with
  | nil => cases b <;> simp only [slD] <;> simp only [go_sem, Nat.reduceAdd, Nat.reduceSub, Nat.reduceMul, Nat.reduceDiv, Nat.reduceMod, Nat.reduceLeDiff, Nat.reduceBEq, Int.reduceToNat, Int.reduceLT, Int.reduceLE, Int.reduceEq, clV, clO]
  | cons x es =>
    have h2 : (es.length + 1) * 9 ≤ 70368744177664 := by simp at h; omega
    rw [slD_cons]
    simp only [go_sem, Nat.reduceAdd, Nat.reduceSub, Nat.reduceMul, Nat.reduceDiv, Nat.reduceMod, Nat.reduceLeDiff, Nat.reduceBEq, Int.reduceToNat, Int.reduceLT, Int.reduceLE, Int.reduceEq, clV, clO, h2]
theorem ok72 (n : Nat) (b : Bool) (es : List (List D)) (h : es.length < 1000000000) : callI (level E (n+1)) 72 [slD b 2 es] = some (clV b 2 es, clO 2 es) := by
  rw [i72]
  cases es with
  | nil => cases b <;> simp only [slD] <;> simp only [go_sem, Nat.reduceAdd, Nat.reduceSub, Nat.reduceMul, Nat.reduceDiv, Nat.reduceMod, Nat.reduceLeDiff, Nat.reduceBEq, Int.reduceToNat, Int.reduceLT, Int.reduceLE, Int.reduceEq, clV, clO]
  | cons x es =>
    have h2 : (es.length + 1) * 33 ≤ 70368744177664 := by simp at h; omega
    rw [slD_cons]
    simp only [go_sem, Nat.reduceAdd, Nat.reduceSub, Nat.reduceMul, Nat.reduceDiv, Nat.reduceMod, Nat.reduceLeDiff, Nat.reduceBEq, Int.reduceToNat, Int.reduceLT, Int.reduceLE, Int.reduceEq, clV, clO, h2]
theorem ok101 (n : Nat) (b : Bool) (es : List (List D)) (h : es.length < 1000000000) : callI (level E (n+1)) 101 [slD b 2 es] = some (clV b 2 es, clO 2 es) := by
  rw [i101]
  cases es with
  | nil => cases b <;> simp only [slD] <;> simp only [go_sem, Nat.reduceAdd, Nat.reduceSub, Nat.reduceMul, Nat.reduceDiv, Nat.reduceMod, Nat.reduceLeDiff, Nat.reduceBEq, Int.reduceToNat, Int.reduceLT, Int.reduceLE, Int.reduceEq, clV, clO]
  | cons x es =>
    have h2 : (es.length + 1) * 17 ≤ 70368744177664 := by simp at h; omega
    rw [slD_cons]
    simp only [go_sem, Nat.reduceAdd, Nat.reduceSub, Nat.reduceMul, Nat.reduceDiv, Nat.reduceMod, Nat.reduceLeDiff, Nat.reduceBEq, Int.reduceToNat, Int.reduceLT, Int.reduceLE, Int.reduceEq, clV, clO, h2]
def vO (sz : Nat) (acc : List (List D)) : AV := match acc with | [] => .imm .nil | _ => .ref 0 sz 0 acc.length
def sO (sz : Nat) (acc : List (List D)) : List AO := match acc with | [] => [] | _ => [.arr sz acc]
theorem l73 {n : Nat} {b : Bool} {l : List Ln} {g : FuncId} {cs : List D} {φ : Ln → Int} (H : ∀ x ∈ l, callP (level E n) g (.agg (enL x) :: cs) = some (.int .i64 (φ x))) (hl : l.length < 1000000000) : ∀ (r : List Ln) (i : Nat) (acc : List (List D)), l.drop i = r → acc.length = i →
    outC ⟨0, false⟩ [0, 0, 0, 1, 0, 0, 0, 0, 0] (rnd (aCode (level E n) ⟨0, false⟩ b73_0) (head ⟨0, false⟩ [0, 1, 0, 1, 0, 1, 1, 1, 0]) ⟨[.junk, .imm (.fn g [] cs), .junk, vO 1 acc, .junk, .imm (slD b 2 (l.map enL)), .imm (.int .i64 l.length), .imm (.int .i64 i), .junk], sO 1 acc, none⟩) =
      some (.exit 0, ⟨[.junk, .junk, .junk, vO 1 (acc ++ r.map fun x => ic (φ x)), .junk, .junk, .junk, .junk, .junk], sO 1 (acc ++ r.map fun x => ic (φ x)), none⟩)
  | [], i, acc, h, ha => by
    rw [rnd_eq]
    cases acc <;> simp only [go_sem, Nat.reduceAdd, Nat.reduceSub, Nat.reduceMul, Nat.reduceDiv, Nat.reduceMod, Nat.reduceLeDiff, Nat.reduceBEq, Int.reduceToNat, Int.reduceLT, Int.reduceLE, Int.reduceEq, lt_f (drop_n h), vO, sO]
  | x :: r, i, acc, h, ha => by
    obtain ⟨h1, h2, h3⟩ := drop_c h
    have IH := l73 (b := b) H hl r (i + 1) (acc ++ [ic (φ x)]) h3 (by simp [ha])
    have H' := H x (List.mem_of_getElem? h1)
    have h6 := wrpS (i := i) (by omega)
    have h5 : (acc.length + 1) * 9 ≤ 70368744177664 := by omega
    simp only [go_sem, Nat.reduceAdd, Nat.reduceSub, Nat.reduceMul, Nat.reduceDiv, Nat.reduceMod, Nat.reduceLeDiff, Nat.reduceBEq, Int.reduceToNat, Int.reduceLT, Int.reduceLE, Int.reduceEq] at H' IH
    rw [rnd_eq]
    cases acc with
    | nil =>
      simp only [go_sem, Nat.reduceAdd, Nat.reduceSub, Nat.reduceMul, Nat.reduceDiv, Nat.reduceMod, Nat.reduceLeDiff, Nat.reduceBEq, Int.reduceToNat, Int.reduceLT, Int.reduceLE, Int.reduceEq, vO, sO] at IH
      simp only [go_sem, Nat.reduceAdd, Nat.reduceSub, Nat.reduceMul, Nat.reduceDiv, Nat.reduceMod, Nat.reduceLeDiff, Nat.reduceBEq, Int.reduceToNat, Int.reduceLT, Int.reduceLE, Int.reduceEq, lt_t h2, h1, H', vO, sO, h6]
      exact IH
    | cons y acc =>
      simp only [go_sem, Nat.reduceAdd, Nat.reduceSub, Nat.reduceMul, Nat.reduceDiv, Nat.reduceMod, Nat.reduceLeDiff, Nat.reduceBEq, Int.reduceToNat, Int.reduceLT, Int.reduceLE, Int.reduceEq, vO, sO, List.append_assoc] at h5 IH
      simp only [go_sem, Nat.reduceAdd, Nat.reduceSub, Nat.reduceMul, Nat.reduceDiv, Nat.reduceMod, Nat.reduceLeDiff, Nat.reduceBEq, Int.reduceToNat, Int.reduceLT, Int.reduceLE, Int.reduceEq, lt_t h2, h1, H', vO, sO, h5, Nat.le_refl, h6]
      exact IH
theorem ok73 (n : Nat) (b : Bool) (l : List Ln) (g : FuncId) (cs : List D) (φ : Ln → Int) (H : ∀ x ∈ l, callP (level E n) g (.agg (enL x) :: cs) = some (.int .i64 (φ x))) (hl : l.length < 1000000000) :
    callP (level E (n+1)) 73 [slD b 2 (l.map enL), .fn g [] cs] = some (slD true 1 ((l.map φ).map ic)) := by
  rw [p73]
  have h := l73 (b := b) H hl l 0 []
  rw [cast0] at h
  have h' := h rfl rfl
  simp only [go_sem, Nat.reduceAdd, Nat.reduceSub, Nat.reduceMul, Nat.reduceDiv, Nat.reduceMod, Nat.reduceLeDiff, Nat.reduceBEq, Int.reduceToNat, Int.reduceLT, Int.reduceLE, Int.reduceEq, vO, sO] at h'
  simp only [go_sem, Nat.reduceAdd, Nat.reduceSub, Nat.reduceMul, Nat.reduceDiv, Nat.reduceMod, Nat.reduceLeDiff, Nat.reduceBEq, Int.reduceToNat, Int.reduceLT, Int.reduceLE, Int.reduceEq]
  rw [h']
  have e : (l.map fun x => ic (φ x)) = (l.map φ).map ic := by rw [List.map_map]; rfl
  cases l with
  | nil => simp only [go_sem, Nat.reduceAdd, Nat.reduceSub, Nat.reduceMul, Nat.reduceDiv, Nat.reduceMod, Nat.reduceLeDiff, Nat.reduceBEq, Int.reduceToNat, Int.reduceLT, Int.reduceLE, Int.reduceEq, slD]
  | cons x l => simp only [go_sem, Nat.reduceAdd, Nat.reduceSub, Nat.reduceMul, Nat.reduceDiv, Nat.reduceMod, Nat.reduceLeDiff, Nat.reduceBEq, Int.reduceToNat, Int.reduceLT, Int.reduceLE, Int.reduceEq, slD, List.map_map, Function.comp_def, Nat.zero_add, Nat.le_refl]
theorem l85 {n : Nat} {b : Bool} {l : List Sp} {g : FuncId} {cs : List D} {φ : Sp → Int} (H : ∀ x ∈ l, callP (level E n) g (.agg (enS x) :: cs) = some (.int .i64 (φ x))) (hl : l.length < 1000000000) : ∀ (r : List Sp) (i : Nat) (acc : List (List D)), l.drop i = r → acc.length = i →
    outC ⟨0, false⟩ [0, 0, 0, 1, 0, 0, 0, 0, 0] (rnd (aCode (level E n) ⟨0, false⟩ b85_0) (head ⟨0, false⟩ [0, 1, 0, 1, 0, 1, 1, 1, 0]) ⟨[.junk, .imm (.fn g [] cs), .junk, vO 1 acc, .junk, .imm (slD b 2 (l.map enS)), .imm (.int .i64 l.length), .imm (.int .i64 i), .junk], sO 1 acc, none⟩) =
      some (.exit 0, ⟨[.junk, .junk, .junk, vO 1 (acc ++ r.map fun x => ic (φ x)), .junk, .junk, .junk, .junk, .junk], sO 1 (acc ++ r.map fun x => ic (φ x)), none⟩)
  | [], i, acc, h, ha => by
    rw [rnd_eq]
    cases acc <;> simp only [go_sem, Nat.reduceAdd, Nat.reduceSub, Nat.reduceMul, Nat.reduceDiv, Nat.reduceMod, Nat.reduceLeDiff, Nat.reduceBEq, Int.reduceToNat, Int.reduceLT, Int.reduceLE, Int.reduceEq, lt_f (drop_n h), vO, sO]
  | x :: r, i, acc, h, ha => by
    obtain ⟨h1, h2, h3⟩ := drop_c h
    have IH := l85 (b := b) H hl r (i + 1) (acc ++ [ic (φ x)]) h3 (by simp [ha])
    have H' := H x (List.mem_of_getElem? h1)
    have h6 := wrpS (i := i) (by omega)
    have h5 : (acc.length + 1) * 9 ≤ 70368744177664 := by omega
    simp only [go_sem, Nat.reduceAdd, Nat.reduceSub, Nat.reduceMul, Nat.reduceDiv, Nat.reduceMod, Nat.reduceLeDiff, Nat.reduceBEq, Int.reduceToNat, Int.reduceLT, Int.reduceLE, Int.reduceEq] at H' IH
    rw [rnd_eq]
    cases acc with
    | nil =>
      simp only [go_sem, Nat.reduceAdd, Nat.reduceSub, Nat.reduceMul, Nat.reduceDiv, Nat.reduceMod, Nat.reduceLeDiff, Nat.reduceBEq, Int.reduceToNat, Int.reduceLT, Int.reduceLE, Int.reduceEq, vO, sO] at IH
      simp only [go_sem, Nat.reduceAdd, Nat.reduceSub, Nat.reduceMul, Nat.reduceDiv, Nat.reduceMod, Nat.reduceLeDiff, Nat.reduceBEq, Int.reduceToNat, Int.reduceLT, Int.reduceLE, Int.reduceEq, lt_t h2, h1, H', vO, sO, h6]
      exact IH
    | cons y acc =>
      simp only [go_sem, Nat.reduceAdd, Nat.reduceSub, Nat.reduceMul, Nat.reduceDiv, Nat.reduceMod, Nat.reduceLeDiff, Nat.reduceBEq, Int.reduceToNat, Int.reduceLT, Int.reduceLE, Int.reduceEq, vO, sO, List.append_assoc] at h5 IH
      simp only [go_sem, Nat.reduceAdd, Nat.reduceSub, Nat.reduceMul, Nat.reduceDiv, Nat.reduceMod, Nat.reduceLeDiff, Nat.reduceBEq, Int.reduceToNat, Int.reduceLT, Int.reduceLE, Int.reduceEq, lt_t h2, h1, H', vO, sO, h5, Nat.le_refl, h6]
      exact IH
theorem ok85 (n : Nat) (b : Bool) (l : List Sp) (g : FuncId) (cs : List D) (φ : Sp → Int) (H : ∀ x ∈ l, callP (level E n) g (.agg (enS x) :: cs) = some (.int .i64 (φ x))) (hl : l.length < 1000000000) :
    callP (level E (n+1)) 85 [slD b 2 (l.map enS), .fn g [] cs] = some (slD true 1 ((l.map φ).map ic)) := by
  rw [p85]
  have h := l85 (b := b) H hl l 0 []
  rw [cast0] at h
  have h' := h rfl rfl
  simp only [go_sem, Nat.reduceAdd, Nat.reduceSub, Nat.reduceMul, Nat.reduceDiv, Nat.reduceMod, Nat.reduceLeDiff, Nat.reduceBEq, Int.reduceToNat, Int.reduceLT, Int.reduceLE, Int.reduceEq, vO, sO] at h'
  simp only [go_sem, Nat.reduceAdd, Nat.reduceSub, Nat.reduceMul, Nat.reduceDiv, Nat.reduceMod, Nat.reduceLeDiff, Nat.reduceBEq, Int.reduceToNat, Int.reduceLT, Int.reduceLE, Int.reduceEq]
  rw [h']
  have e : (l.map fun x => ic (φ x)) = (l.map φ).map ic := by rw [List.map_map]; rfl
  cases l with
  | nil => simp only [go_sem, Nat.reduceAdd, Nat.reduceSub, Nat.reduceMul, Nat.reduceDiv, Nat.reduceMod, Nat.reduceLeDiff, Nat.reduceBEq, Int.reduceToNat, Int.reduceLT, Int.reduceLE, Int.reduceEq, slD]
  | cons x l => simp only [go_sem, Nat.reduceAdd, Nat.reduceSub, Nat.reduceMul, Nat.reduceDiv, Nat.reduceMod, Nat.reduceLeDiff, Nat.reduceBEq, Int.reduceToNat, Int.reduceLT, Int.reduceLE, Int.reduceEq, slD, List.map_map, Function.comp_def, Nat.zero_add, Nat.le_refl]
theorem l123 {n : Nat} {b : Bool} {l : List Int} {g : FuncId} {cs : List D} {φ : Int → Int} (H : ∀ x ∈ l, callP (level E n) g (.int .i64 x :: cs) = some (.int .i64 (φ x))) (hl : l.length < 1000000000) : ∀ (r : List Int) (i : Nat) (acc : List (List D)), l.drop i = r → acc.length = i →
    outC ⟨0, false⟩ [0, 0, 0, 1, 0, 0, 0, 0, 0] (rnd (aCode (level E n) ⟨0, false⟩ b123_0) (head ⟨0, false⟩ [0, 1, 0, 1, 0, 1, 1, 1, 0]) ⟨[.junk, .imm (.fn g [] cs), .junk, vO 1 acc, .junk, .imm (slD b 1 (l.map ic)), .imm (.int .i64 l.length), .imm (.int .i64 i), .junk], sO 1 acc, none⟩) =
      some (.exit 0, ⟨[.junk, .junk, .junk, vO 1 (acc ++ r.map fun x => ic (φ x)), .junk, .junk, .junk, .junk, .junk], sO 1 (acc ++ r.map fun x => ic (φ x)), none⟩)
  | [], i, acc, h, ha => by
    rw [rnd_eq]
    cases acc <;> simp only [go_sem, Nat.reduceAdd, Nat.reduceSub, Nat.reduceMul, Nat.reduceDiv, Nat.reduceMod, Nat.reduceLeDiff, Nat.reduceBEq, Int.reduceToNat, Int.reduceLT, Int.reduceLE, Int.reduceEq, lt_f (drop_n h), vO, sO]
  | x :: r, i, acc, h, ha => by
    obtain ⟨h1, h2, h3⟩ := drop_c h
    have IH := l123 (b := b) H hl r (i + 1) (acc ++ [ic (φ x)]) h3 (by simp [ha])
    have H' := H x (List.mem_of_getElem? h1)
    have h6 := wrpS (i := i) (by omega)
    have h5 : (acc.length + 1) * 9 ≤ 70368744177664 := by omega
    simp only [go_sem, Nat.reduceAdd, Nat.reduceSub, Nat.reduceMul, Nat.reduceDiv, Nat.reduceMod, Nat.reduceLeDiff, Nat.reduceBEq, Int.reduceToNat, Int.reduceLT, Int.reduceLE, Int.reduceEq] at H' IH
    rw [rnd_eq]
    cases acc with
    | nil =>
      simp only [go_sem, Nat.reduceAdd, Nat.reduceSub, Nat.reduceMul, Nat.reduceDiv, Nat.reduceMod, Nat.reduceLeDiff, Nat.reduceBEq, Int.reduceToNat, Int.reduceLT, Int.reduceLE, Int.reduceEq, vO, sO] at IH
      simp only [go_sem, Nat.reduceAdd, Nat.reduceSub, Nat.reduceMul, Nat.reduceDiv, Nat.reduceMod, Nat.reduceLeDiff, Nat.reduceBEq, Int.reduceToNat, Int.reduceLT, Int.reduceLE, Int.reduceEq, lt_t h2, h1, H', vO, sO, h6]
      exact IH
    | cons y acc =>
      simp only [go_sem, Nat.reduceAdd, Nat.reduceSub, Nat.reduceMul, Nat.reduceDiv, Nat.reduceMod, Nat.reduceLeDiff, Nat.reduceBEq, Int.reduceToNat, Int.reduceLT, Int.reduceLE, Int.reduceEq, vO, sO, List.append_assoc] at h5 IH
      simp only [go_sem, Nat.reduceAdd, Nat.reduceSub, Nat.reduceMul, Nat.reduceDiv, Nat.reduceMod, Nat.reduceLeDiff, Nat.reduceBEq, Int.reduceToNat, Int.reduceLT, Int.reduceLE, Int.reduceEq, lt_t h2, h1, H', vO, sO, h5, Nat.le_refl, h6]
      exact IH
theorem ok123 (n : Nat) (b : Bool) (l : List Int) (g : FuncId) (cs : List D) (φ : Int → Int) (H : ∀ x ∈ l, callP (level E n) g (.int .i64 x :: cs) = some (.int .i64 (φ x))) (hl : l.length < 1000000000) :
    callP (level E (n+1)) 123 [slD b 1 (l.map ic), .fn g [] cs] = some (slD true 1 ((l.map φ).map ic)) := by
  rw [p123]
  have h := l123 (b := b) H hl l 0 []
  rw [cast0] at h
  have h' := h rfl rfl
  simp only [go_sem, Nat.reduceAdd, Nat.reduceSub, Nat.reduceMul, Nat.reduceDiv, Nat.reduceMod, Nat.reduceLeDiff, Nat.reduceBEq, Int.reduceToNat, Int.reduceLT, Int.reduceLE, Int.reduceEq, vO, sO] at h'
  simp only [go_sem, Nat.reduceAdd, Nat.reduceSub, Nat.reduceMul, Nat.reduceDiv, Nat.reduceMod, Nat.reduceLeDiff, Nat.reduceBEq, Int.reduceToNat, Int.reduceLT, Int.reduceLE, Int.reduceEq]
  rw [h']
  have e : (l.map fun x => ic (φ x)) = (l.map φ).map ic := by rw [List.map_map]; rfl
  cases l with
  | nil => simp only [go_sem, Nat.reduceAdd, Nat.reduceSub, Nat.reduceMul, Nat.reduceDiv, Nat.reduceMod, Nat.reduceLeDiff, Nat.reduceBEq, Int.reduceToNat, Int.reduceLT, Int.reduceLE, Int.reduceEq, slD]
  | cons x l => simp only [go_sem, Nat.reduceAdd, Nat.reduceSub, Nat.reduceMul, Nat.reduceDiv, Nat.reduceMod, Nat.reduceLeDiff, Nat.reduceBEq, Int.reduceToNat, Int.reduceLT, Int.reduceLE, Int.reduceEq, slD, List.map_map, Function.comp_def, Nat.zero_add, Nat.le_refl]
end Go.Vm.P12

/- Chapter 12, functions: the errors of lines, spans and claims. -/
set_option maxRecDepth 100000
namespace Go.Vm.P12
open Go Go.Vm
def lnErr (x : Ln) (vars : Int) : Int :=
  fnz [if decide ((x.co.length : Int) ≠ vars) then 2 else 0, if x.co.any (fun c => offB c (-1048576) 1048576) || offB x.c (-1099511627776) 1099511627776 then 3 else 0]
theorem ok68 (n : Nat) (x : Ln) (vars : Int) (h : x.co.length < 1000000000) : callP (level E (n+5)) 68 [.agg (enL x), .int .i64 vars] = some (.int .i64 (lnErr x vars)) := by
  have h67 := ok67 (n+2) x.nl x.co 92 [] _ (fun c _ => ok92 n c) h
  rw [p68]
  cases h0 : x.co.any (fun c => offB c (-1048576) 1048576)
  · simp only [go_sem, Nat.reduceAdd, Nat.reduceSub, Nat.reduceMul, Nat.reduceDiv, Nat.reduceMod, Nat.reduceLeDiff, Nat.reduceBEq, Int.reduceToNat, Int.reduceLT, Int.reduceLE, Int.reduceEq, ok58, ok59, h67, h0, ok57_2, lnErr]
  · simp only [go_sem, Nat.reduceAdd, Nat.reduceSub, Nat.reduceMul, Nat.reduceDiv, Nat.reduceMod, Nat.reduceLeDiff, Nat.reduceBEq, Int.reduceToNat, Int.reduceLT, Int.reduceLE, Int.reduceEq, ok58, ok59, h67, h0, ok57_2, lnErr]
def spErr1 (x : Sp) : Int := fnz [if offB x.lo (-1048576) 1048576 || offB x.hi (-1048576) 1048576 then 3 else 0, if decide (x.hi < x.lo) then 9 else 0]
def spErr (l : List Sp) : Int := if 6 < l.length then 5 else fnz (l.map spErr1)
theorem l71 {n : Nat} {b : Bool} {l : List Sp} (hl : l.length < 1000000000) : ∀ (r : List Sp) (i : Nat), l.drop i = r →
    outC ⟨0, false⟩ [0, 1, 0, 0, 0, 0, 0, 0, 0, 0, 0] (rnd (aCode (level E (n+2)) ⟨0, false⟩ b71_0) (head ⟨0, false⟩ [0, 0, 0, 0, 0, 0, 1, 1, 1, 0, 0]) ⟨[.junk, .junk, .junk, .junk, .junk, .junk, .imm (slD b 2 (l.map enS)), .imm (.int .i64 l.length), .imm (.int .i64 i), .junk, .junk], [], none⟩) =
      some (if fnz (r.map spErr1) = 0 then (.exit 0, ⟨[.junk, .junk, .junk, .junk, .junk, .junk, .junk, .junk, .junk, .junk, .junk], [], none⟩) else (.ret, ⟨[.junk, .imm (.int .i64 (fnz (r.map spErr1))), .junk, .junk, .junk, .junk, .junk, .junk, .junk, .junk, .junk], [], none⟩))
  | [], i, h => by
    rw [rnd_eq]
    simp only [go_sem, Nat.reduceAdd, Nat.reduceSub, Nat.reduceMul, Nat.reduceDiv, Nat.reduceMod, Nat.reduceLeDiff, Nat.reduceBEq, Int.reduceToNat, Int.reduceLT, Int.reduceLE, Int.reduceEq, lt_f (drop_n h), fnz]
  | x :: r, i, h => by
    obtain ⟨h1, h2, h3⟩ := drop_c h
    have IH := l71 (n := n) (b := b) hl r (i + 1) h3
    have h6 := wrpS (i := i) (by omega)
    have hs : fnz [if offB x.lo (-1048576) 1048576 || offB x.hi (-1048576) 1048576 then 3 else 0, if decide (x.hi < x.lo) then 9 else 0] = spErr1 x := rfl
    rw [rnd_eq, List.map_cons, fnz_cons]
    cases h7 : offB x.lo (-1048576) 1048576 <;> simp only [h7, Bool.false_or, Bool.true_or, if_true] at hs <;> (by_cases h0 : spErr1 x = 0) <;>
      simp only [go_sem, Nat.reduceAdd, Nat.reduceSub, Nat.reduceMul, Nat.reduceDiv, Nat.reduceMod, Nat.reduceLeDiff, Nat.reduceBEq, Int.reduceToNat, Int.reduceLT, Int.reduceLE, Int.reduceEq, lt_t h2, h1, ok58, ok59, ok57_2, h7, hs, h0, ne_eq, not_true_eq_false, not_false_eq_true, h6]
    · exact IH
    · exact IH
theorem ok71 (n : Nat) (b : Bool) (l : List Sp) (hl : l.length < 1000000000) : callP (level E (n+3)) 71 [slD b 2 (l.map enS)] = some (.int .i64 (spErr l)) := by
  rw [p71]
  have h := l71 (n := n) (b := b) hl l 0 rfl
  rw [cast0] at h
  by_cases h5 : 6 < l.length
  · have h5' : (6 : Int) < l.length := by omega
    simp only [go_sem, Nat.reduceAdd, Nat.reduceSub, Nat.reduceMul, Nat.reduceDiv, Nat.reduceMod, Nat.reduceLeDiff, Nat.reduceBEq, Int.reduceToNat, Int.reduceLT, Int.reduceLE, Int.reduceEq, h5', spErr, h5]
  · have h5' : ¬ (6 : Int) < l.length := by omega
    simp only [go_sem, Nat.reduceAdd, Nat.reduceSub, Nat.reduceMul, Nat.reduceDiv, Nat.reduceMod, Nat.reduceLeDiff, Nat.reduceBEq, Int.reduceToNat, Int.reduceLT, Int.reduceLE, Int.reduceEq, h5', spErr, h5]
    rw [h]
    by_cases h0 : fnz (l.map spErr1) = 0 <;> simp only [go_sem, Nat.reduceAdd, Nat.reduceSub, Nat.reduceMul, Nat.reduceDiv, Nat.reduceMod, Nat.reduceLeDiff, Nat.reduceBEq, Int.reduceToNat, Int.reduceLT, Int.reduceLE, Int.reduceEq, h0]
theorem ok74 (n : Nat) (x : Ln) (b : Bool) (es : List (List D)) (r : List D) (h : x.co.length < 1000000000) : callP (level E (n+6)) 74 [.agg (enL x), .ptr (slD b 2 es :: r)] = some (.int .i64 (lnErr x es.length)) := by
  have h68 := ok68 n x es.length h
  simp only [go_sem, Nat.reduceAdd, Nat.reduceSub, Nat.reduceMul, Nat.reduceDiv, Nat.reduceMod, Nat.reduceLeDiff, Nat.reduceBEq, Int.reduceToNat, Int.reduceLT, Int.reduceLE, Int.reduceEq] at h68
  rw [p74]
  simp only [go_sem, Nat.reduceAdd, Nat.reduceSub, Nat.reduceMul, Nat.reduceDiv, Nat.reduceMod, Nat.reduceLeDiff, Nat.reduceBEq, Int.reduceToNat, Int.reduceLT, Int.reduceLE, Int.reduceEq, h68]
structure Cl where
  sn : Bool
  sp : List Sp
  gn : Bool
  gv : List Ln
  go : Ln
def enC (c : Cl) : List D := [slD c.sn 2 (c.sp.map enS), slD c.gn 2 (c.gv.map enL), slD c.go.nl 1 (c.go.co.map ic), .int .i64 c.go.c]
attribute [go_sem] enC
structure Cl.Fit (c : Cl) : Prop where
  sp : c.sp.length < 1000000000
  gv : c.gv.length + 1 < 1000000000
  ln : ∀ x ∈ c.gv, x.co.length < 1000000000
  go : c.go.co.length < 1000000000
def clE0 (sp : List Sp) (gv : List Ln) : Int := fnz [spErr sp, if decide ((12 : Int) < gv.length) then 5 else 0]
def clErr (c : Cl) : Int :=
  if clE0 c.sp c.gv = 0 then fnz ((c.gv ++ [c.go]).map fun l => lnErr l c.sp.length) else clE0 c.sp c.gv
theorem ok28 (n : Nat) (c : Cl) (h : c.Fit) : callP (level E (n+8)) 28 [.agg (enC c)] = some (.int .i64 (clErr c)) := by
  obtain ⟨sn, sp, gn, gv, go⟩ := c
  have h71 := ok71 (n+4) sn sp h.sp
  have H : ∀ x ∈ gv ++ [go], callP (level E (n+6)) 74 [.agg (enL x), .ptr (slD sn 2 (sp.map enS) :: [slD gn 2 (gv.map enL), slD go.nl 1 (go.co.map ic), .int .i64 go.c])] = some (.int .i64 (lnErr x sp.length)) := fun x hx => by
    rw [ok74 n x sn _ _ (by
      rcases List.mem_append.1 hx with hx | hx
      · exact h.ln x hx
      · simp at hx; subst hx; exact h.go), List.length_map]
  have h73 := ok73 (n+6) false (gv ++ [go]) 74 [.ptr (slD sn 2 (sp.map enS) :: [slD gn 2 (gv.map enL), slD go.nl 1 (go.co.map ic), .int .i64 go.c])] _ H (by simpa using h.gv)
  have h72 := ok72 (n+6) gn (gv.map enL) (by have := h.gv; simp at this ⊢; omega)
  have h57 := ok57 (n+6) true ((gv ++ [go]).map fun x => lnErr x sp.length) (by have := h.gv; simp at this ⊢; omega)
  have hs : fnz [spErr sp, if decide ((12 : Int) < gv.length) then 5 else 0] = clE0 sp gv := rfl
  rw [p28]
  by_cases h0 : clE0 sp gv = 0
  · have hg := h.gv
    cases gv with
    | nil =>
      simp only [go_sem, Nat.reduceAdd, Nat.reduceSub, Nat.reduceMul, Nat.reduceDiv, Nat.reduceMod, Nat.reduceLeDiff, Nat.reduceBEq, Int.reduceToNat, Int.reduceLT, Int.reduceLE, Int.reduceEq, slD_f, slD_cons] at h73 h57 hs
      cases gn <;> simp only [go_sem, Nat.reduceAdd, Nat.reduceSub, Nat.reduceMul, Nat.reduceDiv, Nat.reduceMod, Nat.reduceLeDiff, Nat.reduceBEq, Int.reduceToNat, Int.reduceLT, Int.reduceLE, Int.reduceEq, slD_nil, slD_f] at h73 h72 <;> simp only [go_sem, Nat.reduceAdd, Nat.reduceSub, Nat.reduceMul, Nat.reduceDiv, Nat.reduceMod, Nat.reduceLeDiff, Nat.reduceBEq, Int.reduceToNat, Int.reduceLT, Int.reduceLE, Int.reduceEq, h71, ok58, ok57_2, hs, h0, ne_eq, not_true_eq_false, h72, clV, clO, slD_nil, slD_f, slD_cons, h73, h57, fl_sl, fl_int, clErr]
    | cons y gv =>
      have h8 : (gv.length + 1 + 1) * 33 ≤ 70368744177664 := by simp at hg; omega
      simp only [go_sem, Nat.reduceAdd, Nat.reduceSub, Nat.reduceMul, Nat.reduceDiv, Nat.reduceMod, Nat.reduceLeDiff, Nat.reduceBEq, Int.reduceToNat, Int.reduceLT, Int.reduceLE, Int.reduceEq, slD_f, slD_cons] at h73 h57 hs h72
      simp only [go_sem, Nat.reduceAdd, Nat.reduceSub, Nat.reduceMul, Nat.reduceDiv, Nat.reduceMod, Nat.reduceLeDiff, Nat.reduceBEq, Int.reduceToNat, Int.reduceLT, Int.reduceLE, Int.reduceEq, h71, ok58, ok57_2, hs, h0, ne_eq, not_true_eq_false, h72, clV, clO, slD_nil, slD_f, slD_cons, Nat.le_refl, h8, h73, h57, fl_sl, fl_int, clErr]
  · simp only [go_sem, Nat.reduceAdd, Nat.reduceSub, Nat.reduceMul, Nat.reduceDiv, Nat.reduceMod, Nat.reduceLeDiff, Nat.reduceBEq, Int.reduceToNat, Int.reduceLT, Int.reduceLE, Int.reduceEq, h71, ok58, ok57_2, hs, h0, ne_eq, not_false_eq_true, clErr]
end Go.Vm.P12

/- Chapter 12: what the law's arguments hold, as plain data. -/
set_option maxRecDepth 100000
namespace Go.Vm.P12
open Go Go.Vm Go.Proofs Go.ChangeShapes
def Old (W : World) (b : Nat) : Prop := b < W.heap.size
theorem list_of {α : Type} {Q : Nat → α → Prop} : ∀ n : Nat, (∀ i, i < n → ∃ a, Q i a) → ∃ l : List α, l.length = n ∧ ∀ i a, l[i]? = some a → Q i a
  | 0, _ => ⟨[], rfl, fun i a h => by simp at h⟩
  | n + 1, h => by
    obtain ⟨l, hl, hq⟩ := list_of n fun i hi => h i (by omega)
    obtain ⟨a, ha⟩ := h n (by omega)
    refine ⟨l ++ [a], by simp [hl], fun i b hb => ?_⟩
    by_cases hi : i < n
    · rw [List.getElem?_append_left (by omega)] at hb; exact hq i b hb
    · have hlt := (List.getElem?_eq_some_iff.1 hb).1
      have e : i = n := by simp at hlt; omega
      subst e
      rw [List.getElem?_append_right (by omega), hl, Nat.sub_self] at hb
      simp at hb; subst hb; exact ha
section
variable {H : Type} {enc : TypeId × Value → H} {P : Program} {W : World} {sp : Nat → Bool} {held : Bool}
def Holds (W : World) (ds : List D) (cs : List Value) : Prop := cs.length = ds.length ∧ ∀ (j : Nat) d, ds[j]? = some d → ∃ c, cs[j]? = some c ∧ c.oneCell' = true ∧ RepD (Old W) W d c
theorem rd_slice {t e : TypeId} {α : Type} {en : α → List D} {sz : Nat} (ht : P.underlying t = some (.slice e)) (hsz : P.cellsOf e = sz) (hs0 : 0 < sz)
    (hel : ∀ n cs x, DataW.trod enc P W 0 sp held n e cs = some x → ∃ a : α, (en a).length = sz ∧ Holds W (en a) cs)
    {n : Nat} {cs : List Value} {x : DataW H × List MemPlace} (h : DataW.trod enc P W 0 sp held n t cs = some x) : ∃ (b : Bool) (l : List α), Holds W [slD b sz (l.map en)] cs := by
  rcases DataW.trod_slice ht h with ⟨rfl, _⟩ | ⟨a, len, cap, elems, rest, n', rfl, rfl, _, _, hlc, _, hlen, hE, _, _⟩
  · refine ⟨true, [], rfl, fun j d hj => ?_⟩
    have e0 : j = 0 := by have := (List.getElem?_eq_some_iff.1 hj).1; simp at this; omega
    subst e0
    simp only [List.getElem?_cons_zero, Option.some.injEq] at hj
    subst hj
    exact ⟨_, rfl, rfl, .nil⟩
  · have hspot : 0 < len → a.spot = none := by
      intro h0
      have hb := hE 0 h0
      rw [List.getElem?_eq_getElem (by omega), hsz] at hb
      obtain ⟨cs, hcs, htr⟩ := Option.bind_eq_some_iff.1 hb
      obtain ⟨y, hy, hl, hh⟩ := hel _ _ _ htr
      have hj0 : 0 < (en y).length := by omega
      obtain ⟨c, hc, _, _⟩ := hh 0 _ (List.getElem?_eq_getElem hj0)
      have hcell := (World.cells?_some hcs).2.2 0 hs0
      rw [hc] at hcell
      have := World.cell?_spot hcell
      simpa [Addr.add] using this
    have key : ∀ i, i < len → ∃ y : α, (en y).length = sz ∧ ∀ j d, (en y)[j]? = some d → ∃ c, W.cell? ⟨a.block, a.off + (i * sz + j), none⟩ = some c ∧ c.oneCell' = true ∧ RepD (Old W) W d c ∧ a.spot = none ∧ a.block < W.heap.size := by
      intro i hi
      have hb := hE i hi
      rw [List.getElem?_eq_getElem (by omega), hsz] at hb
      obtain ⟨cs, hcs, htr⟩ := Option.bind_eq_some_iff.1 hb
      obtain ⟨y, hy, hl, hh⟩ := hel _ _ _ htr
      refine ⟨y, hy, fun j d hj => ?_⟩
      obtain ⟨c, hc, h1, h2⟩ := hh j d hj
      have hjs : j < sz := by have := (List.getElem?_eq_some_iff.1 hj).1; omega
      have hcell := (World.cells?_some hcs).2.2 j hjs
      rw [hc] at hcell
      have hbl := World.cells?_block hcs hs0
      have hsp' : a.spot = none := hspot (by omega)
      have hblk : a.block < W.heap.size := by
        have : (a.add (i * sz)).block = a.block := block_add a _
        omega
      refine ⟨c, ?_, h1, h2, hsp', hblk⟩
      obtain ⟨bb, oo, ss⟩ := a
      simp only at hsp'
      subst hsp'
      have ea : ((⟨bb, oo, none⟩ : Addr).add (i * sz)).add j = ⟨bb, oo + (i * sz + j), none⟩ := by
        rw [add_none, add_none, Nat.add_assoc]
      rw [ea] at hcell
      exact hcell
    obtain ⟨l, hl, hq⟩ := list_of len key
    refine ⟨false, l, rfl, fun j d hj => ?_⟩
    have e0 : j = 0 := by have := (List.getElem?_eq_some_iff.1 hj).1; simp at this; omega
    subst e0
    simp only [List.getElem?_cons_zero, Option.some.injEq] at hj
    subst hj
    refine ⟨_, rfl, rfl, ?_⟩
    have hgen : ∀ (i : Nat) (e : List D), (l.map en)[i]? = some e → ∃ y, l[i]? = some y ∧ e = en y := by
      intro i e he
      rw [List.getElem?_map, Option.map_eq_some_iff] at he
      obtain ⟨y, h1, h2⟩ := he
      exact ⟨y, h1, h2.symm⟩
    have hsl := RepD.sl (F := Old W) (W := W) sz (l.map en) a cap (fun i j => (W.cell? ⟨a.block, a.off + (i * sz + j), none⟩).getD undef) (fun hne => by
        have : 0 < (l.map en).length := List.length_pos_iff.2 hne
        obtain ⟨y, hy1, hy2⟩ := hgen 0 _ (List.getElem?_eq_getElem this)
        obtain ⟨h1, h2⟩ := hq 0 y hy1
        obtain ⟨c, _, _, _, h3, _⟩ := h2 0 _ (List.getElem?_eq_getElem (show 0 < (en y).length by omega))
        exact h3) (by simp [hl, hlc])
      (fun e he => by
        obtain ⟨y, hy, rfl⟩ := List.mem_map.1 he
        obtain ⟨i, hi, hiy⟩ := List.mem_iff_getElem.1 hy
        exact (hq i y (by rw [List.getElem?_eq_getElem hi, hiy])).1)
      (fun i e j d hi hj => by
        obtain ⟨y, hy1, rfl⟩ := hgen i e hi
        obtain ⟨c, c1, c2, c3, c4, c5⟩ := (hq i y hy1).2 j d hj
        rw [c1]
        exact ⟨c5, rfl, c2⟩)
      (fun i e j d hi hj => by
        obtain ⟨y, hy1, rfl⟩ := hgen i e hi
        obtain ⟨c, c1, c2, c3, c4, c5⟩ := (hq i y hy1).2 j d hj
        rw [c1]
        exact c3)
    rw [List.length_map, hl] at hsl
    have : slD false sz (l.map en) = .sl sz (l.map en) := by cases l.map en <;> rfl
    rw [this]
    exact hsl
end
end Go.Vm.P12

/- Chapter 12: what the law's arguments hold: spans, lines, claims. -/
set_option maxRecDepth 100000
namespace Go.Vm.P12
open Go Go.Vm Go.Proofs Go.ChangeShapes
section
variable {H : Type} {enc : TypeId × Value → H} {W : World} {sp : Nat → Bool} {held : Bool}
theorem cells3 : Tryd.prog.cellsOf 3 = 1 := by kernel_rfl
theorem cells22 : Tryd.prog.cellsOf 22 = 1 := by kernel_rfl
theorem cells23 : Tryd.prog.cellsOf 23 = 1 := by kernel_rfl
theorem cells24 : Tryd.prog.cellsOf 24 = 1 := by kernel_rfl
theorem cells26 : Tryd.prog.cellsOf 26 = 2 := by kernel_rfl
theorem cells28 : Tryd.prog.cellsOf 28 = 4 := by kernel_rfl
theorem cells67 : Tryd.prog.cellsOf 67 = 2 := by kernel_rfl
theorem holds_one {d : D} {v : Value} (h1 : v.oneCell' = true) (h2 : RepD (Old W) W d v) : Holds W [d] [v] := by
  refine ⟨rfl, fun j e hj => ?_⟩
  have e0 : j = 0 := by have := (List.getElem?_eq_some_iff.1 hj).1; simp at this; omega
  subst e0
  simp only [List.getElem?_cons_zero, Option.some.injEq] at hj
  subst hj
  exact ⟨_, rfl, h1, h2⟩
theorem holds_app {a b : List D} {x y : List Value} (h1 : Holds W a x) (h2 : Holds W b y) : Holds W (a ++ b) (x ++ y) := by
  refine ⟨by rw [List.length_append, List.length_append, h1.1, h2.1], fun j d hj => ?_⟩
  by_cases hl : j < a.length
  · rw [List.getElem?_append_left hl] at hj
    obtain ⟨c, h3, h4⟩ := h1.2 j d hj
    exact ⟨c, by rw [List.getElem?_append_left (by rw [h1.1]; exact hl)]; exact h3, h4⟩
  · rw [List.getElem?_append_right (by omega)] at hj
    obtain ⟨c, h3, h4⟩ := h2.2 _ d hj
    exact ⟨c, by rw [List.getElem?_append_right (by rw [h1.1]; omega), h1.1]; exact h3, h4⟩
theorem rd_int {n : Nat} {cs : List Value} {x : DataW H × List MemPlace} (h : DataW.trod enc Tryd.prog W 0 sp held n 3 cs = some x) : ∃ a : Int, (ic a).length = 1 ∧ Holds W (ic a) cs := by
  obtain ⟨k, rfl, _, _⟩ := DataW.trod_int Tryd.underlying3 h
  exact ⟨k, rfl, holds_one rfl (.int _ _)⟩
theorem rd_ints {n : Nat} {cs : List Value} {x : DataW H × List MemPlace} (h : DataW.trod enc Tryd.prog W 0 sp held n 24 cs = some x) : ∃ (b : Bool) (l : List Int), Holds W [slD b 1 (l.map ic)] cs :=
  rd_slice Tryd.underlying24 cells3 (by decide) (fun _ _ _ h => rd_int h) h
theorem two_of {cs : List Value} (h : cs.length = 2) : ∃ a b, cs = [a, b] := by
  match cs, h with
  | [a, b], _ => exact ⟨a, b, rfl⟩
theorem four_of {cs : List Value} (h : cs.length = 4) : ∃ a b c d, cs = [a, b, c, d] := by
  match cs, h with
  | [a, b, c, d], _ => exact ⟨a, b, c, d, rfl⟩
theorem rd_span {n : Nat} {cs : List Value} {x : DataW H × List MemPlace} (h : DataW.trod enc Tryd.prog W 0 sp held n 67 cs = some x) : ∃ a : Sp, (enS a).length = 2 ∧ Holds W (enS a) cs := by
  obtain ⟨xs, n', _, _, hl, hn, hf⟩ := DataW.trod_struct Tryd.underlying67 h
  rw [cells67] at hl
  obtain ⟨a, b, rfl⟩ := two_of hl
  have f0 := (hf 0 _ rfl).trans (List.getElem?_eq_getElem (show 0 < xs.length by rw [hn]; decide))
  have f1 := (hf 1 _ rfl).trans (List.getElem?_eq_getElem (show 1 < xs.length by rw [hn]; decide))
  simp only [List.getElem_toArray, List.getElem_cons_zero, List.getElem_cons_succ, cells3, List.drop_zero, List.drop_succ_cons, List.take_succ_cons, List.take_zero, List.take_nil] at f0 f1
  obtain ⟨p, e1, _, _⟩ := DataW.trod_int Tryd.underlying3 f0
  obtain ⟨q, e2, _, _⟩ := DataW.trod_int Tryd.underlying3 f1
  simp only [List.cons.injEq, and_true] at e1 e2
  subst e1 e2
  exact ⟨⟨p, q⟩, rfl, holds_app (a := [.int .i64 p]) (x := [.int .i64 p]) (holds_one rfl (.int _ _)) (holds_one rfl (.int _ _))⟩
theorem rd_line {n : Nat} {cs : List Value} {x : DataW H × List MemPlace} (h : DataW.trod enc Tryd.prog W 0 sp held n 26 cs = some x) : ∃ a : Ln, (enL a).length = 2 ∧ Holds W (enL a) cs := by
  obtain ⟨xs, n', _, _, hl, hn, hf⟩ := DataW.trod_struct Tryd.underlying26 h
  rw [cells26] at hl
  obtain ⟨a, b, rfl⟩ := two_of hl
  have f0 := (hf 0 _ rfl).trans (List.getElem?_eq_getElem (show 0 < xs.length by rw [hn]; decide))
  have f1 := (hf 1 _ rfl).trans (List.getElem?_eq_getElem (show 1 < xs.length by rw [hn]; decide))
  simp only [List.getElem_toArray, List.getElem_cons_zero, List.getElem_cons_succ, cells3, cells24, List.drop_zero, List.drop_succ_cons, List.take_succ_cons, List.take_zero, List.take_nil] at f0 f1
  obtain ⟨bb, l, hh⟩ := rd_ints f0
  obtain ⟨q, e2, _, _⟩ := DataW.trod_int Tryd.underlying3 f1
  simp only [List.cons.injEq, and_true] at e2
  subst e2
  exact ⟨⟨bb, l, q⟩, rfl, holds_app (x := [a]) hh (holds_one rfl (.int _ _))⟩
theorem rd_claim {n : Nat} {cs : List Value} {x : DataW H × List MemPlace} (h : DataW.trod enc Tryd.prog W 0 sp held n 28 cs = some x) : ∃ c : Cl, Holds W (enC c) cs := by
  obtain ⟨xs, n', _, _, hl, hn, hf⟩ := DataW.trod_struct Tryd.underlying28 h
  rw [cells28] at hl
  obtain ⟨a, b, c, d, rfl⟩ := four_of hl
  have f0 := (hf 0 _ rfl).trans (List.getElem?_eq_getElem (show 0 < xs.length by rw [hn]; decide))
  have f1 := (hf 1 _ rfl).trans (List.getElem?_eq_getElem (show 1 < xs.length by rw [hn]; decide))
  have f2 := (hf 2 _ rfl).trans (List.getElem?_eq_getElem (show 2 < xs.length by rw [hn]; decide))
  simp only [List.getElem_toArray, List.getElem_cons_zero, List.getElem_cons_succ, cells22, cells23, cells26, List.drop_zero, List.drop_succ_cons, List.take_succ_cons, List.take_zero, List.take_nil] at f0 f1 f2
  obtain ⟨b0, l0, h0⟩ := rd_slice Tryd.underlying22 cells67 (by decide) (fun _ _ _ h => rd_span h) f0
  obtain ⟨b1, l1, h1⟩ := rd_slice Tryd.underlying23 cells26 (by decide) (fun _ _ _ h => rd_line h) f1
  obtain ⟨go, _, h2⟩ := rd_line f2
  exact ⟨⟨b0, l0, b1, l1, go⟩, holds_app (x := [a]) h0 (holds_app (x := [b]) h1 h2)⟩
theorem arg_claim {v : Value} {d : DataW H} {p : List MemPlace} (h : DataW.Trod enc Tryd.prog W 0 sp held 28 v d p) : ∃ c : Cl, RepD (Old W) W (.agg (enC c)) v := by
  obtain ⟨n, h⟩ := h
  obtain ⟨c, hl, hc⟩ := rd_claim h
  refine ⟨c, ?_⟩
  cases v with
  | agg vs =>
    refine .agg _ _ hl fun j e hj => ?_
    obtain ⟨w, h1, _, h3⟩ := hc j e hj
    have : vs.getD j undef = w := by
      simp only [Value.cells, Array.getElem?_toList] at h1
      simp [Array.getD_eq_getD_getElem?, h1]
    rw [this]; exact h3
  | _ => simp [Value.cells, enC] at hl
end
end Go.Vm.P12

/- Chapter 12: what the listed variable holds. -/
set_option maxRecDepth 100000
namespace Go.Vm.P12
open Go Go.Vm Go.Proofs Go.ChangeShapes Go.Proofs.YtfhjkkjaaeohhaaDoor
theorem gWays : Tryd.prog.globalNamed "halation/prove.ways" = some 0 := by kernel_rfl
theorem tWays : (Tryd.prog.globals[0]?).map (·.type) = some 166 := by kernel_rfl
theorem cells163 : Tryd.prog.cellsOf 163 = 1 := by kernel_rfl
theorem cells165 : Tryd.prog.cellsOf 165 = 3 := by kernel_rfl
theorem cells166 : Tryd.prog.cellsOf 166 = 9 := by kernel_rfl
abbrev laidW : List (String × DataW Unit) := [("halation/prove.ways", Rows.laid_halation_prove_ways)]
abbrev nmFilled : List UInt8 := [104, 97, 108, 97, 116, 105, 111, 110, 47, 112, 114, 111, 118, 101, 46, 102, 105, 108, 108, 101, 100]
theorem three_of {cs : List Value} (h : cs.length = 3) : ∃ a b c, cs = [a, b, c] := by
  match cs, h with
  | [a, b, c], _ => exact ⟨a, b, c, rfl⟩
theorem way_of {W : World} {sp : Nat → Bool} {n : Nat} {cs : List Value} {x : DataW (List UInt8) × List MemPlace} {g m : Int} (h : DataW.trod (funcToken Tryd.prog) Tryd.prog W 0 sp true n 165 cs = some x) (hx : x.1 = .agg [.lit (.int .i64 g), .lit (.int .i64 m), .held nmFilled]) :
    cs = [.int .i64 g, .int .i64 m, .func (.func 122) #[] #[]] := by
  obtain ⟨xs, n', _, ex, hl, hn, hf⟩ := DataW.trod_struct Tryd.underlying165 h
  rw [cells165] at hl
  obtain ⟨a, b, c, rfl⟩ := three_of hl
  have f0 := (hf 0 _ rfl).trans (List.getElem?_eq_getElem (show 0 < xs.length by rw [hn]; decide))
  have f1 := (hf 1 _ rfl).trans (List.getElem?_eq_getElem (show 1 < xs.length by rw [hn]; decide))
  have f2 := (hf 2 _ rfl).trans (List.getElem?_eq_getElem (show 2 < xs.length by rw [hn]; decide))
  have hn3 : xs.length = 3 := hn
  match xs, hn3 with
  | [x0, x1, x2], _ =>
    simp only [List.getElem_toArray, List.getElem_cons_zero, List.getElem_cons_succ, cells3, cells163, List.drop_zero, List.drop_succ_cons, List.take_succ_cons, List.take_zero, List.take_nil] at f0 f1 f2
    obtain ⟨p, e1, e1', _⟩ := DataW.trod_int Tryd.underlying3 f0
    obtain ⟨q, e2, e2', _⟩ := DataW.trod_int Tryd.underlying3 f1
    rw [ex] at hx
    simp only [List.map_cons, List.map_nil, DataW.agg.injEq, List.cons.injEq, and_true] at hx
    obtain ⟨h0, h1, h2⟩ := hx
    rw [e1'] at h0
    rw [e2'] at h1
    simp only [DataW.lit.injEq, Lit.int.injEq, true_and] at h0 h1
    have hf2 : x2 = (.held nmFilled, x2.2) := by rw [← h2]
    rw [hf2] at f2
    have := Go.func_of_trod (f0 := 122) Tryd.underlying163 (by kernel_rfl) f2
    simp only [List.cons.injEq, and_true] at e1 e2
    rw [e1, e2, this, h0, h1]
theorem cell_lt {W : World} {b o : Nat} {v : Value} (h : W.cell? ⟨b, o, none⟩ = some v) : b < W.heap.size := by
  unfold World.cell? at h
  by_cases hb : b < W.heap.size
  · exact hb
  · rw [show W.heap[b]? = none from Array.getElem?_eq_none (by omega)] at h
    simp at h
theorem nine_of {cs : List Value} (h : cs.length = 9) : ∃ a b c d e f g i j, cs = [a, b, c, d, e, f, g, i, j] := by
  match cs, h with
  | [a, b, c, d, e, f, g, i, j], _ => exact ⟨a, b, c, d, e, f, g, i, j, rfl⟩
def ways9 : List Value := [.int .i64 0, .int .i64 1, .func (.func 122) #[] #[], .int .i64 1, .int .i64 0, .func (.func 122) #[] #[], .int .i64 1, .int .i64 4, .func (.func 122) #[] #[]]
theorem ways_cells {W : World} (h : laidMetH Tryd.prog laidW W) : ∀ j, W.cell? ⟨0, j, none⟩ = ways9[j]? := by
  obtain ⟨g, t, cs, fuel, p, hg, ht, hv, hd⟩ := h.funcs (List.mem_singleton.2 rfl)
  obtain rfl := Option.some.inj (gWays.symm.trans hg)
  obtain rfl := Option.some.inj (tWays.symm.trans ht)
  obtain ⟨xs, m, _, ex, hl, hn, hE⟩ := DataW.trod_array Tryd.underlying166 hd
  rw [cells166] at hl
  have key : cs.toList = ways9 := by
    obtain ⟨a, b, c, d, e, f, g, i, j, hcs⟩ := nine_of hl
    rw [hcs] at hE ⊢
    match xs, hn with
    | [x0, x1, x2], _ =>
      have e0 := hE 0 (by decide)
      have e1 := hE 1 (by decide)
      have e2 := hE 2 (by decide)
      simp only [cells165, Nat.zero_mul, Nat.one_mul, Nat.reduceMul, List.drop_zero, List.drop_succ_cons, List.take_succ_cons, List.take_zero, List.getElem?_cons_zero, List.getElem?_cons_succ] at e0 e1 e2
      have hx : (x0.1 = .agg [.lit (.int .i64 0), .lit (.int .i64 1), .held nmFilled]) ∧ (x1.1 = .agg [.lit (.int .i64 1), .lit (.int .i64 0), .held nmFilled]) ∧ (x2.1 = .agg [.lit (.int .i64 1), .lit (.int .i64 4), .held nmFilled]) := by
        have h0 := congrArg Prod.fst ex
        simp only [List.map_cons, List.map_nil] at h0
        have h1 : (DataW.agg [DataW.agg [.lit (.int .i64 0), .lit (.int .i64 1), .held nmFilled], .agg [.lit (.int .i64 1), .lit (.int .i64 0), .held nmFilled], .agg [.lit (.int .i64 1), .lit (.int .i64 4), .held nmFilled]] : DataW (List UInt8)) = .agg [x0.1, x1.1, x2.1] := h0
        simp only [DataW.agg.injEq, List.cons.injEq, and_true] at h1
        exact ⟨h1.1.symm, h1.2.1.symm, h1.2.2.symm⟩
      have w0 := way_of e0 hx.1
      have w1 := way_of e1 hx.2.1
      have w2 := way_of e2 hx.2.2
      simp only [List.cons.injEq, and_true] at w0 w1 w2
      obtain ⟨a1, a2, a3⟩ := w0
      obtain ⟨b1, b2, b3⟩ := w1
      obtain ⟨c1, c2, c3⟩ := w2
      rw [a1, a2, a3, b1, b2, b3, c1, c2, c3]
      rfl
  intro j
  have := World.var?_cell hg hv j
  rw [this, ← key, Array.getElem?_toList]
theorem ways_ok {W : World} (h : laidMetH Tryd.prog laidW W) : ∀ g cs, glob g = some cs → RepD (Old W) W (.ptr cs) (.pointer (some ⟨g, 0, none⟩)) := by
  intro g cs hg
  have hc := ways_cells h
  unfold glob at hg
  split at hg
  · rename_i e0
    subst e0
    injection hg with hg
    subst hg
    refine .ptr _ ⟨0, 0, none⟩ (fun j => ways9.getD j undef) rfl (fun j d hj => ?_) fun j d hj => ?_
    · have hlt := (List.getElem?_eq_some_iff.1 hj).1
      have hlt : j < 9 := hlt
      have h9 : ways9[j]? = some (ways9.getD j undef) := by
        rw [List.getD_eq_getElem?_getD, List.getElem?_eq_getElem (show j < ways9.length from hlt)]; rfl
      have hcj := (hc j).trans h9
      refine ⟨cell_lt hcj, by rw [Nat.zero_add]; exact hcj, ?_⟩
      match j, hlt with
      | 0, _ | 1, _ | 2, _ | 3, _ | 4, _ | 5, _ | 6, _ | 7, _ | 8, _ => rfl
    · have hlt := (List.getElem?_eq_some_iff.1 hj).1
      have hlt : j < 9 := hlt
      have hfn : RepD (Old W) W (.fn 122 [] []) (.func (.func 122) #[] #[]) := .fn 122 [] [] #[] #[] rfl rfl (fun j d h => by simp at h) (fun j d h => by simp at h)
      match j, hlt, hj with
      | 0, _, hj => injection hj with hj; subst hj; exact .int _ _
      | 1, _, hj => injection hj with hj; subst hj; exact .int _ _
      | 2, _, hj => injection hj with hj; subst hj; exact hfn
      | 3, _, hj => injection hj with hj; subst hj; exact .int _ _
      | 4, _, hj => injection hj with hj; subst hj; exact .int _ _
      | 5, _, hj => injection hj with hj; subst hj; exact hfn
      | 6, _, hj => injection hj with hj; subst hj; exact .int _ _
      | 7, _, hj => injection hj with hj; subst hj; exact .int _ _
      | 8, _, hj => injection hj with hj; subst hj; exact hfn
  · cases hg
end Go.Vm.P12

/- Chapter 12: the machine's calls are the model's calls. -/
set_option maxRecDepth 100000
namespace Go.Vm.P12
open Go Go.Vm Go.Proofs Go.Proofs.YtfhjkkjaaeohhaaDoor
theorem fnOk : ∀ f fi, E.fn f = some fi → FnOk Tryd.prog glob f fi := by
  intro f fi h
  change fnT f = some fi at h
  unfold fnT at h
  split at h
  · injection h with h; subst h; exact k7
  · injection h with h; subst h; exact k8
  · injection h with h; subst h; exact k9
  · injection h with h; subst h; exact k10
  · injection h with h; subst h; exact k11
  · injection h with h; subst h; exact k12
  · injection h with h; subst h; exact k15
  · injection h with h; subst h; exact k16
  · injection h with h; subst h; exact k17
  · injection h with h; subst h; exact k21
  · injection h with h; subst h; exact k23
  · injection h with h; subst h; exact k24
  · injection h with h; subst h; exact k25
  · injection h with h; subst h; exact k26
  · injection h with h; subst h; exact k28
  · injection h with h; subst h; exact k29
  · injection h with h; subst h; exact k32
  · injection h with h; subst h; exact k35
  · injection h with h; subst h; exact k36
  · injection h with h; subst h; exact k37
  · injection h with h; subst h; exact k38
  · injection h with h; subst h; exact k39
  · injection h with h; subst h; exact k40
  · injection h with h; subst h; exact k41
  · injection h with h; subst h; exact k42
  · injection h with h; subst h; exact k43
  · injection h with h; subst h; exact k44
  · injection h with h; subst h; exact k45
  · injection h with h; subst h; exact k46
  · injection h with h; subst h; exact k47
  · injection h with h; subst h; exact k48
  · injection h with h; subst h; exact k49
  · injection h with h; subst h; exact k50
  · injection h with h; subst h; exact k51
  · injection h with h; subst h; exact k52
  · injection h with h; subst h; exact k57
  · injection h with h; subst h; exact k58
  · injection h with h; subst h; exact k59
  · injection h with h; subst h; exact k60
  · injection h with h; subst h; exact k62
  · injection h with h; subst h; exact k63
  · injection h with h; subst h; exact k64
  · injection h with h; subst h; exact k65
  · injection h with h; subst h; exact k66
  · injection h with h; subst h; exact k67
  · injection h with h; subst h; exact k68
  · injection h with h; subst h; exact k69
  · injection h with h; subst h; exact k71
  · injection h with h; subst h; exact k72
  · injection h with h; subst h; exact k73
  · injection h with h; subst h; exact k74
  · injection h with h; subst h; exact k75
  · injection h with h; subst h; exact k76
  · injection h with h; subst h; exact k79
  · injection h with h; subst h; exact k80
  · injection h with h; subst h; exact k81
  · injection h with h; subst h; exact k82
  · injection h with h; subst h; exact k83
  · injection h with h; subst h; exact k84
  · injection h with h; subst h; exact k85
  · injection h with h; subst h; exact k86
  · injection h with h; subst h; exact k87
  · injection h with h; subst h; exact k90
  · injection h with h; subst h; exact k91
  · injection h with h; subst h; exact k92
  · injection h with h; subst h; exact k93
  · injection h with h; subst h; exact k94
  · injection h with h; subst h; exact k95
  · injection h with h; subst h; exact k98
  · injection h with h; subst h; exact k99
  · injection h with h; subst h; exact k100
  · injection h with h; subst h; exact k101
  · injection h with h; subst h; exact k102
  · injection h with h; subst h; exact k103
  · injection h with h; subst h; exact k104
  · injection h with h; subst h; exact k122
  · injection h with h; subst h; exact k123
  · injection h with h; subst h; exact k124
  · injection h with h; subst h; exact k125
  · cases h
theorem follows : Tryd.prog.follows .mixedOrders = true := by kernel_rfl
theorem lev (n : Nat) (p : XP) : LowerOk Tryd.prog glob (XC Tryd.prog glob p) (level E n) := level_ok E follows fnOk (fun _ => rfl) n p
theorem call_ok {n : Nat} {f : FuncId} {ds : List D} {d : D} {vs : Array Value} {W : World} (p : XP) (h : callP (level E n) f ds = some d) (hw : laidMetH Tryd.prog laidW W) (hs : vs.size = ds.length) (hr : ∀ j d, ds[j]? = some d → RepD (Old W) W d (vs.getD j undef)) :
    Calls Tryd.prog f vs W fun e w => ∃ r F, e = .returned r ∧ Tr (fun _ => False) W w ∧ RepD F w d r := by
  have R : Rel glob (fun _ => none) (Old W) none W (fun _ => AO.dead) :=
    ⟨ways_ok hw, fun i h => absurd rfl h, fun i j b h => by simp [lv] at h, fun i b h => by simp [lv] at h, fun b h => h, fun i b h => by cases h⟩
  exact (callsIn_wide.1 (callP_core (lev n p) h R (fun b h => h) (fun b h => h) hs hr)).mono fun e w ⟨r, F2, h1, h2, _, _, _, h3⟩ => ⟨r, F2, h1, h2, h3⟩
end Go.Vm.P12

/- Chapter 12: what the rows and cards of the laws share. -/
set_option maxRecDepth 100000
namespace Go.Proofs.YtfhjkkjaaeohhaaDoor
open Go Go.Vm Go.Vm.P12 Go.ChangeShapes Go.WideShapes Go.ChangeAt Go.RowKit
theorem ownT : ownKnob Tryd.prog.godebug = none := by kernel_rfl
theorem laidOutT : laidOutB Tryd.prog = true := by kernel_rfl
theorem read28 : Tryd.prog.readableRec 28 = true := by kernel_rfl
theorem row28 : 28 < Tryd.prog.types.size := of_decide_eq_true (by kernel_rfl)
theorem door_met (os : Os) (args : Array Value) : laidMetH Tryd.prog laidW ((World.doorLaid Tryd.prog 2000 os).forCall (fun _ _ => 0) ⟨#[], args, []⟩).memory :=
  laidMetH_of_parts3 (fuel := 8) (laidMet_of_run' 8 (by kernel_rfl) (by kernel_rfl)) (by kernel_rfl) (by kernel_rfl)
theorem below_of {W w : World} (h : Tr (fun _ => False) W w) : Below W.heap.size W w := ⟨h.os, h.tape, h.output, h.size, fun b hb => h.keep b hb (fun h => h)⟩
theorem bool_of {F : Nat → Prop} {w : World} {b : Bool} {r : Value} (h : RepD F w (.bool b) r) : r = .bool b := by cases h; rfl
def noClaim : Value := .agg #[.slice none 0 0, .slice none 0 0, .slice none 0 0, .int .i64 0]
def anyXP : XP := ⟨fun _ => none, 0, 0, [], { own := false, dyn := .pure, md := [] }, #[]⟩
end Go.Proofs.YtfhjkkjaaeohhaaDoor

/- Chapter 12, functions: sums of lines, leaves. -/
set_option maxRecDepth 100000
namespace Go.Vm.P12
open Go Go.Vm
def ad (a b : Int) : Int := wrp .i64 (a + b)
def sb (a b : Int) : Int := wrp .i64 (a - b)
def ml (a b : Int) : Int := wrp .i64 (a * b)
theorem getA {α : Type} {A R : List α} {e : α} {i : Nat} (h : A.length = i) : (A ++ e :: R)[i]? = some e := by
  subst h; simp
theorem setA {α : Type} {A R : List α} {e v : α} {i : Nat} (h : A.length = i) : (A ++ e :: R).set i v = A ++ v :: R := by
  subst h; simp
theorem repic (k : Nat) : List.replicate k [D.int .i64 0] = (List.replicate k (0 : Int)).map ic := by
  induction k with
  | zero => rfl
  | succ k ih => rw [List.replicate_succ, List.replicate_succ, ih]; rfl
theorem take_self {α : Type} {l : List α} {k : Nat} (h : l.length = k) : l.take k = l := by subst h; exact List.take_length
theorem ok102 (n k : Nat) (h : k < 1000000000) : callP (level E (n+1)) 102 [.int .i64 k] = some (.agg [slD false 1 ((List.replicate k (0 : Int)).map ic), .int .i64 0]) := by
  have h1 : ((8 : Nat) : Int) * (k : Int) ≤ 70368744177664 := by omega
  have h2 : (k : Int) ≤ 70368744177664 := by omega
  rw [p102]
  simp only [go_sem, Nat.reduceAdd, Nat.reduceSub, Nat.reduceMul, Nat.reduceDiv, Nat.reduceMod, Nat.reduceLeDiff, Nat.reduceBEq, Int.reduceToNat, Int.reduceLT, Int.reduceLE, Int.reduceEq, h1, h2, Int.natCast_nonneg, slD_f, repic, List.length_replicate]
def pls (f : Int) (x o : Ln) : Ln := { nl := x.nl, co := List.zipWith (fun a b => ad a (ml f b)) x.co o.co, c := ad x.c (ml f o.c) }
theorem l103 {lo : Lower} {on : Bool} {oc : List Int} {f c d : Int} {N : Nat} (hN : N < 1000000000) : ∀ (r q A : List Int) (i : Nat), A.length = i → i + r.length = N → oc.drop i = q → r.length = q.length →
    outC ⟨0, false⟩ [0, 0, 0, 1, 0, 0, 1, 0, 0, 0, 0] (rnd (aCode lo ⟨0, false⟩ b103_0) (head ⟨0, false⟩ [0, 0, 1, 1, 0, 1, 1, 0, 1, 1, 0])
      ⟨[.junk, .junk, .imm (.int .i64 f), .ptr 0 0, .junk, .ptr 1 0, .ptr 2 0, .junk, .imm (.int .i64 N), .imm (.int .i64 i), .junk],
        [.box [.imm .nil, .imm (.int .i64 0)], .box [.imm (slD on 1 (oc.map ic)), .imm (.int .i64 d)], .box [.ref 3 1 0 N, .imm (.int .i64 c)], .arr 1 (A.map ic ++ r.map ic)], none⟩) =
      some (.exit 0, ⟨[.junk, .junk, .junk, .ptr 0 0, .junk, .junk, .ptr 1 0, .junk, .junk, .junk, .junk], [.box [.imm .nil, .imm (.int .i64 0)], .box [.ref 2 1 0 N, .imm (.int .i64 c)], .arr 1 (A.map ic ++ (List.zipWith (fun a b => ad a (ml f b)) r q).map ic)], none⟩)
  | [], q, A, i, hA, hi, hq, hl => by
    have : q = [] := by cases q <;> simp at hl ⊢
    subst this
    rw [rnd_eq]
    simp only [go_sem, Nat.reduceAdd, Nat.reduceSub, Nat.reduceMul, Nat.reduceDiv, Nat.reduceMod, Nat.reduceLeDiff, Nat.reduceBEq, Int.reduceToNat, Int.reduceLT, Int.reduceLE, Int.reduceEq, lt_f (show N ≤ i by simp at hi; omega), List.zipWith]
  | x :: r, [], A, i, hA, hi, hq, hl => by simp at hl
  | x :: r, y :: q, A, i, hA, hi, hq, hl => by
    obtain ⟨h1, h2, h3⟩ := drop_c hq
    have hlt : i < N := by simp at hi; omega
    have hlt' : (i : Int) < (N : Int) := by omega
    have IH := l103 (lo := lo) (on := on) (oc := oc) (f := f) (c := c) (d := d) hN r q (A ++ [ad x (ml f y)]) (i + 1) (by simp [hA]) (by simp at hi; omega) h3 (by simpa using hl)
    have h6 := wrpS (i := i) (by omega)
    have hA' : (A.map ic).length = i := by simpa using hA
    rw [rnd_eq]
    simp only [go_sem, Nat.reduceAdd, Nat.reduceSub, Nat.reduceMul, Nat.reduceDiv, Nat.reduceMod, Nat.reduceLeDiff, Nat.reduceBEq, Int.reduceToNat, Int.reduceLT, Int.reduceLE, Int.reduceEq, List.append_assoc] at IH
    simp only [go_sem, Nat.reduceAdd, Nat.reduceSub, Nat.reduceMul, Nat.reduceDiv, Nat.reduceMod, Nat.reduceLeDiff, Nat.reduceBEq, Int.reduceToNat, Int.reduceLT, Int.reduceLE, Int.reduceEq, lt_t hlt, h1, hlt', Int.natCast_nonneg, Nat.mul_one, Nat.div_one, Nat.mod_one, getA hA', setA hA', h6, List.zipWith]
    exact IH
def plV (x : Ln) : AV := match x.co, x.nl with
  | [], true => .imm (.agg [.nil, .int .i64 x.c])
  | [], false => .agg [.e0 1, .imm (.int .i64 x.c)]
  | _, _ => .agg [.ref 0 1 0 x.co.length, .imm (.int .i64 x.c)]
def plO (x : Ln) : List AO := match x.co with | [] => [] | _ => [.arr 1 (x.co.map ic)]
theorem ok103 (n : Nat) (x o : Ln) (f : Int) (h : x.co.length = o.co.length) (hx : x.co.length < 1000000000) : callI (level E (n+2)) 103 [.agg (enL x), .agg (enL o), .int .i64 f] = some (plV (pls f x o), plO (pls f x o)) := by
  obtain ⟨xn, xc, xd⟩ := x
  obtain ⟨on, oc, od⟩ := o
  simp only at h hx
  have h104 := ok104 n xn (xc.map ic) (by simpa using hx)
  rw [i103]
  cases xc with
  | nil =>
    have : oc = [] := by cases oc <;> simp at h ⊢
    subst this
    simp only [go_sem, Nat.reduceAdd, Nat.reduceSub, Nat.reduceMul, Nat.reduceDiv, Nat.reduceMod, Nat.reduceLeDiff, Nat.reduceBEq, Int.reduceToNat, Int.reduceLT, Int.reduceLE, Int.reduceEq] at h104
    cases xn <;> simp only [go_sem, Nat.reduceAdd, Nat.reduceSub, Nat.reduceMul, Nat.reduceDiv, Nat.reduceMod, Nat.reduceLeDiff, Nat.reduceBEq, Int.reduceToNat, Int.reduceLT, Int.reduceLE, Int.reduceEq, slD_nil, slD_f] at h104 <;> simp only [go_sem, Nat.reduceAdd, Nat.reduceSub, Nat.reduceMul, Nat.reduceDiv, Nat.reduceMod, Nat.reduceLeDiff, Nat.reduceBEq, Int.reduceToNat, Int.reduceLT, Int.reduceLE, Int.reduceEq, slD_nil, slD_f, h104, clV, clO, plV, plO, pls, List.zipWith, ad, ml, rnd_eq, Int.lt_irrefl]
  | cons y xc =>
    obtain ⟨N, hN⟩ : ∃ N, N = (y :: xc).length := ⟨_, rfl⟩
    have hl := l103 (lo := level E (n+1)) (on := on) (oc := oc) (f := f) (c := ad xd (ml f od)) (d := od) (N := N) (by omega) (y :: xc) oc [] 0 rfl (by simp [hN]) rfl h
    have hN' : xc.length + 1 = N := by simp [hN]
    have hz : (List.zipWith (fun a b => ad a (ml f b)) (y :: xc) oc).length = N := by rw [List.length_zipWith, ← h]; simp [hN]
    generalize hzz : List.zipWith (fun a b => ad a (ml f b)) (y :: xc) oc = z at hl hz
    have hr : (plV (pls f ⟨xn, y :: xc, xd⟩ ⟨on, oc, od⟩), plO (pls f ⟨xn, y :: xc, xd⟩ ⟨on, oc, od⟩)) = (AV.agg [.ref 0 1 0 N, .imm (.int .i64 (ad xd (ml f od)))], [AO.arr 1 (z.map ic)]) := by
      cases z with
      | nil => simp at hz; omega
      | cons a z => simp only [plV, plO, pls, hzz, hz]
    rw [hr]
    simp only [go_sem, Nat.reduceAdd, Nat.reduceSub, Nat.reduceMul, Nat.reduceDiv, Nat.reduceMod, Nat.reduceLeDiff, Nat.reduceBEq, Int.reduceToNat, Int.reduceLT, Int.reduceLE, Int.reduceEq, slD_cons] at h104
    simp only [go_sem, Nat.reduceAdd, Nat.reduceSub, Nat.reduceMul, Nat.reduceDiv, Nat.reduceMod, Nat.reduceLeDiff, Nat.reduceBEq, Int.reduceToNat, Int.reduceLT, Int.reduceLE, Int.reduceEq, ad, ml] at hl
    simp only [go_sem, Nat.reduceAdd, Nat.reduceSub, Nat.reduceMul, Nat.reduceDiv, Nat.reduceMod, Nat.reduceLeDiff, Nat.reduceBEq, Int.reduceToNat, Int.reduceLT, Int.reduceLE, Int.reduceEq, slD_cons, h104, clV, clO, hN', ad, ml]
    rw [hl]
    simp only [go_sem, Nat.reduceAdd, Nat.reduceSub, Nat.reduceMul, Nat.reduceDiv, Nat.reduceMod, Nat.reduceLeDiff, Nat.reduceBEq, Int.reduceToNat, Int.reduceLT, Int.reduceLE, Int.reduceEq]
theorem ok103_0 (n : Nat) (b : Bool) (c d : Int) (f : Int) : callI (level E (n+2)) 103 [.agg [.sl 1 [], .int .i64 c], .agg [slD b 1 [], .int .i64 d], .int .i64 f] = some (.agg [.e0 1, .imm (.int .i64 (ad c (ml f d)))], []) :=
  ok103 n ⟨false, [], c⟩ ⟨b, [], d⟩ f rfl (by simp)
theorem ok103_1 (n N : Nat) (xc : List Int) (c : Int) (o : Ln) (f : Int) (h1 : xc.length = N) (h2 : o.co.length = N) (h3 : 0 < N) (h4 : N < 1000000000) : callI (level E (n+2)) 103 [.agg [.sl 1 (xc.map ic), .int .i64 c], .agg (enL o), .int .i64 f] =
    some (.agg [.ref 0 1 0 N, .imm (.int .i64 (ad c (ml f o.c)))], [.arr 1 ((List.zipWith (fun a b => ad a (ml f b)) xc o.co).map ic)]) := by
  have h := ok103 n ⟨false, xc, c⟩ o f (by rw [h1, h2]) (by rw [h1]; exact h4)
  have hz : (List.zipWith (fun a b => ad a (ml f b)) xc o.co).length = N := by rw [List.length_zipWith, h1, h2]; simp
  rw [show [D.agg [.sl 1 (xc.map ic), .int .i64 c], .agg (enL o), .int .i64 f] = [.agg (enL ⟨false, xc, c⟩), .agg (enL o), .int .i64 f] from rfl, h]
  cases hzz : List.zipWith (fun a b => ad a (ml f b)) xc o.co with
  | nil => rw [hzz] at hz; simp at hz; omega
  | cons a z => rw [hzz] at hz; simp only [plV, plO, pls, hzz, hz]
theorem flic : ∀ l : List Int, flatDLL (l.map ic) = true
  | [] => by simp [flatDLL]
  | x :: l => by simp [flatDLL, flatDL, flatD, ic, flic l]
theorem fdl_c {e : List D} {es : List (List D)} : flatDLL (e :: es) = (flatDL e && flatDLL es) := by simp [flatDLL]
attribute [go_sem] flic fO_arr fdl_c
structure Stp where
  leaf : Bool
  goal : Int
  gn : Bool
  gv : List Int
  ln : Bool
  lw : List Int
  hn : Bool
  hg : List Int
  va : Int
  bo : Int
  k0 : Int
  k1 : Int
def enT (s : Stp) : List D := [.bool s.leaf, .int .i64 s.goal, slD s.gn 1 (s.gv.map ic), slD s.ln 1 (s.lw.map ic), slD s.hn 1 (s.hg.map ic), .int .i64 s.va, .int .i64 s.bo, .int .i64 s.k0, .int .i64 s.k1]
attribute [go_sem] enT
def ng (a : Int) : Int := wrp .i64 (0 - a)
def lft : Ln → List Ln → List Int → Ln
  | x, g :: gs, k :: ks => lft (pls (ng k) x g) gs ks
  | x, _, _ => x
theorem l99_0 {n : Nat} {gn : Bool} {gv : List Ln} {ks : List Int} {y : Stp} (hg : gv.length < 1000000000) (hco : ∀ g ∈ gv, g.co = []) (hy : y.gv = ks) : ∀ (r : List Ln) (q : List Int) (c : Int) (i : Nat), gv.drop i = r → ks.drop i = q → r.length ≤ q.length →
    outC ⟨0, false⟩ [0, 0, 1, 0, 0, 1, 0, 0, 0, 0, 0, 0] (rnd (aCode (level E (n+2)) ⟨0, false⟩ b99_0) (head ⟨0, false⟩ [0, 0, 1, 1, 0, 1, 0, 0, 1, 1, 1, 0])
      ⟨[.junk, .junk, .ptr 0 0, .ptr 1 0, .junk, .ptr 2 0, .junk, .junk, .imm (slD gn 2 (gv.map enL)), .imm (.int .i64 gv.length), .imm (.int .i64 i), .junk],
        [.box [.imm .nil, .imm (.int .i64 0)], .box ((enT y).map .imm), .box [.e0 1, .imm (.int .i64 c)]], none⟩) =
      some (.exit 0, ⟨[.junk, .junk, .ptr 0 0, .junk, .junk, .ptr 1 0, .junk, .junk, .junk, .junk, .junk, .junk], [.box [.imm .nil, .imm (.int .i64 0)], .box [.e0 1, .imm (.int .i64 (lft ⟨false, [], c⟩ r q).c)]], none⟩)
  | [], q, c, i, hr, hq, hl => by
    rw [rnd_eq]
    simp only [go_sem, Nat.reduceAdd, Nat.reduceSub, Nat.reduceMul, Nat.reduceDiv, Nat.reduceMod, Nat.reduceLeDiff, Nat.reduceBEq, Int.reduceToNat, Int.reduceLT, Int.reduceLE, Int.reduceEq, lt_f (drop_n hr), lft]
  | g :: r, [], c, i, hr, hq, hl => by simp at hl
  | g :: r, k :: q, c, i, hr, hq, hl => by
    obtain ⟨h1, h2, h3⟩ := drop_c hr
    obtain ⟨q1, q2, q3⟩ := drop_c hq
    have e0 := hco g (List.mem_of_getElem? h1)
    have IH := l99_0 (n := n) (gn := gn) (y := y) hg hco hy r q (ad c (ml (ng k) g.c)) (i + 1) h3 q3 (by simpa using hl)
    have h6 := wrpS (i := i) (by omega)
    rw [rnd_eq]
    subst hy
    have e1 : lft ⟨false, [], c⟩ (g :: r) (k :: q) = lft ⟨false, [], ad c (ml (ng k) g.c)⟩ r q := by simp [lft, pls, e0]
    rw [e1]
    simp only [go_sem, Nat.reduceAdd, Nat.reduceSub, Nat.reduceMul, Nat.reduceDiv, Nat.reduceMod, Nat.reduceLeDiff, Nat.reduceBEq, Int.reduceToNat, Int.reduceLT, Int.reduceLE, Int.reduceEq] at IH
    simp only [go_sem, Nat.reduceAdd, Nat.reduceSub, Nat.reduceMul, Nat.reduceDiv, Nat.reduceMod, Nat.reduceLeDiff, Nat.reduceBEq, Int.reduceToNat, Int.reduceLT, Int.reduceLE, Int.reduceEq, lt_t h2, h1, q1, e0, ok103_0, h6]
    exact IH
theorem l99_1 {n N : Nat} {gn : Bool} {gv : List Ln} {ks : List Int} {y : Stp} (h0 : 0 < N) (hN : N < 1000000000) (hg : gv.length < 1000000000) (hco : ∀ g ∈ gv, g.co.length = N) (hy : y.gv = ks) : ∀ (r : List Ln) (q : List Int) (x : List Int) (c : Int) (i : Nat), gv.drop i = r → ks.drop i = q → r.length ≤ q.length → x.length = N →
    outC ⟨0, false⟩ [0, 0, 1, 0, 0, 1, 0, 0, 0, 0, 0, 0] (rnd (aCode (level E (n+2)) ⟨0, false⟩ b99_0) (head ⟨0, false⟩ [0, 0, 1, 1, 0, 1, 0, 0, 1, 1, 1, 0])
      ⟨[.junk, .junk, .ptr 0 0, .ptr 1 0, .junk, .ptr 2 0, .junk, .junk, .imm (slD gn 2 (gv.map enL)), .imm (.int .i64 gv.length), .imm (.int .i64 i), .junk],
        [.box [.imm .nil, .imm (.int .i64 0)], .box ((enT y).map .imm), .box [.ref 3 1 0 N, .imm (.int .i64 c)], .arr 1 (x.map ic)], none⟩) =
      some (.exit 0, ⟨[.junk, .junk, .ptr 0 0, .junk, .junk, .ptr 1 0, .junk, .junk, .junk, .junk, .junk, .junk], [.box [.imm .nil, .imm (.int .i64 0)], .box [.ref 2 1 0 N, .imm (.int .i64 (lft ⟨false, x, c⟩ r q).c)], .arr 1 ((lft ⟨false, x, c⟩ r q).co.map ic)], none⟩)
  | [], q, x, c, i, hr, hq, hl, hx => by
    rw [rnd_eq]
    simp only [go_sem, Nat.reduceAdd, Nat.reduceSub, Nat.reduceMul, Nat.reduceDiv, Nat.reduceMod, Nat.reduceLeDiff, Nat.reduceBEq, Int.reduceToNat, Int.reduceLT, Int.reduceLE, Int.reduceEq, lt_f (drop_n hr), lft]
  | g :: r, [], x, c, i, hr, hq, hl, hx => by simp at hl
  | g :: r, k :: q, x, c, i, hr, hq, hl, hx => by
    obtain ⟨h1, h2, h3⟩ := drop_c hr
    obtain ⟨q1, q2, q3⟩ := drop_c hq
    have e0 := hco g (List.mem_of_getElem? h1)
    have h103 := ok103_1 n N x c g (ng k) hx e0 h0 hN
    have hz : (List.zipWith (fun a b => ad a (ml (ng k) b)) x g.co).length = N := by rw [List.length_zipWith, hx, e0]; simp
    have IH := l99_1 (n := n) (gn := gn) (y := y) h0 hN hg hco hy r q (List.zipWith (fun a b => ad a (ml (ng k) b)) x g.co) (ad c (ml (ng k) g.c)) (i + 1) h3 q3 (by simpa using hl) hz
    have h6 := wrpS (i := i) (by omega)
    have hx' : N ≤ x.length := by omega
    have hx2 : (x.map ic).take N = x.map ic := take_self (by simpa using hx)
    rw [rnd_eq]
    subst hy
    have e1 : lft ⟨false, x, c⟩ (g :: r) (k :: q) = lft ⟨false, List.zipWith (fun a b => ad a (ml (ng k) b)) x g.co, ad c (ml (ng k) g.c)⟩ r q := by simp [lft, pls]
    rw [e1]
    simp only [go_sem, Nat.reduceAdd, Nat.reduceSub, Nat.reduceMul, Nat.reduceDiv, Nat.reduceMod, Nat.reduceLeDiff, Nat.reduceBEq, Int.reduceToNat, Int.reduceLT, Int.reduceLE, Int.reduceEq, ng] at IH h103
    simp only [go_sem, Nat.reduceAdd, Nat.reduceSub, Nat.reduceMul, Nat.reduceDiv, Nat.reduceMod, Nat.reduceLeDiff, Nat.reduceBEq, Int.reduceToNat, Int.reduceLT, Int.reduceLE, Int.reduceEq, lt_t h2, h1, q1, hx', hx2, h103, h6]
    exact IH
theorem lft_len {N : Nat} : ∀ (gs : List Ln) (ks : List Int) (x : Ln), x.co.length = N → (∀ g ∈ gs, g.co.length = N) → (lft x gs ks).co.length = N
  | [], ks, x, hx, _ => by cases ks <;> simpa [lft] using hx
  | g :: gs, [], x, hx, _ => by simpa [lft] using hx
  | g :: gs, k :: ks, x, hx, hg => by
    simp only [lft]
    refine lft_len gs ks _ ?_ fun a ha => hg a (by simp [ha])
    simp only [pls, List.length_zipWith, hx, hg g (by simp)]; simp
def left (y : Stp) (c : Cl) : Ln := lft (pls y.goal ⟨false, List.replicate c.sp.length 0, 0⟩ c.go) c.gv y.gv
structure Cl.Even (c : Cl) : Prop where
  fit : c.Fit
  gv : ∀ g ∈ c.gv, g.co.length = c.sp.length
  go : c.go.co.length = c.sp.length
theorem run99 (n : Nat) (y : Stp) (c : Cl) (hc : c.Even) (hy : c.gv.length ≤ y.gv.length) :
    fin [.cell 2 true 2] (aCode (level E (n+3)) ⟨0, false⟩ c99 ⟨[.imm (.agg (enT y)), .imm (.agg (enC c)), .junk, .junk, .junk, .junk, .junk, .junk, .junk, .junk, .junk, .junk], [], none⟩) =
      (if c.sp.length = 0 then some (.agg [.e0 1, .imm (.int .i64 (left y c).c)], [.box [.e0 1, .imm (.int .i64 (left y c).c)], .box [.e0 1, .imm (.int .i64 (left y c).c)]], none)
       else some (.agg [.ref 2 1 0 c.sp.length, .imm (.int .i64 (left y c).c)], [.box [.ref 2 1 0 c.sp.length, .imm (.int .i64 (left y c).c)], .box [.ref 2 1 0 c.sp.length, .imm (.int .i64 (left y c).c)], .arr 1 ((left y c).co.map ic)], none)) := by
  obtain ⟨sn, sp, gn, gv, go⟩ := c
  obtain ⟨hf, hg, ho⟩ := hc
  simp only at hg ho hy
  by_cases h0 : sp.length = 0
  · have e1 : go.co = [] := by cases h : go.co <;> simp [h] at ho ⊢; omega
    have e2 : ∀ g ∈ gv, g.co = [] := fun g hgm => by have := hg g hgm; rw [h0] at this; exact List.eq_nil_of_length_eq_zero this
    have h102 := ok102 (n+2) 0 (by omega)
    have hl := l99_0 (n := n+1) (gn := gn) (gv := gv) (y := y) (by have := hf.gv; simp at this; omega) e2 rfl gv y.gv (ad 0 (ml y.goal go.c)) 0 rfl rfl hy
    have e3 : sp = [] := List.eq_nil_of_length_eq_zero h0
    subst e3
    have e4 : left y ⟨sn, [], gn, gv, go⟩ = lft ⟨false, [], ad 0 (ml y.goal go.c)⟩ gv y.gv := by simp [left, pls, e1]
    rw [e4]
    simp only [go_sem, Nat.reduceAdd, Nat.reduceSub, Nat.reduceMul, Nat.reduceDiv, Nat.reduceMod, Nat.reduceLeDiff, Nat.reduceBEq, Int.reduceToNat, Int.reduceLT, Int.reduceLE, Int.reduceEq, slD_f, List.replicate] at h102
    simp only [go_sem, Nat.reduceAdd, Nat.reduceSub, Nat.reduceMul, Nat.reduceDiv, Nat.reduceMod, Nat.reduceLeDiff, Nat.reduceBEq, Int.reduceToNat, Int.reduceLT, Int.reduceLE, Int.reduceEq] at hl
    simp only [go_sem, Nat.reduceAdd, Nat.reduceSub, Nat.reduceMul, Nat.reduceDiv, Nat.reduceMod, Nat.reduceLeDiff, Nat.reduceBEq, Int.reduceToNat, Int.reduceLT, Int.reduceLE, Int.reduceEq, h102, e1, ok103_0, hl]
  · obtain ⟨N, hN⟩ : ∃ N, N = sp.length := ⟨_, rfl⟩
    have hb := hf.sp
    simp only at hb
    have h102 := ok102 (n+2) N (by omega)
    have h103 := ok103_1 (n+1) N (List.replicate N 0) 0 go y.goal (by simp) (by rw [ho, hN]) (by omega) (by omega)
    have hz : (List.zipWith (fun a b => ad a (ml y.goal b)) (List.replicate N 0) go.co).length = N := by rw [List.length_zipWith, ho]; simp [hN]
    have hl := l99_1 (n := n+1) (N := N) (gn := gn) (gv := gv) (y := y) (by omega) (by omega) (by have := hf.gv; simp at this; omega) (fun g hgm => by rw [hg g hgm, hN]) rfl gv y.gv (List.zipWith (fun a b => ad a (ml y.goal b)) (List.replicate N 0) go.co) (ad 0 (ml y.goal go.c)) 0 rfl rfl hy hz
    have e4 : left y ⟨sn, sp, gn, gv, go⟩ = lft ⟨false, List.zipWith (fun a b => ad a (ml y.goal b)) (List.replicate N 0) go.co, ad 0 (ml y.goal go.c)⟩ gv y.gv := by simp [left, pls, hN]
    have hll : (lft ⟨false, List.zipWith (fun a b => ad a (ml y.goal b)) (List.replicate N 0) go.co, ad 0 (ml y.goal go.c)⟩ gv y.gv).co.length = N := lft_len gv y.gv _ hz fun g hgm => by rw [hg g hgm, hN]
    rw [e4]
    rw [← hN] at h0
    simp only [go_sem, Nat.reduceAdd, Nat.reduceSub, Nat.reduceMul, Nat.reduceDiv, Nat.reduceMod, Nat.reduceLeDiff, Nat.reduceBEq, Int.reduceToNat, Int.reduceLT, Int.reduceLE, Int.reduceEq, slD_f] at h102
    simp only [go_sem, Nat.reduceAdd, Nat.reduceSub, Nat.reduceMul, Nat.reduceDiv, Nat.reduceMod, Nat.reduceLeDiff, Nat.reduceBEq, Int.reduceToNat, Int.reduceLT, Int.reduceLE, Int.reduceEq] at hl h103
    simp only [go_sem, Nat.reduceAdd, Nat.reduceSub, Nat.reduceMul, Nat.reduceDiv, Nat.reduceMod, Nat.reduceLeDiff, Nat.reduceBEq, Int.reduceToNat, Int.reduceLT, Int.reduceLE, Int.reduceEq, ← hN, h102, h103, hl, h0]
theorem ok99P (n : Nat) (y : Stp) (c : Cl) (hc : c.Even) (hy : c.gv.length ≤ y.gv.length) : callP (level E (n+4)) 99 [.agg (enT y), .agg (enC c)] = some (.agg [slD false 1 ((left y c).co.map ic), .int .i64 (left y c).c]) := by
  rw [p99, run99 n y c hc hy]
  have hl : (left y c).co.length = c.sp.length := lft_len c.gv y.gv _ (by simp [pls, hc.go]) hc.gv
  by_cases h0 : c.sp.length = 0
  · have e : (left y c).co = [] := List.eq_nil_of_length_eq_zero (by omega)
    simp only [go_sem, Nat.reduceAdd, Nat.reduceSub, Nat.reduceMul, Nat.reduceDiv, Nat.reduceMod, Nat.reduceLeDiff, Nat.reduceBEq, Int.reduceToNat, Int.reduceLT, Int.reduceLE, Int.reduceEq, h0, e, slD_f]
  · rw [if_neg h0]
    have e : ((left y c).co.map ic).take c.sp.length = (left y c).co.map ic := take_self (by simpa using hl)
    have e2 : c.sp.length ≤ (left y c).co.length := by omega
    simp only [go_sem, Nat.reduceAdd, Nat.reduceSub, Nat.reduceMul, Nat.reduceDiv, Nat.reduceMod, Nat.reduceLeDiff, Nat.reduceBEq, Int.reduceToNat, Int.reduceLT, Int.reduceLE, Int.reduceEq, e, e2, slD_f]
theorem ok99I_0 (n : Nat) (y : Stp) (c : Cl) (hc : c.Even) (hy : c.gv.length ≤ y.gv.length) (h0 : c.sp.length = 0) : callI (level E (n+4)) 99 [.agg (enT y), .agg (enC c)] = some (.agg [.e0 1, .imm (.int .i64 (left y c).c)], []) := by
  rw [i99, run99 n y c hc hy, if_pos h0]
  simp only [go_sem, Nat.reduceAdd, Nat.reduceSub, Nat.reduceMul, Nat.reduceDiv, Nat.reduceMod, Nat.reduceLeDiff, Nat.reduceBEq, Int.reduceToNat, Int.reduceLT, Int.reduceLE, Int.reduceEq]
theorem ok99I_1 (n : Nat) (y : Stp) (c : Cl) (hc : c.Even) (hy : c.gv.length ≤ y.gv.length) (h0 : ¬ c.sp.length = 0) : callI (level E (n+4)) 99 [.agg (enT y), .agg (enC c)] = some (.agg [.ref 0 1 0 c.sp.length, .imm (.int .i64 (left y c).c)], [.arr 1 ((left y c).co.map ic)]) := by
  rw [i99, run99 n y c hc hy, if_neg h0]
  simp only [go_sem, Nat.reduceAdd, Nat.reduceSub, Nat.reduceMul, Nat.reduceDiv, Nat.reduceMod, Nat.reduceLeDiff, Nat.reduceBEq, Int.reduceToNat, Int.reduceLT, Int.reduceLE, Int.reduceEq]
end Go.Vm.P12

/- Chapter 12: what the laws' arguments hold: proofs, points. -/
set_option maxRecDepth 100000
namespace Go.Vm.P12
open Go Go.Vm Go.Proofs Go.ChangeShapes
section
variable {H : Type} {enc : TypeId × Value → H} {W : World} {sp : Nat → Bool} {held : Bool}
theorem ds_agg {ds : List D} {vs : Array Value} (h : Holds W ds vs.toList) : RepD (Old W) W (.agg ds) (.agg vs) := by
  refine .agg _ _ h.1 fun j e hj => ?_
  obtain ⟨w, h1, _, h3⟩ := h.2 j e hj
  have : vs.getD j undef = w := by
    simp only [Array.getElem?_toList] at h1
    simp [Array.getD_eq_getD_getElem?, h1]
  rw [this]; exact h3
end
end Go.Vm.P12
