/- A part of the proof that the law answers true for every input; the conditions are those of the card: the listed variable reads as the program lays it. -/
import Derived.Test.YtgbmhofpndjdoaaDoorV2
import Derived.ChangeKeysEq
set_option linter.unusedSimpArgs false
set_option linter.unusedVariables false
/- Soundness: operations that write nothing,third part (element addresses,slices,functions,comparisons,maps). -/
namespace Go.Vm
open Go
section
variable {P : Program} {gb : Nat → Option (List D)} {C : Ctx} {o : Oper} {a : Act} {W : World} {m : Nat → Option Nat} {F : Nat → Prop} {L : Option Nat} {stL : Sto} {st : List AO} {vars env : List AV} {nid : Nat} {ro : Option Nat} {lo : Lower}
theorem iaddr_rep {arr : Option Nat} {sz : Nat} {t e : TypeId} {x : AV} {w : Value} {k : IntKind} {i : Int} {v : AV} (hu : match arr with | some n => P.underlying t = some (.array n e) | none => P.underlying t = some (.slice e)) (hn : sizeB P e = some sz)
    (hr : RepA m F L W x w) (h : aIaddr arr sz x i = some v) : ∃ u,(Instr.indexAt t w (.int k i)).run P W = .ok u W ∧ RepA m F L W v u:=by
  unfold aIaddr at h
  cases arr with
  | some len =>
    simp only at h hu
    split at h
    · rename_i hi
      split at h
      · rename_i id off
        injection h with h; subst h
        cases hr with
        | ptr _ _ b hm =>
          refine ⟨.pointer (some ⟨b,off + i.toNat * sz,none⟩),?_,.ptr _ _ _ hm⟩
          simp [Instr.indexAt,asIntOf,run_und hu,Instr.sureAddr,hi,run_sizeB hn,add_none]
      · rename_i cs
        injection h with h; subst h
        cases hr with
        | imm _ _ hr =>
          cases hr with
          | ptr _ q c ha hc hr' =>
            refine ⟨.pointer (some ⟨q.block,q.off + i.toNat * sz,none⟩),?_,?_⟩
            · rw [addr_none ha]
              simp [Instr.indexAt,asIntOf,run_und hu,Instr.sureAddr,hi,run_sizeB hn,add_none]
            · refine .imm _ _ (.ptr _ ⟨q.block,q.off + i.toNat * sz,none⟩ (fun j => c (i.toNat * sz + j)) rfl (fun j d hj => ?_) fun j d hj => ?_)
              · rw [List.getElem?_drop] at hj
                have:=hc _ d hj
                simpa [Nat.add_assoc] using this
              · rw [List.getElem?_drop] at hj
                exact hr' _ d hj
      · cases h
    · cases h
  | none =>
    simp only at h hu
    split at h
    · rename_i sz' es
      split at h
      · rename_i hi
        obtain ⟨h0,hs⟩:=hi
        subst hs
        simp only [Option.map_eq_some_iff] at h
        obtain ⟨e0,he,rfl⟩:=h
        cases hr with
        | imm _ _ hr =>
          cases hr with
          | sl _ _ q cap c ha hn' hz hc hr' =>
            have hlt:=(List.getElem?_eq_some_iff.1 he).1
            have ha:=ha (fun h => by rw [h] at hlt; simp at hlt)
            refine ⟨.pointer (some ⟨q.block,q.off + i.toNat * sz',none⟩),?_,?_⟩
            · rw [addr_none ha]
              simp [Instr.indexAt,asIntOf,run_und hu,h0,show i < (es.length : Int) by omega,run_sizeB hn,add_none]
            · refine .imm _ _ (.ptr _ ⟨q.block,q.off + i.toNat * sz',none⟩ (fun j => c i.toNat j) rfl (fun j d hj => ?_) fun j d hj => hr' _ _ j d he hj)
              have:=hc _ _ j d he hj
              simpa [Nat.add_assoc] using this
      · cases h
    · rename_i id sz' lo n
      split at h
      · rename_i hi
        obtain ⟨h0,h1,hs⟩:=hi
        subst hs
        injection h with h; subst h
        cases hr with
        | ref _ _ _ _ b q cap s hm hb ha hoff hs hle hcap =>
          refine ⟨.pointer (some ⟨b,(lo + i.toNat) * sz',none⟩),?_,.ptr _ _ _ hm⟩
          rw [addr_none ha,hb,hoff (by omega)]
          simp [Instr.indexAt,asIntOf,run_und hu,h0,h1,run_sizeB hn,add_none,Nat.add_mul]
      · cases h
    · cases h
theorem sq_iaddr {arr : Option Nat} {sz : Nat} {t e : TypeId} {x y : Operand} {x' y' : Opnd} {k : IntKind} {i : Int} {v : AV} (ho : o.op = .indexAddr t x y) (hu : match arr with | some n => P.underlying t = some (.array n e) | none => P.underlying t = some (.slice e)) (hn : sizeB P e = some sz) (hx : compO C x = some x') (hy : compO C y = some y')
    (R : Rel gb m F L W stL) (hr : OprOk C m F L W o a vars env) (hi : opnd vars env y' = .imm (.int k i)) (h : aIaddr arr sz (opnd vars env x') i = some v) : Ok P ro o a W (QPost gb m F L W stL nid v []):=by
  have h3:=imm_int (hi ▸ hr y y' (by rw [ho]; simp [Op.operands]) hy)
  obtain ⟨u,hu',hv⟩:=iaddr_rep (P:=P) (k:=k) hu hn (hr x x' (by rw [ho]; simp [Op.operands]) hx) h
  exact Ok.qval R (by rw [ho]; simp) (by simp [execOp,ho,h3,hu']) hv
theorem run_bound {k : IntKind} {n y : Nat} {code : BoundsCode} (h : n ≤ y) : (Instr.sliceBound (.int k n) y code).run P W = .ok n W:=by
  simp [Instr.sliceBound,asIntOf,h]
def isB (x : Option Value) (n : Option Nat) : Prop:=match x,n with | none,none => True | some v,some n => ∃ k,v = .int k n | _,_ => False
theorem run_bounds {b : Bool} {len cap : Nat} {x y z : Option Value} {l h : Option Nat} (hx : isB x l) (hy : isB y h) (hz : isB z none) (h1 : l.getD 0 ≤ h.getD len) (h2 : h.getD len ≤ cap) :
    (Instr.sliceBounds b len cap x y z).run P W = .ok (l.getD 0,h.getD len,cap) W:=by
  cases z with
  | some _ => exact hz.elim
  | none =>
    cases x with
    | none =>
      cases l with
      | some _ => exact hx.elim
      | none =>
        cases y with
        | none => cases h with
          | some _ => exact hy.elim
          | none => simp [Instr.sliceBounds]
        | some v => cases h with
          | none => exact hy.elim
          | some n => obtain ⟨k,rfl⟩:=hy; simp at h2; simp [Instr.sliceBounds,run_bound h2]
    | some u =>
      cases l with
      | none => exact hx.elim
      | some q =>
        obtain ⟨j,rfl⟩:=hx
        cases y with
        | none => cases h with
          | some _ => exact hy.elim
          | none => simp at h1; simp [Instr.sliceBounds,run_bound h1]
        | some v => cases h with
          | none => exact hy.elim
          | some n => obtain ⟨k,rfl⟩:=hy; simp at h1 h2; simp [Instr.sliceBounds,run_bound h2,run_bound h1]
theorem run_bounds3 {b : Bool} {len cap m : Nat} {x y z : Option Value} {l h : Option Nat} (hx : isB x l) (hy : isB y h) (hz : isB z (some m)) (h0 : h.isSome = true) (h1 : l.getD 0 ≤ h.getD len) (h2 : h.getD len ≤ m) (h3 : m ≤ cap) :
    (Instr.sliceBounds b len cap x y z).run P W = .ok (l.getD 0,h.getD len,m) W:=by
  cases z with
  | none => exact hz.elim
  | some c =>
    obtain ⟨k3,rfl⟩:=hz
    cases h with
    | none => cases h0
    | some h =>
      cases y with
      | none => exact hy.elim
      | some v =>
        obtain ⟨k,rfl⟩:=hy
        simp at h1 h2
        cases x with
        | none => cases l with
          | some _ => exact hx.elim
          | none => simp [Instr.sliceBounds,run_bound h3,run_bound h2]
        | some u => cases l with
          | none => exact hx.elim
          | some q => obtain ⟨j,rfl⟩:=hx; simp at h1; simp [Instr.sliceBounds,run_bound h3,run_bound h2,run_bound h1]
theorem run_bounds0 {b : Bool} {len cap : Nat} {x y z : Option Value} {l : Option Nat} (hx : isB x l) (hy : isB y (some 0)) (hz : isB z (some 0)) (h1 : l.getD 0 = 0) :
    (Instr.sliceBounds b len cap x y z).run P W = .ok (0,0,0) W:=by
  cases z with
  | none => exact hz.elim
  | some c =>
    obtain ⟨k3,rfl⟩:=hz
    cases y with
    | none => exact hy.elim
    | some d =>
      obtain ⟨k2,rfl⟩:=hy
      have e0 : ∀ (k : IntKind) (y : Nat) (code : BoundsCode),(Instr.sliceBound (.int k ((0 : Nat) : Int)) y code).run P W = .ok 0 W:=fun k y code => run_bound (Nat.zero_le _)
      simp only [Int.natCast_zero] at e0
      cases x with
      | none => simp [Instr.sliceBounds,e0]
      | some e =>
        cases l with
        | none => exact hx.elim
        | some q => obtain ⟨k1,rfl⟩:=hx; simp at h1; subst h1; simp [Instr.sliceBounds,e0]
theorem slice_rep {arr : Option Nat} {sz : Nat} {t e : TypeId} {x : AV} {w : Value} {xl xh xm : Option Value} {l h mx : Option Nat} {v : AV} (hu : match arr with | some n => P.underlying t = some (.array n e) | none => P.underlying t = some (.slice e)) (hn : sizeB P e = some sz)
    (R : Rel gb m F L W stL) (hr : RepA m F L W x w) (hS : ∀ i ∈ ids x,i < st.length → stL i = sto st i) (hl : isB xl l) (hh : isB xh h) (hmx : isB xm mx) (hv : aSlice st arr sz x l h mx = some v) : ∃ u,(Instr.sliceAt t w xl xh xm).run P W = .ok u W ∧ RepA m F L W v u:=by
  unfold aSlice at hv
  cases arr with
  | some n =>
    simp only at hv hu
    cases mx with
    | some _ => cases hv
    | none =>
      simp only at hv
      split at hv
      · rename_i hb
        have rb:=run_bounds (P:=P) (W:=W) (b:=false) (len:=n) (cap:=n) hl hh hmx hb.1 hb.2
        split at hv
        · rename_i id off
          split at hv
          · rename_i cs hcs
            split at hv
            · rename_i hc
              injection hv with hv; subst hv
              cases hr with
              | ptr _ _ b hm =>
                have hrow : ∃ s,rowSize W b = some s ∧ cs.length = s:=by
                  unfold rdBox at hcs
                  split at hcs
                  · rename_i cs' hst
                    injection hcs with hcs; subst hcs
                    obtain ⟨c,ty,h1,h2,_⟩:=look R (hS id (by simp [ids])) hst (by simp) hm
                    exact ⟨c.size,by simp [rowSize,h1],h2⟩
                  · rename_i cs' hst
                    injection hcs with hcs; subst hcs
                    obtain ⟨c,ty,h1,h2,_⟩:=look R (hS id (by simp [ids])) hst (by simp) hm
                    exact ⟨c.size,by simp [rowSize,h1],by simpa using h2⟩
                  · cases hcs
                obtain ⟨s,hs1,hs2⟩:=hrow
                refine ⟨.slice (some (if n = l.getD 0 then ⟨b,off,none⟩ else ⟨b,off + l.getD 0 * sz,none⟩)) (h.getD n - l.getD 0) (n - l.getD 0),?_,?_⟩
                · simp [Instr.sliceAt,run_und hu,Instr.sureAddr,rb,run_sizeB hn,add_none]
                · have hoff : off / sz * sz = off:=by
                    have:=Nat.div_add_mod off sz; rw [hc.1,Nat.mul_comm] at this; omega
                  refine .ref _ _ _ _ b _ _ s hm (by split <;> rfl) (by split <;> rfl) (fun hp => ?_) hs1 ?_ (by omega)
                  · rw [if_neg (by omega)]; rw [Nat.add_mul,hoff]
                  · have : off / sz + l.getD 0 + (n - l.getD 0) = off / sz + n:=by omega
                    rw [this,Nat.add_mul,hoff]; omega
            · cases hv
          · cases hv
        · rename_i cs
          split at hv
          · rename_i hc
            injection hv with hv; subst hv
            cases hr with
            | imm _ _ hr =>
              cases hr with
              | ptr _ q c ha hc' hr' =>
                refine ⟨.slice (some (if n = l.getD 0 then q else q.add (l.getD 0 * sz))) (h.getD n - l.getD 0) (n - l.getD 0),?_,?_⟩
                · simp [Instr.sliceAt,run_und hu,Instr.sureAddr,rb,run_sizeB hn]
                · have hlen:=chunks_len sz (h.getD n - l.getD 0) (cs.drop (l.getD 0 * sz))
                  have key : ∀ i e j d,(chunks sz (h.getD n - l.getD 0) (cs.drop (l.getD 0 * sz)))[i]? = some e → e[j]? = some d → i < h.getD n - l.getD 0 ∧ cs[l.getD 0 * sz + (i * sz + j)]? = some d:=by
                    intro i e j d h5 h6
                    obtain ⟨k1,k2⟩:=chunks_get _ _ _ _ _ h5
                    subst k2
                    have hj : j < sz:=by have:=(List.getElem?_eq_some_iff.1 h6).1; simp at this; omega
                    rw [List.getElem?_take,if_pos hj,List.drop_drop,List.getElem?_drop] at h6
                    exact ⟨k1,by rw [← h6]; congr 1; omega⟩
                  have hsl:=RepD.sl (F:=F) (W:=W) sz (chunks sz (h.getD n - l.getD 0) (cs.drop (l.getD 0 * sz))) (if n = l.getD 0 then q else q.add (l.getD 0 * sz)) (n - l.getD 0) (fun i j => c (l.getD 0 * sz + (i * sz + j)))
                    (by intro _; split; exact ha; rw [addr_none ha,add_none]) (by omega)
                    (chunks_sz (by
                      rw [List.length_drop]
                      have h7 : (h.getD n - l.getD 0) * sz + l.getD 0 * sz = h.getD n * sz:=by rw [← Nat.add_mul]; congr 1; omega
                      omega))
                    (fun i e j d h5 h6 => by
                      obtain ⟨k1,k2⟩:=key i e j d h5 h6
                      obtain ⟨k3,k4,k5⟩:=hc' _ d k2
                      rw [if_neg (by omega),addr_none ha,add_none]
                      exact ⟨k3,by rw [← k4]; simp [Nat.add_assoc],k5⟩)
                    (fun i e j d h5 h6 => hr' _ d (key i e j d h5 h6).2)
                  rw [hlen] at hsl
                  exact .imm _ _ hsl
          · cases hv
        · cases hv
      · cases hv
  | none =>
    simp only at hv hu
    have z0 : ∀ (q : Option Addr) (len cap : Nat),mx = some 0 → h = some 0 → l.getD 0 = 0 → (Instr.sliceAt t (.slice q len cap) xl xh xm).run P W = .ok (.slice q 0 0) W:=by
      intro q len cap h1 h2 h3
      subst h1; subst h2
      have rb:=run_bounds0 (P:=P) (W:=W) (b:=true) (len:=len) (cap:=cap) hl hh hmx h3
      simp [Instr.sliceAt,Instr.slice,run_und hu,rb,run_sizeB hn]
    have g0 : ∀ (q : Option Addr) (len cap : Nat),mx = none → l.getD 0 ≤ h.getD len → h.getD len ≤ cap →
        (Instr.sliceAt t (.slice q len cap) xl xh xm).run P W = .ok (.slice (if cap = l.getD 0 then q else q.map (·.add (l.getD 0 * sz))) (h.getD len - l.getD 0) (cap - l.getD 0)) W:=by
      intro q len cap h0 h1 h2
      subst h0
      have rb:=run_bounds (P:=P) (W:=W) (b:=true) (len:=len) (cap:=cap) hl hh hmx h1 h2
      simp [Instr.sliceAt,Instr.slice,run_und hu,rb,run_sizeB hn]
    split at hv
    · have e : w = .slice none 0 0:=by cases hr with | imm _ _ hr => cases hr; rfl
      subst e
      split at hv
      · rename_i q
        split at hv
        · rename_i hc
          injection hv with hv; subst hv
          exact ⟨_,z0 _ _ _ (by rw [hc.1]) hc.2.1 hc.2.2,.imm _ _ .nil⟩
        · cases hv
      · split at hv
        · rename_i hc
          injection hv with hv; subst hv
          refine ⟨_,g0 none 0 0 rfl (by omega) (by omega),?_⟩
          have : l.getD 0 = 0:=hc.1
          simp [this,hc.2]
          exact .imm _ _ .nil
        · cases hv
    · rename_i sz' es
      split at hv
      · rename_i q
        split at hv
        · rename_i hc
          injection hv with hv; subst hv
          cases hr with
          | imm _ _ hr =>
            cases hr with
            | sl _ _ p cap c ha hn' hz hc' hr' => exact ⟨_,z0 _ _ _ (by rw [hc.1]) hc.2.1 hc.2.2,.e0 _ _⟩
        · cases hv
      · split at hv
        · rename_i hc
          obtain ⟨hs,h1,h2⟩:=hc
          subst hs
          injection hv with hv; subst hv
          cases hr with
          | imm _ _ hr =>
            cases hr with
            | sl _ _ p cap c ha hn' hz hc' hr' =>
              refine ⟨_,g0 (some p) es.length cap rfl h1 (by omega),?_⟩
              have hlen : ((es.drop (l.getD 0)).take (h.getD es.length - l.getD 0)).length = h.getD es.length - l.getD 0:=by simp; omega
              have key : ∀ (i : Nat) (e : List D) (j : Nat) (d : D),((es.drop (l.getD 0)).take (h.getD es.length - l.getD 0))[i]? = some e → e[j]? = some d → i < h.getD es.length - l.getD 0 ∧ es[l.getD 0 + i]? = some e:=by
                intro i e j d h5 _
                have hi : i < h.getD es.length - l.getD 0:=by have:=(List.getElem?_eq_some_iff.1 h5).1; omega
                rw [List.getElem?_take,if_pos hi,List.getElem?_drop] at h5
                exact ⟨hi,h5⟩
              have hsl:=RepD.sl (F:=F) (W:=W) sz' ((es.drop (l.getD 0)).take (h.getD es.length - l.getD 0)) (if cap = l.getD 0 then p else p.add (l.getD 0 * sz')) (cap - l.getD 0) (fun i j => c (l.getD 0 + i) j)
                (by intro hne; have ha:=ha (fun h => hne (by rw [h]; simp)); split; exact ha; rw [addr_none ha,add_none]) (by omega) (fun e he => hz e (List.mem_of_mem_drop (List.mem_of_mem_take he)))
                (fun i e j d h5 h6 => by
                  obtain ⟨k1,k2⟩:=key i e j d h5 h6
                  obtain ⟨k3,k4,k5⟩:=hc' _ e j d k2 h6
                  rw [if_neg (by omega),addr_none (ha (fun h => by rw [h] at k2; simp at k2)),add_none]
                  exact ⟨k3,by rw [← k4]; simp only [Nat.add_mul,Nat.add_assoc],k5⟩)
                (fun i e j d h5 h6 => hr' _ e j d (key i e j d h5 h6).2 h6)
              rw [hlen] at hsl
              have e : (if cap = l.getD 0 then some p else Option.map (fun x => x.add (l.getD 0 * sz')) (some p)) = some (if cap = l.getD 0 then p else p.add (l.getD 0 * sz')):=by split <;> rfl
              rw [e]
              exact .imm _ _ hsl
        · cases hv
    · rename_i id sz' lo n
      cases hr with
      | ref _ _ _ _ b p cap s hm hb ha hoff hs hle hcap =>
        split at hv
        · rename_i q
          split at hv
          · rename_i hc
            injection hv with hv; subst hv
            exact ⟨_,z0 _ _ _ (by rw [hc.1]) hc.2.1 hc.2.2,.e0 _ _⟩
          · split at hv
            · rename_i hc
              injection hv with hv; subst hv
              have rb:=run_bounds3 (P:=P) (W:=W) (b:=true) (len:=n) (cap:=cap) hl hh hmx hc.1 hc.2.1 hc.2.2.1 (by omega)
              exact ⟨_,by simp [Instr.sliceAt,Instr.slice,run_und hu,rb,run_sizeB hn]; rfl,.junk _⟩
            · cases hv
        · split at hv
          · rename_i hc
            obtain ⟨hs',h1,h2⟩:=hc
            subst hs'
            have h3 : h.getD n ≤ cap:=by
              rcases h2 with h2 | h2
              · omega
              · unfold spare at h2
                split at h2
                · rename_i sz2 es hst
                  have h2:=of_decide_eq_true h2
                  obtain ⟨e1,h4,h5⟩:=h2
                  subst e1
                  obtain ⟨c,ty,k1,_,k2,_⟩:=look R (hS id (by simp [ids])) hst (by simp) hm
                  have k3 : s = c.size:=by
                    unfold rowSize at hs
                    rw [k1] at hs
                    exact (Option.some.inj hs).symm
                  rw [← k3,← hle] at k2
                  have:=Nat.le_of_mul_le_mul_right k2 h4
                  omega
                · cases h2
            injection hv with hv; subst hv
            refine ⟨_,g0 (some p) n cap rfl h1 h3,?_⟩
            have e : (if cap = l.getD 0 then some p else Option.map (fun x => x.add (l.getD 0 * sz')) (some p)) = some (if cap = l.getD 0 then p else p.add (l.getD 0 * sz')):=by split <;> rfl
            rw [e]
            refine .ref _ _ _ _ b _ _ s hm (by split; exact hb; rw [addr_none ha,add_none]; exact hb) (by split; exact ha; rw [addr_none ha,add_none]) (fun hp => ?_) hs ?_ (by omega)
            · rw [if_neg (by omega),addr_none ha,add_none,Nat.add_mul,hoff (by omega)]
            · have : lo + l.getD 0 + (cap - l.getD 0) = lo + cap:=by omega
              rw [this]; exact hle
          · cases hv
    · cases hr with
      | e0 _ p =>
        split at hv
        · rename_i q
          split at hv
          · rename_i hc
            injection hv with hv; subst hv
            exact ⟨_,z0 _ _ _ (by rw [hc.1]) hc.2.1 hc.2.2,.e0 _ _⟩
          · cases hv
        · split at hv
          · rename_i hc
            injection hv with hv; subst hv
            refine ⟨_,g0 (some p) 0 0 rfl (by omega) (by omega),?_⟩
            have : l.getD 0 = 0:=hc.1
            simp [this,hc.2]
            exact .e0 _ _
          · cases hv
    · cases hv
def bndO (vars env : List AV) (x : Option Opnd) : Option (Option Nat) :=
  match x with
  | none => some none
  | some x => match getI (opnd vars env x) with | some n => if 0 ≤ n then some (some n.toNat) else none | none => none
theorem bnd_isB {x : Option Operand} {x' : Option Opnd} {n : Option Nat} (hx : compOo C x = some x') (hr : ∀ y y',x = some y → compO C y = some y' → RepA m F L W (opnd vars env y') (a.eval y)) (h : bndO vars env x' = some n) : isB (x.map a.eval) n:=by
  cases x with
  | none =>
    simp only [compOo] at hx; injection hx with hx; subst hx
    simp only [bndO] at h; injection h with h; subst h
    exact True.intro
  | some y =>
    simp only [compOo,Option.map_eq_some_iff] at hx
    obtain ⟨y',hy,rfl⟩:=hx
    have hrep:=hr y y' rfl hy
    simp only [bndO] at h
    split at h
    · rename_i q hq
      split at h
      · rename_i h0
        injection h with h; subst h
        unfold getI at hq
        split at hq
        · rename_i k q' e
          injection hq with hq; subst hq
          rw [e] at hrep
          refine ⟨k,?_⟩
          rw [imm_int hrep]
          simp [Int.toNat_of_nonneg h0]
        · cases hq
      · cases h
    · cases h
theorem sq_slice {arr : Option Nat} {sz : Nat} {t e : TypeId} {x : Operand} {xl xh xm : Option Operand} {x' : Opnd} {yl yh ym : Option Opnd} {l h mx : Option Nat} {v : AV} (ho : o.op = .slice t x xl xh xm) (hu : match arr with | some n => P.underlying t = some (.array n e) | none => P.underlying t = some (.slice e)) (hn : sizeB P e = some sz)
    (hx : compO C x = some x') (hxl : compOo C xl = some yl) (hxh : compOo C xh = some yh) (hxm : compOo C xm = some ym) (R : Rel gb m F L W stL) (hr : OprOk C m F L W o a vars env) (hS : ∀ i ∈ ids (opnd vars env x'),i < st.length → stL i = sto st i)
    (hl : bndO vars env yl = some l) (hh : bndO vars env yh = some h) (hmx : bndO vars env ym = some mx) (hv : aSlice st arr sz (opnd vars env x') l h mx = some v) : Ok P ro o a W (QPost gb m F L W stL nid v []):=by
  have b1:=bnd_isB (a:=a) hxl (fun y y' e hy => hr y y' (by rw [ho,e]; simp [Op.operands]) hy) hl
  have b2:=bnd_isB (a:=a) hxh (fun y y' e hy => hr y y' (by rw [ho,e]; simp [Op.operands]) hy) hh
  have b3:=bnd_isB (a:=a) hxm (fun y y' e hy => hr y y' (by rw [ho,e]; simp [Op.operands]) hy) hmx
  obtain ⟨u,hu',hrep⟩:=slice_rep (P:=P) hu hn R (hr x x' (by rw [ho]; simp [Op.operands]) hx) hS b1 b2 b3 hv
  exact Ok.qval R (by rw [ho]; simp) (by simp [execOp,ho,hu']) hrep
end
end Go.Vm

/- Soundness: function values,building,comparing; new blocks. -/
namespace Go.Vm
open Go
section
variable {P : Program} {gb : Nat → Option (List D)} {C : Ctx} {o : Oper} {a : Act} {W : World} {m : Nat → Option Nat} {F : Nat → Prop} {L : Option Nat} {stL : Sto} {st : List AO} {vars env : List AV} {nid : Nat} {ro : Option Nat} {lo : Lower}
theorem compL_get : ∀ {l : List Operand} {l' : List Opnd},compL C l = some l' → l'.length = l.length ∧ ∀ (j : Nat) (x' : Opnd),l'[j]? = some x' → ∃ x : Operand,l[j]? = some x ∧ compO C x = some x'
  | [],l',h => by simp only [compL] at h; injection h with h; subst h; simp
  | x :: r,l',h => by
    simp only [compL] at h
    split at h
    · rename_i x' xs h1 h2
      injection h with h; subst h
      obtain ⟨h3,h4⟩:=compL_get h2
      refine ⟨by simp [h3],fun j y hj => ?_⟩
      cases j with
      | zero => simp at hj; subst hj; exact ⟨x,by simp,h1⟩
      | succ j => obtain ⟨z,hz,hc⟩:=h4 j y (by simpa using hj); exact ⟨z,by simpa using hz,hc⟩
    · cases h
theorem rep_opnds {xs : Array Operand} {l' : List Opnd} (h : compL C xs.toList = some l') (hr : ∀ x x',x ∈ xs.toList → compO C x = some x' → RepA m F L W (opnd vars env x') (a.eval x)) :
    (xs.map a.eval).size = (opnds vars env l').length ∧ ∀ j d,(opnds vars env l')[j]? = some d → RepA m F L W d ((xs.map a.eval).getD j undef):=by
  obtain ⟨h1,h2⟩:=compL_get h
  refine ⟨by simp [opnds,h1],fun j d hj => ?_⟩
  simp only [opnds,List.getElem?_map,Option.map_eq_some_iff] at hj
  obtain ⟨x',hx',rfl⟩:=hj
  obtain ⟨x,hx,hc⟩:=h2 j x' hx'
  have hm : x ∈ xs.toList:=List.mem_of_getElem? hx
  have hlt : j < xs.size:=by have:=(List.getElem?_eq_some_iff.1 hx).1; simpa using this
  have hget : xs[j] = x:=by have:=(List.getElem?_eq_some_iff.1 hx).2; simpa using this
  have e : (xs.map a.eval).getD j undef = a.eval x:=by simp [hlt,hget]
  rw [e]; exact hr x x' hm hc
theorem rep_mkFn {f : FuncId} {x y : List AV} {vx vy : Array Value} (hx : vx.size = x.length) (hy : vy.size = y.length) (rx : ∀ j d,x[j]? = some d → RepA m F L W d (vx.getD j undef)) (ry : ∀ j d,y[j]? = some d → RepA m F L W d (vy.getD j undef)) :
    RepA m F L W (mkFn f x y) (.func (.func f) vx vy):=by
  unfold mkFn
  split
  · rename_i dx dy h1 h2
    have e1:=dsOf_some h1
    have e2:=dsOf_some h2
    subst e1; subst e2
    refine .imm _ _ (.fn f dx dy vx vy (by simpa using hx) (by simpa using hy) (fun j d hj => ?_) fun j d hj => ?_)
    · have:=rx j (.imm d) (by simp [hj]); cases this with | imm _ _ h => exact h
    · have:=ry j (.imm d) (by simp [hj]); cases this with | imm _ _ h => exact h
  · exact .clo f x y vx vy hx hy rx ry
theorem sq_mkfn {f : FuncId} {x y : Array Operand} {x' y' : List Opnd} (ho : o.op = .makeFunc (.func f) x y) (hx : compL C x.toList = some x') (hy : compL C y.toList = some y') (R : Rel gb m F L W stL) (hr : OprOk C m F L W o a vars env) :
    Ok P ro o a W (QPost gb m F L W stL nid (mkFn f (opnds vars env x') (opnds vars env y')) []):=by
  obtain ⟨h1,h2⟩:=rep_opnds (a:=a) (m:=m) (F:=F) (L:=L) (W:=W) (vars:=vars) (env:=env) hx fun z z' hz hc => hr z z' (by rw [ho]; simp only [Op.operands,Array.mem_append]; exact .inl (by simpa using hz)) hc
  obtain ⟨h3,h4⟩:=rep_opnds (a:=a) (m:=m) (F:=F) (L:=L) (W:=W) (vars:=vars) (env:=env) hy fun z z' hz hc => hr z z' (by rw [ho]; simp only [Op.operands,Array.mem_append]; exact .inr (by simpa using hz)) hc
  exact Ok.qval R (by rw [ho]; simp) (w:=.func (.func f) (x.map a.eval) (y.map a.eval)) (by simp [execOp,ho,Instr.makeFunc]) (rep_mkFn h1 h3 h2 h4)
theorem foldl_set (off : Nat) : ∀ (l : List Value) (i : Nat) (cells : Array Value),off + i + l.length ≤ cells.size →
    ((l.zipIdx i).foldl (fun cs (p : Value × Nat) => cs.setIfInBounds (off + p.2) p.1) cells).size = cells.size ∧
    ∀ k,((l.zipIdx i).foldl (fun cs (p : Value × Nat) => cs.setIfInBounds (off + p.2) p.1) cells).getD k undef = if off + i ≤ k ∧ k < off + i + l.length then l.getD (k - (off + i)) undef else cells.getD k undef
  | [],i,cells,_ => by simp; intro k h1 h2; omega
  | v :: r,i,cells,h => by
    simp only [List.length_cons] at h
    obtain ⟨h1,h2⟩:=foldl_set off r (i + 1) (cells.setIfInBounds (off + i) v) (by simp; omega)
    simp only [List.zipIdx_cons,List.foldl_cons]
    refine ⟨by rw [h1]; simp,fun k => ?_⟩
    rw [h2 k]
    by_cases hk : k = off + i
    · subst hk
      rw [if_neg (by omega),if_pos (by simp)]
      have hlt : off + i < cells.size:=by omega
      simp [hlt]
    · by_cases hk2 : off + (i + 1) ≤ k ∧ k < off + (i + 1) + r.length
      · rw [if_pos hk2,if_pos (by simp; omega)]
        have : k - (off + i) = (k - (off + (i + 1))) + 1:=by omega
        rw [this]; simp
      · rw [if_neg hk2,if_neg (by simp; omega)]
        simp only [Array.getD_eq_getD_getElem?]
        rw [Array.getElem?_setIfInBounds_ne (by omega)]
theorem foldl_arr (off : Nat) (c cells : Array Value) : c.zipIdx.foldl (fun cs (x : Value × Nat) => match x with | (c,j) => cs.setIfInBounds (off + j) c) cells = (c.toList.zipIdx 0).foldl (fun cs (p : Value × Nat) => cs.setIfInBounds (off + p.2) p.1) cells:=by
  rw [← Array.foldl_toList]
  simp
theorem fill_rep {place : Nat → Option (Nat × Nat)} : ∀ (ps : List (Nat × Value)) (qs : List (Nat × Nat × AV)) (z cs : List AV) (cells : Array Value),qs.length = ps.length →
    (∀ (j : Nat) (q : Nat × Nat × AV),qs[j]? = some q → ∃ p : Nat × Value,ps[j]? = some p ∧ place p.1 = some (q.1,q.2.1) ∧ RepA m F L W q.2.2 p.2) →
    cells.size = z.length → (∀ j d,z[j]? = some d → RepA m F L W d (cells.getD j undef)) → fillA z qs = some cs →
    ∃ cells',Instr.fill place cells ps = some cells' ∧ cells'.size = cs.length ∧ cells'.size = cells.size ∧ ∀ j d,cs[j]? = some d → RepA m F L W d (cells'.getD j undef)
  | [],[],z,cs,cells,_,_,hl,hr,h => by
    simp only [fillA] at h; injection h with h; subst h
    exact ⟨cells,by simp [Instr.fill],hl,rfl,hr⟩
  | p :: ps,[],_,_,_,hlen,_,_,_,_ => by simp at hlen
  | [],q :: qs,_,_,_,hlen,_,_,_,_ => by simp at hlen
  | p :: ps,(off,n,v) :: qs,z,cs,cells,hlen,hp,hl,hr,h => by
    obtain ⟨i,u⟩:=p
    simp only [fillA] at h
    split at h
    · rename_i hc
      obtain ⟨h1,h2,h3⟩:=hc
      obtain ⟨p',hp',hpl,hrep⟩:=hp 0 (off,n,v) (by simp)
      simp at hp'; subst hp'
      simp only at hpl hrep
      obtain ⟨hs1,hs2⟩:=rep_cellsOf h3 hrep
      obtain ⟨g1,g2⟩:=foldl_set off u.cells.toList 0 cells (by simp; omega)
      rw [← foldl_arr] at g1 g2
      simp only [Array.length_toList,Nat.add_zero] at g1 g2
      obtain ⟨cells',e1,e2,e3,e4⟩:=fill_rep (place:=place) ps qs _ cs (u.cells.zipIdx.foldl (fun cs (x : Value × Nat) => match x with | (c,j) => cs.setIfInBounds (off + j) c) cells) (by simpa using hlen)
        (fun j q hj => hp (j + 1) q (by simpa using hj)) (by rw [g1]; simp; omega) (fun j d hj => by
          rw [g2 j]
          by_cases hj1 : j < off
          · rw [if_neg (by omega)]
            rw [List.append_assoc,List.getElem?_append_left (by simp; omega),List.getElem?_take,if_pos hj1] at hj
            exact hr j d hj
          · by_cases hj2 : j < off + n
            · rw [if_pos (by omega)]
              rw [List.append_assoc,List.getElem?_append_right (by simp; omega),List.getElem?_append_left (by simp; omega)] at hj
              have e : j - (z.take off).length = j - off:=by simp; omega
              rw [e] at hj
              have:=hs2 _ d hj
              simpa using this
            · rw [if_neg (by omega)]
              rw [List.getElem?_append_right (by simp; omega),List.getElem?_drop] at hj
              have e : off + n + (j - (z.take off ++ cellsOf v).length) = j:=by simp; omega
              rw [e] at hj
              exact hr j d hj) h
      refine ⟨cells',?_,e2,by rw [e3,g1],e4⟩
      simp only [Instr.fill,hpl]
      rw [if_neg (by simp; omega)]
      exact e1
    · cases h
theorem compP2_get {place : Nat → Option (Nat × Nat)} : ∀ {l : List (Nat × Operand)} {l' : List (Nat × Nat × Opnd)},compP2 C place l = some l' → l'.length = l.length ∧ ∀ (j : Nat) (q : Nat × Nat × Opnd),l'[j]? = some q → ∃ p : Nat × Operand,l[j]? = some p ∧ place p.1 = some (q.1,q.2.1) ∧ compO C p.2 = some q.2.2
  | [],l',h => by simp only [compP2] at h; injection h with h; subst h; simp
  | (i,x) :: r,l',h => by
    simp only [compP2] at h
    split at h
    · rename_i off n x' xs h0 h1 h2
      injection h with h; subst h
      obtain ⟨h3,h4⟩:=compP2_get h2
      refine ⟨by simp [h3],fun j y hj => ?_⟩
      cases j with
      | zero => simp at hj; subst hj; exact ⟨(i,x),by simp,h0,h1⟩
      | succ j => obtain ⟨z,hz,hc⟩:=h4 j y (by simpa using hj); exact ⟨z,by simpa using hz,hc⟩
    · cases h
theorem compP1_get : ∀ {l : List (Nat × Operand)} {l' : List (Nat × Opnd)},compP1 C l = some l' → l'.length = l.length ∧ ∀ (j : Nat) (q : Nat × Opnd),l'[j]? = some q → ∃ p : Nat × Operand,l[j]? = some p ∧ p.1 = q.1 ∧ compO C p.2 = some q.2
  | [],l',h => by simp only [compP1] at h; injection h with h; subst h; simp
  | (i,x) :: r,l',h => by
    simp only [compP1] at h
    split at h
    · rename_i x' xs h1 h2
      injection h with h; subst h
      obtain ⟨h3,h4⟩:=compP1_get h2
      refine ⟨by simp [h3],fun j y hj => ?_⟩
      cases j with
      | zero => simp at hj; subst hj; exact ⟨(i,x),by simp,rfl,h1⟩
      | succ j => obtain ⟨z,hz,hc⟩:=h4 j y (by simpa using hj); exact ⟨z,by simpa using hz,hc⟩
    · cases h
end
end Go.Vm

/- Soundness: structs,new blocks. -/
namespace Go.Vm
open Go
section
variable {P : Program} {gb : Nat → Option (List D)} {C : Ctx} {o : Oper} {a : Act} {W : World} {m : Nat → Option Nat} {F : Nat → Prop} {L : Option Nat} {stL : Sto} {st : List AO} {vars env : List AV} {nid : Nat} {ro : Option Nat} {lo : Lower}
theorem run_places : ∀ (fs : List Field),(∀ f ∈ fs,∃ n,sizeB P f.type = some n) → ∃ ps : List (Nat × Nat),(fs.mapM fun f => (do pure (f.offset,← sizeOf f.type) : Sem (Nat × Nat))).run P W = .ok ps W ∧ ps.length = fs.length ∧
    ∀ (i : Nat) (f : Field),fs[i]? = some f → ∃ n,sizeB P f.type = some n ∧ ps[i]? = some (f.offset,n)
  | [],_ => ⟨[],by simp,rfl,by simp⟩
  | f :: r,h => by
    obtain ⟨n,hn⟩:=h f (by simp)
    obtain ⟨ps,h1,h2,h3⟩:=run_places r fun g hg => h g (by simp [hg])
    refine ⟨(f.offset,n) :: ps,by rw [List.mapM_cons]; simp only [Sem.run_bind,run_sizeB hn,Result.andThen_ok,Sem.run_pure,h1],by simp [h2],fun i g hg => ?_⟩
    cases i with
    | zero => simp at hg; subst hg; exact ⟨n,hn,by simp⟩
    | succ i => simpa using h3 i g (by simpa using hg)
theorem sq_build {t : TypeId} {ps : Array (Nat × Operand)} {qs : List (Nat × Nat × Opnd)} {z : List D} {place : Nat → Option (Nat × Nat)} {cs : List AV} (ho : o.op = .build t ps) (hz : zeroB P t = some z)
    (hp : (∃ fs : Array Field,P.underlying t = some (.struct fs) ∧ (∀ f ∈ fs.toList,∃ n,sizeB P f.type = some n) ∧ place = fun i => do let f ← fs[i]?; some (f.offset,← sizeB P f.type)) ∨ (∃ len e sz,P.underlying t = some (.array len e) ∧ sizeB P e = some sz ∧ place = fun i => some (i * sz,sz)))
    (hc : compP2 C place ps.toList = some qs) (R : Rel gb m F L W stL) (hr : OprOk C m F L W o a vars env) (h : fillA (z.map .imm) (qs.map fun p => (p.1,p.2.1,opnd vars env p.2.2)) = some cs) :
    Ok P ro o a W (QPost gb m F L W stL nid (mkAgg cs) []):=by
  obtain ⟨c1,c2⟩:=compP2_get hc
  obtain ⟨zv,z1,z2,z3,z4,z5⟩:=run_zeroB (P:=P) (W:=W) (F:=F) hz
  have key : ∀ (pl : Nat → Option (Nat × Nat)),(∀ i q,place i = some q → pl i = some q) → ∃ cells',Instr.fill pl zv.cells (ps.toList.map fun p => (p.1,a.eval p.2)) = some cells' ∧ cells'.size = cs.length ∧ ∀ j d,cs[j]? = some d → RepA m F L W d (cells'.getD j undef):=by
    intro pl hpl
    obtain ⟨cells',e1,e2,_,e4⟩:=fill_rep (m:=m) (F:=F) (L:=L) (W:=W) (place:=pl) (ps.toList.map fun p => (p.1,a.eval p.2)) (qs.map fun p => (p.1,p.2.1,opnd vars env p.2.2)) (z.map .imm) cs zv.cells (by simp [c1]) (fun j q hj => by
      simp only [List.getElem?_map,Option.map_eq_some_iff] at hj
      obtain ⟨q0,hq0,rfl⟩:=hj
      obtain ⟨p,hp1,hp2,hp3⟩:=c2 j q0 hq0
      refine ⟨(p.1,a.eval p.2),by simp [hp1],hpl _ _ hp2,hr p.2 q0.2.2 ?_ hp3⟩
      rw [ho]
      simp only [Op.operands,List.mem_toArray,List.mem_map]
      exact ⟨p,List.mem_of_getElem? hp1,rfl⟩) (by simpa using z2) (fun j d hj => by
      simp only [List.getElem?_map,Option.map_eq_some_iff] at hj
      obtain ⟨d0,h0,rfl⟩:=hj
      exact .imm _ _ (z5 j d0 h0)) h
    exact ⟨cells',e1,e2,e4⟩
  have hpm : (ps.map fun (x : Nat × Operand) => match x with | (i,x) => (i,a.eval x)).toList = ps.toList.map fun p => (p.1,a.eval p.2):=by
    rw [Array.toList_map]
  rcases hp with ⟨fs,hu,hsz,rfl⟩ | ⟨len,e,sz,hu,hsz,rfl⟩
  · obtain ⟨pl,p1,p2,p3⟩:=run_places (P:=P) (W:=W) fs.toList hsz
    obtain ⟨cells',e1,e2,e4⟩:=key (fun i => pl[i]?) (fun i q hq => by
      simp only [Option.bind_eq_bind,Option.bind_eq_some_iff] at hq
      obtain ⟨f,hf,n,hn,hq⟩:=hq
      injection hq with hq; subst hq
      obtain ⟨n',hn',hp'⟩:=p3 i f (by simpa using hf)
      rw [hn] at hn'; injection hn' with hn'; subst hn'
      exact hp')
    refine Ok.qval R (by rw [ho]; simp) (w:=.agg cells') ?_ (rep_mkAgg e2 e4)
    have p1' : (fs.mapM fun f => (do pure (f.offset,← sizeOf f.type) : Sem (Nat × Nat))).run P W = .ok pl.toArray W:=by
      rw [Array.mapM_eq_mapM_toList]; simp only [Sem.run_map,p1,Result.andThen_ok]
    simp only [execOp,ho,Instr.build,Sem.run_bind,z1,Result.andThen_ok,run_und hu,p1',hpm,List.getElem?_toArray]
    rw [e1]
    simp
  · obtain ⟨cells',e1,e2,e4⟩:=key (fun i => some (i * sz,sz)) (fun i q hq => hq)
    refine Ok.qval R (by rw [ho]; simp) (w:=.agg cells') ?_ (rep_mkAgg e2 e4)
    simp only [execOp,ho,Instr.build,Sem.run_bind,z1,Result.andThen_ok,run_und hu,run_sizeB hsz,hpm]
    rw [e1]
    simp
def pushD (W : World) (dr : Nat) (x : Obj) : World:={ W with heap:=W.heap.push x,drawn:=dr }
abbrev pushO (W : World) (x : Obj) : World:=pushD W W.drawn x
theorem push_get (W : World) {dr : Nat} (x : Obj) {b : Nat} (h : b < W.heap.size) : (pushD W dr x).heap[b]? = W.heap[b]?:=by
  simp only [pushD,Array.getElem?_push]
  rw [if_neg (by omega)]
theorem push_new (W : World) {dr : Nat} (x : Obj) : (pushD W dr x).heap[W.heap.size]? = some x:=Array.getElem?_push_size
theorem tr_push (O : Nat → Prop) (W : World) {dr : Nat} (x : Obj) : Tr O W (pushD W dr x):=by
  refine ⟨rfl,rfl,rfl,by simp [pushD],fun b hb _ => push_get W x hb,fun b s h => ?_⟩
  have hb : b < W.heap.size:=by
    unfold rowSize at h
    split at h
    · rename_i h1; exact (Array.getElem?_eq_some_iff.1 h1).1
    · cases h
  unfold rowSize at h ⊢
  rw [push_get W x hb]; exact h
def addM (m : Nat → Option Nat) (nid b : Nat) : Nat → Option Nat:=fun i => if i = nid then some b else m i
theorem addM_ext {m : Nat → Option Nat} {nid b : Nat} (h : m nid = none) : ∀ i c,m i = some c → addM m nid b i = some c:=by
  intro i c hi
  unfold addM
  split
  · rename_i e; subst e; rw [h] at hi; cases hi
  · exact hi
theorem grow_push {dr : Nat} (h : m nid = none) (x : Obj) : Grow (fun _ => False) m F W (addM m nid W.heap.size) F (pushD W dr x) :=
  ⟨addM_ext h,fun _ h => h,fun _ h => .inl h,tr_push _ W x⟩
theorem grow_push0 {dr : Nat} (x : Obj) : Grow (fun _ => False) m F W m F (pushD W dr x):=⟨fun _ _ h => h,fun _ h => h,fun _ h => .inl h,tr_push _ W x⟩
theorem grow_pushF {dr : Nat} (x : Obj) : Grow (fun _ => False) m F W m (fun b => F b ∨ b = W.heap.size) (pushD W dr x) :=
  ⟨fun _ _ h => h,fun _ h => .inl h,fun _ h => h.elim .inl fun e => .inr (.inr (by omega)),tr_push _ W x⟩
theorem QPost.new {dr : Nat} (R : Rel gb m F L W stL) (hf : m nid = none) {x : Obj} {ob : AO} {v : AV} {w : Value} (hO : RelO (addM m nid W.heap.size) F L (pushD W dr x) W.heap.size ob) (hv : RepA (addM m nid W.heap.size) F L (pushD W dr x) v w) :
    QPost gb m F L W stL nid v [ob] w (pushD W dr x):=by
  have R':=Rel.mono (m':=addM m nid W.heap.size) (F':=F) R (tr_push (dr:=dr) (fun _ => False) W x) (addM_ext hf) (fun i b hi => by
    unfold addM at hi
    split at hi
    · injection hi with hi; subst hi; simp [pushD]
    · have:=R.hm i b hi; simp [pushD]; omega) (fun _ h => h) (fun b hb => by have:=R.hF b hb; simp [pushD]; omega) (fun _ _ _ _ h => h) (fun _ _ h => h) R.nF
  have hput : ∀ i,put stL nid [ob] i = if i = nid then ob else stL i:=by
    intro i
    unfold put
    by_cases hi : i = nid
    · subst hi; simp
    · rw [if_neg (by simp; omega),if_neg hi]
  have hnew : addM m nid W.heap.size nid = some W.heap.size:=by simp [addM]
  have hold : ∀ i b,i ≠ nid → addM m nid W.heap.size i = some b → b < W.heap.size:=by
    intro i b hi h
    simp only [addM,hi,if_false] at h
    exact R.hm i b h
  refine ⟨addM m nid W.heap.size,F,grow_push hf x,⟨R'.gl,fun i hi => ?_,fun i j b hi hj h1 h2 => ?_,fun i b hi h1 => ?_,R'.hF,R'.hm⟩,hv,fun i b hi => ?_⟩
  · rw [hput] at hi ⊢
    split at hi
    · rename_i e; subst e; rw [if_pos rfl]; exact ⟨_,hnew,hO⟩
    · rename_i e; rw [if_neg e]; exact R'.hs i hi
  · rw [hput] at hi hj
    by_cases ei : i = nid
    · by_cases ej : j = nid
      · rw [ei,ej]
      · subst ei; rw [hnew] at h1; injection h1 with h1; subst h1
        have:=hold j _ ej h2; omega
    · by_cases ej : j = nid
      · subst ej; rw [hnew] at h2; injection h2 with h2; subst h2
        have:=hold i _ ei h1; omega
      · rw [if_neg ei] at hi; rw [if_neg ej] at hj
        exact R'.inj i j b hi hj h1 h2
  · rw [hput] at hi
    by_cases ei : i = nid
    · subst ei; rw [hnew] at h1; injection h1 with h1; subst h1
      intro hc; have:=R.hF _ hc; omega
    · rw [if_neg ei] at hi; exact R'.nF i b hi h1
  · unfold addM at hi
    split at hi
    · rename_i e; injection hi with hi; subst hi; exact .inr ⟨Nat.le_refl _,by omega,by simp; omega⟩
    · exact .inl hi
theorem QPost.newF {dr : Nat} (R : Rel gb m F L W stL) {x : Obj} {v : AV} {w : Value} (hv : RepA m (fun b => F b ∨ b = W.heap.size) L (pushD W dr x) v w) : QPost gb m F L W stL nid v [] w (pushD W dr x):=by
  refine ⟨m,fun b => F b ∨ b = W.heap.size,grow_pushF x,?_,hv,fun i b h => .inl h⟩
  rw [put_nil]
  exact Rel.mono R (tr_push (fun _ => False) W x) (fun _ _ h => h) (fun i b hi => by have:=R.hm i b hi; simp [pushD]; omega) (fun _ h => .inl h)
    (fun b hb => by rcases hb with hb | hb; · have := R.hF b hb; simp [pushD]; omega
                    · subst hb; simp [pushD]) (fun _ _ _ _ h => h) (fun _ _ h => h)
    (fun i b hi h1 hc => by rcases hc with hc | hc; · exact R.nF i b hi h1 hc
                            · have:=R.hm i b h1; omega)
theorem QPost.new0 {dr : Nat} (R : Rel gb m F L W stL) {x : Obj} {v : AV} {w : Value} (hv : RepA m F L (pushD W dr x) v w) : QPost gb m F L W stL nid v [] w (pushD W dr x):=by
  refine ⟨m,F,grow_push0 x,?_,hv,fun i b h => .inl h⟩
  rw [put_nil]
  exact Rel.mono R (tr_push (fun _ => False) W x) (fun _ _ h => h) (fun i b hi => by have:=R.hm i b hi; simp [pushD]; omega) (fun _ h => h)
    (fun b hb => by have:=R.hF b hb; simp [pushD]; omega) (fun _ _ _ _ h => h) (fun _ _ h => h) R.nF
theorem rep_push {dr : Nat} (R : Rel gb m F L W stL) (hf : m nid = none) (x : Obj) {v : AV} {w : Value} (h : RepA m F L W v w) : RepA (addM m nid W.heap.size) F L (pushD W dr x) v w :=
  (grow_push hf x).rep R.hF (fun _ _ h => h) h
theorem repD_push {dr : Nat} (R : Rel gb m F L W stL) (x : Obj) {v : D} {w : Value} (h : RepD F W v w) : RepD F (pushD W dr x) v w :=
  h.mono (fun _ h => h) fun b hb => push_get W x (R.hF b hb)
theorem getD_one {c : Array Value} (h : ∀ v ∈ c.toList,v.oneCell' = true) {j : Nat} (hj : j < c.size) : (c.getD j undef).oneCell' = true:=by
  have : c.getD j undef = c[j]:=by simp [hj]
  rw [this]; exact h _ (by simp)
theorem sq_alloc {t : TypeId} {z : List D} (ho : o.op = .alloc t) (hz : zeroB P t = some z) (R : Rel gb m F L W stL) (hf : m nid = none) : Ok P ro o a W (QPost gb m F L W stL nid (.ptr nid 0) [.box (z.map .imm)]):=by
  obtain ⟨zv,z1,z2,z3,z4,z5⟩:=run_zeroB (P:=P) (W:=W) (F:=F) hz
  refine Ok.val (v:=.pointer (some ⟨W.heap.size,0,none⟩)) (W':=pushO W (.cells zv.cells t)) (by rw [ho]; simp) ?_ (QPost.new R hf ⟨zv.cells,t,push_new W _,by simp [z2],fun j hj => getD_one z4 (by simp at hj; omega),fun j d hj => ?_⟩ (.ptr _ _ _ (by simp [addM])))
  · simp [execOp,ho,Instr.alloc,z1,newVar,newRow,pushD]
  · simp only [List.getElem?_map,Option.map_eq_some_iff] at hj
    obtain ⟨d0,h0,rfl⟩:=hj
    exact .imm _ _ (repD_push R _ (z5 j d0 h0))
theorem sq_box {t : TypeId} {x : Operand} {x' : Opnd} (ho : o.op = .box t x) (hx : compO C x = some x') (R : Rel gb m F L W stL) (hf : m nid = none) (hr : OprOk C m F L W o a vars env) (hs : (cellsOf (opnd vars env x')).all single = true) :
    Ok P ro o a W (QPost gb m F L W stL nid (.ptr nid 0) [.box (cellsOf (opnd vars env x'))]):=by
  have h2:=hr x x' (by rw [ho]; simp [Op.operands]) hx
  obtain ⟨c1,c2⟩:=rep_cellsOf hs h2
  refine Ok.val (v:=.pointer (some ⟨W.heap.size,0,none⟩)) (W':=pushO W (.cells (a.eval x).cells t)) (by rw [ho]; simp) ?_ (QPost.new R hf ⟨(a.eval x).cells,t,push_new W _,by omega,fun j hj => oneCell_rep (List.all_eq_true.1 hs _ (List.getElem_mem hj)) (c2 j _ (List.getElem?_eq_getElem hj)),fun j d hj => rep_push R hf _ (c2 j d hj)⟩ (.ptr _ _ _ (by simp [addM])))
  simp [execOp,ho,Instr.box,newVar,newRow,pushD]
theorem sq_boxi {t : TypeId} {x : Operand} {x' : Opnd} {ds : List D} (ho : o.op = .box t x) (hx : compO C x = some x') (R : Rel gb m F L W stL) (hr : OprOk C m F L W o a vars env) (hd : cellsOf (opnd vars env x') = ds.map .imm) (hs : (cellsOf (opnd vars env x')).all single = true) :
    Ok P ro o a W (QPost gb m F L W stL nid (.imm (.ptr ds)) []):=by
  have h2:=hr x x' (by rw [ho]; simp [Op.operands]) hx
  obtain ⟨c1,c2⟩:=rep_cellsOf hs h2
  refine Ok.val (v:=.pointer (some ⟨W.heap.size,0,none⟩)) (W':=pushO W (.cells (a.eval x).cells t)) (by rw [ho]; simp) (by simp [execOp,ho,Instr.box,newVar,newRow,pushD]) (QPost.newF R (.imm _ _ ?_))
  have key : ∀ (j : Nat) (d : D),ds[j]? = some d → RepA m F L W (.imm d) ((a.eval x).cells.getD j undef) ∧ ((a.eval x).cells.getD j undef).oneCell' = true ∧ j < (a.eval x).cells.size:=by
    intro j d hj
    have hj' : (cellsOf (opnd vars env x'))[j]? = some (.imm d):=by rw [hd]; simp [hj]
    have h3:=c2 j _ hj'
    refine ⟨h3,oneCell_rep (List.all_eq_true.1 hs _ (List.mem_of_getElem? hj')) h3,?_⟩
    have:=(List.getElem?_eq_some_iff.1 hj').1
    omega
  refine .ptr ds ⟨W.heap.size,0,none⟩ (fun j => (a.eval x).cells.getD j undef) rfl (fun j d hj => ?_) fun j d hj => ?_
  · obtain ⟨_,k2,k3⟩:=key j d hj
    refine ⟨.inr rfl,?_,k2⟩
    have hb:=push_new W (dr:=W.drawn) (.cells (a.eval x).cells t)
    rw [Nat.zero_add]
    exact cell_of hb k3
  · obtain ⟨k1,_,_⟩:=key j d hj
    cases k1 with
    | imm _ _ h => exact h.mono (fun _ h => .inl h) fun b hb => push_get W _ (R.hF b hb)
theorem sq_mkmap {t : TypeId} (ho : o.op = .makeMap t none) (R : Rel gb m F L W stL) (hf : m nid = none) : Ok P ro o a W (QPost gb m F L W stL nid (.map nid) [.imap []]):=by
  refine Ok.val (v:=.map (some W.heap.size)) (W':=pushO W (.map #[] 0)) (by rw [ho]; simp) ?_ (QPost.new R hf ⟨#[],0,push_new W _,by simp,by simp⟩ (.map _ _ (by simp [addM])))
  simp [execOp,ho,Instr.makeMap,pushD]
end
end Go.Vm

/- Soundness: rows of elements: literals,make,append where nothing was. -/
namespace Go.Vm
open Go
section
variable {P : Program} {gb : Nat → Option (List D)} {C : Ctx} {o : Oper} {a : Act} {W : World} {m : Nat → Option Nat} {F : Nat → Prop} {L : Option Nat} {stL : Sto} {st : List AO} {vars env : List AV} {nid : Nat} {ro : Option Nat} {lo : Lower}
theorem map_range0 (f : Nat → Value) : (Array.range 0).map f = #[]:=by rw [show Array.range 0 = #[] from rfl]; simp
theorem flatrep_get {α : Type} (l : List α) : ∀ (n k : Nat),(List.replicate n l).flatten[k]? = if k < n * l.length then l[k % l.length]? else none
  | 0,k => by simp
  | n + 1,k => by
    rw [List.replicate_succ,List.flatten_cons]
    by_cases hk : k < l.length
    · rw [List.getElem?_append_left hk,if_pos (by rw [Nat.succ_mul]; omega),Nat.mod_eq_of_lt hk]
    · rw [List.getElem?_append_right (by omega),flatrep_get l n (k - l.length)]
      by_cases h2 : k - l.length < n * l.length
      · rw [if_pos h2,if_pos (by rw [Nat.succ_mul]; omega)]
        congr 1
        rw [Nat.mod_eq_sub_mod (a:=k) (by omega)]
      · rw [if_neg h2,if_neg (by rw [Nat.succ_mul]; omega)]
theorem flatrep_len {α : Type} (l : List α) (n : Nat) : (List.replicate n l).flatten.length = n * l.length:=by simp
theorem zeros_get {z : Array Value} {n k : Nat} (hk : k < n) : ((Array.range n).map (fun i => z[i % z.size]!)).getD k undef = z[k % z.size]!:=by simp [hk]
theorem bang_getD {z : Array Value} {k : Nat} (h : k < z.size) : z[k]! = z.getD k undef:=by simp [h]
theorem relO_chunks {b : Nat} {c : Array Value} {t : TypeId} {ds : List D} {sz n : Nat} (hb : W.heap[b]? = some (.cells c t (0,0))) (hl : ds.length = n * sz) (hc : ds.length ≤ c.size) (hk : ∀ k,k < ds.length → (c.getD k undef).oneCell' = true) (hr : ∀ j d,ds[j]? = some d → RepD F W d (c.getD j undef)) :
    RelO m F L W b (.arr sz (chunks sz n ds)):=by
  have h1:=chunks_len sz n ds
  refine ⟨c,t,hb,chunks_sz (by omega),by rw [h1]; omega,fun k h => hk k (by rw [h1] at h; omega),fun i e j d h5 h6 => ?_⟩
  obtain ⟨k1,k2⟩:=chunks_get _ _ _ _ _ h5
  subst k2
  have hj : j < sz:=by have:=(List.getElem?_eq_some_iff.1 h6).1; simp at this; omega
  rw [List.getElem?_take,if_pos hj,List.getElem?_drop] at h6
  exact hr _ d h6
theorem repD_chunks {b : Nat} {c : Array Value} {t : TypeId} {ds : List D} {sz n : Nat} (hb : W.heap[b]? = some (.cells c t (0,0))) (hF : F b) (hl : ds.length = n * sz) (hc : ds.length ≤ c.size) (hk : ∀ k,k < ds.length → (c.getD k undef).oneCell' = true) (hr : ∀ j d,ds[j]? = some d → RepD F W d (c.getD j undef)) :
    RepD F W (.sl sz (chunks sz n ds)) (.slice (some ⟨b,0,none⟩) n n):=by
  have h1:=chunks_len sz n ds
  have key : ∀ (i : Nat) (e : List D) (j : Nat) (d : D),(chunks sz n ds)[i]? = some e → e[j]? = some d → ds[i * sz + j]? = some d:=by
    intro i e j d h5 h6
    obtain ⟨k1,k2⟩:=chunks_get _ _ _ _ _ h5
    subst k2
    have hj : j < sz:=by have:=(List.getElem?_eq_some_iff.1 h6).1; simp at this; omega
    rwa [List.getElem?_take,if_pos hj,List.getElem?_drop] at h6
  have:=RepD.sl (F:=F) (W:=W) sz (chunks sz n ds) ⟨b,0,none⟩ n (fun i j => c.getD (i * sz + j) undef) (fun _ => rfl) (by omega) (chunks_sz (by omega))
    (fun i e j d h5 h6 => by
      have k:=(List.getElem?_eq_some_iff.1 (key i e j d h5 h6)).1
      simp only [Nat.zero_add]
      exact ⟨hF,cell_of hb (by omega),hk _ k⟩) (fun i e j d h5 h6 => hr _ d (key i e j d h5 h6))
  rwa [h1] at this
theorem q_bslice0 {t e : TypeId} {ps : Array (Nat × Operand)} {sz : Nat} (ho : o.op = .buildSlice t 0 ps) (hu : P.underlying t = some (.slice e)) (hn : sizeB P e = some sz) (hps : ps.toList = []) (R : Rel gb m F L W stL) :
    Ok P ro o a W (QPost gb m F L W stL nid (.e0 sz) []):=by
  have e0 : ps = #[]:=by rw [← Array.toArray_toList (xs:=ps),hps]
  refine Ok.val (v:=.slice (some ⟨W.heap.size,0,none⟩) 0 0) (W':=pushO W (.cells #[] e)) (by rw [ho]; simp) ?_ (QPost.new0 R (.e0 _ _))
  have ez : Array.range 0 = #[]:=rfl
  simp [execOp,ho,e0,Instr.buildSlice,run_und hu,run_sizeB hn,Instr.fill,newRow,pushD,ez]
theorem lit_cells {t e : TypeId} {n : Nat} {ps : Array (Nat × Operand)} {qs : List (Nat × Opnd)} {z ds : List D} {sz : Nat} (ho : o.op = .buildSlice t (n + 1) ps) (hu : P.underlying t = some (.slice e)) (hn : sizeB P e = some sz) (hz : zeroB P e = some z) (hc : compP1 C ps.toList = some qs)
    (hr : OprOk C m F L W o a vars env) (h : fillA ((List.replicate (n + 1) (z.map .imm)).flatten) (qs.map fun p => (p.1 * sz,sz,opnd vars env p.2)) = some (ds.map .imm)) (hsz : (n + 1) * sz ≤ 16777216) (h1 : ∀ (j : Nat) (d : D),ds[j]? = some d → single (.imm d) = true) :
    ∃ cells : Array Value,(execOp a.eval o).run P W = .ok (.value (.slice (some ⟨W.heap.size,0,none⟩) (n + 1) (n + 1))) (pushO W (.cells cells e)) ∧ cells.size = ds.length ∧ ds.length = (n + 1) * sz ∧ (∀ k,k < ds.length → (cells.getD k undef).oneCell' = true) ∧
      ∀ (j : Nat) (d : D),ds[j]? = some d → RepD F W d (cells.getD j undef):=by
  obtain ⟨zv,z1,z2,z3,z4,z5⟩:=run_zeroB (P:=P) (W:=W) (F:=F) hz
  have hzl : z.length = sz:=by rw [hn] at z3; injection z3 with z3; exact z3.symm
  obtain ⟨c1,c2⟩:=compP1_get hc
  have h00 : ((Array.range ((n + 1) * sz)).map (fun i => zv.cells[i % zv.cells.size]!)).size = (n + 1) * sz:=by simp
  obtain ⟨cells',e1,e2,e3,e4⟩:=fill_rep (m:=m) (F:=F) (L:=L) (W:=W) (place:=fun i => some (i * sz,sz)) (ps.toList.map fun p => (p.1,a.eval p.2)) (qs.map fun p => (p.1 * sz,sz,opnd vars env p.2))
    ((List.replicate (n + 1) (z.map .imm)).flatten) (ds.map .imm) ((Array.range ((n + 1) * sz)).map (fun i => zv.cells[i % zv.cells.size]!)) (by simp [c1]) (fun j q hj => by
      simp only [List.getElem?_map,Option.map_eq_some_iff] at hj
      obtain ⟨q0,hq0,rfl⟩:=hj
      obtain ⟨p,hp1,hp2,hp3⟩:=c2 j q0 hq0
      refine ⟨(p.1,a.eval p.2),by simp [hp1],by simp [hp2],hr p.2 q0.2 ?_ hp3⟩
      rw [ho]
      simp only [Op.operands,List.mem_toArray,List.mem_map]
      exact ⟨p,List.mem_of_getElem? hp1,rfl⟩) (by rw [h00,flatrep_len]; simp [hzl]) (fun j d hj => by
      rw [flatrep_get] at hj
      split at hj
      · rename_i hlt
        simp only [List.length_map,hzl] at hlt hj
        rw [zeros_get hlt,z2,hzl]
        have hpos : 0 < sz := by rcases Nat.eq_zero_or_pos sz with h | h; · subst h; omega
                                 · exact h
        have hm : j % sz < sz:=Nat.mod_lt _ hpos
        rw [bang_getD (by omega)]
        simp only [List.getElem?_map,Option.map_eq_some_iff] at hj
        obtain ⟨d0,h0,rfl⟩:=hj
        exact .imm _ _ (z5 _ d0 h0)
      · cases hj) h
  have hlen : ds.length = (n + 1) * sz:=by
    have : cells'.size = (n + 1) * sz:=by rw [e3,h00]
    rw [← this,e2]; simp
  have e5 : ∀ (j : Nat) (d : D),ds[j]? = some d → RepD F W d (cells'.getD j undef):=fun j d hj => by
    have:=e4 j (.imm d) (by simp [hj])
    cases this with | imm _ _ h => exact h
  refine ⟨cells',?_,by rw [e2]; simp,hlen,fun k hk => oneCell_repD (h1 k _ (List.getElem?_eq_getElem hk)) (e5 k _ (List.getElem?_eq_getElem hk)),e5⟩
  have hpm : (ps.map fun (x : Nat × Operand) => match x with | (i,x) => (i,a.eval x)).toList = ps.toList.map fun p => (p.1,a.eval p.2):=by rw [Array.toList_map]
  simp only [execOp,ho,Instr.buildSlice,Sem.run_bind,run_und hu,run_sizeB hn,Result.andThen_ok]
  rw [if_neg (by omega)]
  by_cases h0 : (n + 1) * sz = 0
  · have hs0 : sz = 0 := by rcases Nat.mul_eq_zero.1 h0 with h | h; · omega
                            · exact h
    have ez : (Array.range ((n + 1) * sz)).map (fun i => zv.cells[i % zv.cells.size]!) = #[]:=by rw [h0]; exact map_range0 _
    rw [ez] at e1
    simp only [h0,if_true,hpm,pure_bind]
    have er : (Array.range 0).map (fun i => (#[] : Array Value)[i % (#[] : Array Value).size]!) = #[]:=map_range0 _
    rw [er,e1]
    simp [newRow,pushD]
  · simp only [h0,if_false,Sem.run_bind,z1,Result.andThen_ok,Sem.run_pure,hpm]
    rw [e1]
    simp [newRow,pushD]
theorem q_bslice {t e : TypeId} {n : Nat} {ps : Array (Nat × Operand)} {qs : List (Nat × Opnd)} {z ds : List D} {sz : Nat} {own : Bool} (ho : o.op = .buildSlice t (n + 1) ps) (hu : P.underlying t = some (.slice e)) (hn : sizeB P e = some sz) (hz : zeroB P e = some z) (hc : compP1 C ps.toList = some qs)
    (R : Rel gb m F L W stL) (hf : own = true → m nid = none) (hr : OprOk C m F L W o a vars env) (h : fillA ((List.replicate (n + 1) (z.map .imm)).flatten) (qs.map fun p => (p.1 * sz,sz,opnd vars env p.2)) = some (ds.map .imm)) (hsz : (n + 1) * sz ≤ 16777216) (h1 : ∀ (j : Nat) (d : D),ds[j]? = some d → single (.imm d) = true) :
    Ok P ro o a W (if own then QPost gb m F L W stL nid (.ref nid sz 0 (n + 1)) [.arr sz (chunks sz (n + 1) ds)] else QPost gb m F L W stL nid (.imm (.sl sz (chunks sz (n + 1) ds))) []):=by
  obtain ⟨cells,r1,r2,r3,r4,r5⟩:=lit_cells ho hu hn hz hc hr h hsz h1
  have hb:=push_new W (dr:=W.drawn) (.cells cells e)
  cases own with
  | true =>
    refine Ok.val (by rw [ho]; simp) r1 ?_
    have hr' : RelO (addM m nid W.heap.size) F L (pushO W (.cells cells e)) W.heap.size (.arr sz (chunks sz (n + 1) ds)) :=
      relO_chunks hb r3 (by omega) r4 fun j d hj => repD_push R _ (r5 j d hj)
    exact QPost.new R (hf rfl) hr' (.ref _ _ _ _ W.heap.size _ _ cells.size (by simp [addM]) rfl rfl (fun _ => by simp) (by simp only [rowSize,hb]) (by simp; omega) (Nat.le_refl _))
  | false =>
    refine Ok.val (by rw [ho]; simp) r1 ?_
    refine QPost.newF R (.imm _ _ (repD_chunks hb (.inr rfl) r3 (by omega) r4 fun j d hj => ?_))
    exact (r5 j d hj).mono (fun _ h => .inl h) fun b hb => push_get W _ (R.hF b hb)
theorem wrap_id {n : Int} (h0 : 0 ≤ n) (h1 : n ≤ 70368744177664) : IntKind.i64.wrap n = n:=by
  rw [← wrp_eq]; simp only [wrp]; rw [if_pos (by omega)]
theorem sq_mkslice {t e : TypeId} {sz bytes : Nat} {z : List D} {x y : Operand} {x' y' : Opnd} {k k' : IntKind} {l c : Int} (ho : o.op = .makeSlice t x y) (hu : P.underlying t = some (.slice e)) (hn : sizeB P e = some sz) (hby : bytesB P e = some bytes) (hz : zeroB P e = some z) (hx : compO C x = some x') (hy : compO C y = some y')
    (R : Rel gb m F L W stL) (hf : m nid = none) (hr : OprOk C m F L W o a vars env) (e1 : opnd vars env x' = .imm (.int k l)) (e2 : opnd vars env y' = .imm (.int k' c)) (h0 : 0 ≤ l) (hlc : l ≤ c) (h1 : bytes * c ≤ room) (h2 : c ≤ room) :
    Ok P ro o a W (QPost gb m F L W stL nid (.ref nid sz 0 l.toNat) [.arr sz (List.replicate l.toNat z)]):=by
  obtain ⟨zv,z1,z2,z3,z4,z5⟩:=run_zeroB (P:=P) (W:=W) (F:=F) hz
  obtain ⟨i,i1,i2⟩:=run_bytesB (P:=P) (W:=W) hby
  have hzl : z.length = sz:=by rw [hn] at z3; injection z3 with z3; exact z3.symm
  have v1:=imm_int (e1 ▸ hr x x' (by rw [ho]; simp [Op.operands]) hx)
  have v2:=imm_int (e2 ▸ hr y y' (by rw [ho]; simp [Op.operands]) hy)
  unfold room at h1 h2
  have h2' : c ≤ 70368744177664:=by simpa using h2
  have hw : IntKind.i64.wrap l = l:=wrap_id h0 (by omega)
  have hwc : IntKind.i64.wrap c = c:=wrap_id (by omega) h2'
  obtain ⟨cells,c1,c2,c3⟩ : ∃ cells : Array Value,cells.size = c.toNat * sz ∧ (∀ k,k < c.toNat * sz → cells.getD k undef = zv.cells[k % zv.cells.size]!) ∧
      (execOp a.eval o).run P W = .ok (.value (.slice (some ⟨W.heap.size,0,none⟩) l.toNat c.toNat)) (pushO W (.cells cells e)):=by
    have hbig : ¬ ((bytes : Int) * c > 281474976710656):=by omega
    have hneg : ¬ l < 0:=by omega
    have hnegc : ¬ c < 0:=by omega
    have hlc' : ¬ l > c:=by omega
    by_cases hs : c.toNat * sz = 0
    · refine ⟨#[],by simp [hs],fun k hk => by omega,?_⟩
      simp only [execOp,ho,Instr.makeSlice,Sem.run_bind,run_und hu,Result.andThen_ok,v1,v2,asInt,asIntOf,Sem.run_pure,pure_bind,i1,i2,hw,hwc]
      simp [hbig,hneg,hnegc,hlc',run_sizeB hn,hs,newRow,pushD,map_range0]
    · refine ⟨(Array.range (c.toNat * sz)).map (fun i => zv.cells[i % zv.cells.size]!),by simp,fun k hk => zeros_get hk,?_⟩
      simp only [execOp,ho,Instr.makeSlice,Sem.run_bind,run_und hu,Result.andThen_ok,v1,v2,asInt,asIntOf,Sem.run_pure,pure_bind,i1,i2,hw,hwc]
      simp [hbig,hneg,hnegc,hlc',run_sizeB hn,hs,newRow,pushD,z1]
  have hb:=push_new W (dr:=W.drawn) (.cells cells e)
  refine Ok.val (by rw [ho]; simp) c3 ?_
  have hle0 : l.toNat * sz ≤ c.toNat * sz:=Nat.mul_le_mul_right _ (by omega)
  have key : ∀ k,k < c.toNat * sz → k % sz < zv.cells.size ∧ cells.getD k undef = zv.cells.getD (k % sz) undef:=by
    intro k hk
    have hpos : 0 < sz := by rcases Nat.eq_zero_or_pos sz with h | h; · subst h; omega
                             · exact h
    have hm : k % sz < sz:=Nat.mod_lt _ hpos
    have hlt : k % sz < zv.cells.size:=by omega
    refine ⟨hlt,?_⟩
    rw [c2 k hk,z2,hzl,bang_getD hlt]
  have hR : RelO (addM m nid W.heap.size) F L (pushO W (.cells cells e)) W.heap.size (.arr sz (List.replicate l.toNat z)):=by
    refine ⟨cells,e,hb,fun q hq => by rw [List.mem_replicate] at hq; rw [hq.2,hzl],by simp; omega,fun k hk => ?_,fun i' q j d hi hj => ?_⟩
    · simp only [List.length_replicate] at hk
      obtain ⟨k1,k2⟩:=key k (by omega)
      rw [k2]; exact getD_one z4 k1
    · have hi' : i' < l.toNat:=by have:=(List.getElem?_eq_some_iff.1 hi).1; simpa using this
      have hq : q = z:=by have:=List.mem_of_getElem? hi; rw [List.mem_replicate] at this; exact this.2
      subst hq
      have hj' : j < sz:=by have:=(List.getElem?_eq_some_iff.1 hj).1; omega
      have hle : (i' + 1) * sz ≤ l.toNat * sz:=Nat.mul_le_mul_right _ (by omega)
      rw [Nat.succ_mul] at hle
      obtain ⟨k1,k2⟩:=key (i' * sz + j) (by omega)
      rw [k2]
      have : (i' * sz + j) % sz = j:=by rw [Nat.add_comm,Nat.add_mul_mod_self_right,Nat.mod_eq_of_lt hj']
      rw [this]
      exact repD_push R _ (z5 j d hj)
  exact QPost.new R hf hR (.ref _ _ _ _ W.heap.size _ _ cells.size (by simp [addM]) rfl rfl (fun _ => by simp) (by simp only [rowSize,hb]) (by simp; omega) (by omega))
end
end Go.Vm

/- Soundness: append. -/
namespace Go.Vm
open Go
section
variable {P : Program} {gb : Nat → Option (List D)} {C : Ctx} {o : Oper} {a : Act} {W : World} {m : Nat → Option Nat} {F : Nat → Prop} {L : Option Nat} {stL : Sto} {st : List AO} {vars env : List AV} {nid : Nat} {ro : Option Nat} {lo : Lower}
structure Src (P : Program) (F : Nat → Prop) (W : World) (w : Value) (sz : Nat) (es : List (List D)) : Prop where
  len : (Builtin.lenOf w).run P W = .ok es.length W
  cells : ∃ f : Nat → Value,(∀ n W1,W1.heap = W.heap → n ≤ es.length → (Builtin.firstCells sz n w).run P W1 = .ok ((List.range (n * sz)).map f).toArray W1) ∧
    (∀ k,k < es.length * sz → (f k).oneCell' = true) ∧ ∀ i e j d,es[i]? = some e → e[j]? = some d → RepD F W d (f (i * sz + j))
  hz : ∀ e ∈ es,e.length = sz
theorem div_of {i j sz : Nat} (h : j < sz) : (i * sz + j) / sz = i ∧ (i * sz + j) % sz = j:=by
  constructor
  · rw [Nat.add_comm,Nat.add_mul_div_right _ _ (by omega),Nat.div_eq_of_lt h,Nat.zero_add]
  · rw [Nat.add_comm,Nat.add_mul_mod_self_right,Nat.mod_eq_of_lt h]
theorem run_first {sz : Nat} {q : Addr} {len cap n : Nat} {f : Nat → Value} {W1 : World} (hW : W1.heap = W.heap) (ha : 0 < n * sz → q.spot = none) (hc : ∀ k,k < n * sz → W.cell? ⟨q.block,q.off + k,none⟩ = some (f k)) :
    (Builtin.firstCells sz n (.slice (some q) len cap)).run P W1 = .ok ((List.range (n * sz)).map f).toArray W1:=by
  simp only [Builtin.firstCells]
  rw [run_loadCells W1 q (n * sz) f fun k hk => by rw [addr_none (ha (Nat.lt_of_le_of_lt (Nat.zero_le _) hk)),add_none,cell_same (W:=W) (by rw [hW])]; exact hc k hk]
theorem src_sl {sz : Nat} {es : List (List D)} {w : Value} (h : RepD F W (.sl sz es) w) : Src P F W w sz es:=by
  cases h with
  | sl _ _ q cap c ha hn hz hc hr =>
    have key : ∀ k,k < es.length * sz → ∃ e d,es[k / sz]? = some e ∧ e[k % sz]? = some d:=by
      intro k hk
      have hpos : 0 < sz := by rcases Nat.eq_zero_or_pos sz with h | h; · subst h; omega
                               · exact h
      have hi : k / sz < es.length:=Nat.div_lt_of_lt_mul (by rw [Nat.mul_comm]; exact hk)
      have hm:=Nat.mod_lt k hpos
      refine ⟨es[k / sz],(es[k / sz])[k % sz]'(by rw [hz _ (List.getElem_mem hi)]; exact hm),List.getElem?_eq_getElem hi,List.getElem?_eq_getElem _⟩
    refine ⟨by simp [Builtin.lenOf],⟨fun k => c (k / sz) (k % sz),fun n W1 hW hle => run_first hW (fun h => ha fun h0 => by rw [h0] at hle; simp at hle; rw [hle] at h; simp at h) fun k hk => ?_,fun k hk => ?_,fun i e j d hi hj => ?_⟩,hz⟩
    · have hk' : k < es.length * sz:=Nat.lt_of_lt_of_le hk (Nat.mul_le_mul_right _ hle)
      obtain ⟨e,d,h1,h2⟩:=key k hk'
      have:=(hc _ e _ d h1 h2).2.1
      rwa [show k / sz * sz + k % sz = k by rw [Nat.mul_comm]; exact Nat.div_add_mod k sz] at this
    · obtain ⟨e,d,h1,h2⟩:=key k hk
      exact (hc _ e _ d h1 h2).2.2
    · have hj' : j < sz:=by rw [← hz e (List.mem_of_getElem? hi)]; exact (List.getElem?_eq_some_iff.1 hj).1
      obtain ⟨k1,k2⟩:=div_of (i:=i) hj'
      show RepD F W d (c ((i * sz + j) / sz) ((i * sz + j) % sz))
      rw [k1,k2]; exact hr i e j d hi hj
theorem src_nil {sz : Nat} : Src P F W (.slice none 0 0) sz [] :=
  ⟨by simp [Builtin.lenOf],⟨fun _ => undef,fun n W1 hW hn => by simp at hn; subst hn; simp [Builtin.firstCells],by simp,by simp⟩,by simp⟩
theorem src_e0 {sz : Nat} {q : Addr} : Src P F W (.slice (some q) 0 0) sz [] :=
  ⟨by simp [Builtin.lenOf],⟨fun _ => undef,fun n W1 hW hn => by simp at hn; subst hn; exact run_first hW (fun h => by simp at h) (by simp),by simp,by simp⟩,by simp⟩
theorem src_row {sz lo n cap : Nat} {es : List (List D)} {q : Addr} {c : Array Value} {t : TypeId} (h1 : W.heap[q.block]? = some (.cells c t (0,0))) (h2 : ∀ e ∈ es,e.length = sz) (h3 : es.length * sz ≤ c.size) (hk : ∀ k,k < es.length * sz → (c.getD k undef).oneCell' = true)
    (h4 : ∀ i e j d,es[i]? = some e → e[j]? = some d → RepD F W d (c.getD (i * sz + j) undef)) (ha : q.spot = none) (ho : 0 < cap → q.off = lo * sz) (hn : n ≤ cap) (hle : lo + n ≤ es.length) : Src P F W (.slice (some q) n cap) sz ((es.drop lo).take n):=by
  have hl : ((es.drop lo).take n).length = n:=by simp; omega
  have hsz : (lo + n) * sz ≤ es.length * sz:=Nat.mul_le_mul_right _ hle
  rw [Nat.add_mul] at hsz
  refine ⟨by simp [Builtin.lenOf,hl],⟨fun k => c.getD (lo * sz + k) undef,fun i W1 hW hi => run_first hW (fun _ => ha) fun k hk' => ?_,fun k hk' => ?_,fun i e j d hi hj => ?_⟩,fun e he => h2 e (List.mem_of_mem_drop (List.mem_of_mem_take he))⟩
  · rw [hl] at hi
    have : i * sz ≤ n * sz:=Nat.mul_le_mul_right _ hi
    have hpos : 0 < n := by rcases Nat.eq_zero_or_pos n with h | h; · subst h; simp at this; omega
                            · exact h
    rw [ho (by omega)]
    exact cell_of h1 (by omega)
  · rw [hl] at hk'
    exact hk _ (by omega)
  · have hi' : i < n:=by have:=(List.getElem?_eq_some_iff.1 hi).1; omega
    rw [List.getElem?_take,if_pos hi',List.getElem?_drop] at hi
    have:=h4 _ e j d hi hj
    rwa [Nat.add_mul,Nat.add_assoc] at this
theorem src_of {x : AV} {w : Value} {sz : Nat} {es : List (List D)} (R : Rel gb m F L W stL) (hr : RepA m F L W x w) (hS : ∀ i ∈ ids x,i < st.length → stL i = sto st i) (h : srcOf st x = some (sz,es)) : Src P F W w sz es:=by
  unfold srcOf at h
  split at h
  · injection h with h; injection h with e1 e2; subst e1; subst e2
    cases hr with | imm _ _ hr => cases hr; exact src_nil
  · injection h with h; injection h with e1 e2; subst e1; subst e2
    cases hr with | imm _ _ hr => exact src_sl hr
  · injection h with h; injection h with e1 e2; subst e1; subst e2
    cases hr with | e0 _ q => exact src_e0
  · rename_i id sz' lo n
    cases hr with
    | ref _ _ _ _ b q cap s hm hb ha hoff hs hle hcap =>
      subst hb
      simp only [deep] at h
      split at h
      · rename_i sz1 es1 hd
        injection h with h; injection h with e1 e2; subst e1; subst e2
        split at hd
        · rename_i sz2 es2 hst
          split at hd
          · rename_i hc
            injection hd with hd; injection hd with e1 e2; subst e1; subst e2
            obtain ⟨e3,hlen⟩:=hc
            subst e3
            obtain ⟨c,t,h1,h2,h3,hk,h4⟩:=look R (hS id (by simp [ids])) hst (by simp) hm
            exact src_row h1 h2 h3 hk h4 ha hoff hcap hlen
          · cases hd
        · rename_i sz2 es2 hst
          split at hd
          · rename_i hc
            injection hd with hd; injection hd with e1 e2; subst e1; subst e2
            obtain ⟨e3,hlen⟩:=hc
            subst e3
            obtain ⟨c,t,h1,h2,h3,hk,_,h4⟩:=look R (hS id (by simp [ids])) hst (by simp) hm
            exact src_row h1 h2 h3 hk h4 ha hoff hcap hlen
          · cases hd
        · rename_i cs hst
          cases hcs : dsOf cs with
          | none => rw [hcs] at hd; cases hd
          | some ds =>
            rw [hcs] at hd
            simp only at hd
            split at hd
            · rename_i hc
              injection hd with hd; injection hd with e1 e2; subst e1; subst e2
              obtain ⟨c,t,h1,h2,hk,h3⟩:=look R (hS id (by simp [ids])) hst (by simp) hm
              have ecs:=dsOf_some hcs
              subst ecs
              simp only [List.length_map] at h2 hk
              rw [Nat.add_mul] at hc
              have hl:=chunks_len sz' n (ds.drop (lo * sz'))
              refine ⟨by simp [Builtin.lenOf,hl],⟨fun k => c.getD (lo * sz' + k) undef,fun i W1 hW hi => run_first hW (fun _ => ha) fun k hk' => ?_,fun k hk' => ?_,fun i e j d hi hj => ?_⟩,chunks_sz (by rw [List.length_drop]; omega)⟩
              · rw [hl] at hi
                have : i * sz' ≤ n * sz':=Nat.mul_le_mul_right _ hi
                have hpos : 0 < n := by rcases Nat.eq_zero_or_pos n with h | h; · subst h; simp at this; omega
                                        · exact h
                rw [hoff (by omega)]
                exact cell_of h1 (by omega)
              · rw [hl] at hk'; exact hk _ (by omega)
              · obtain ⟨k1,k2⟩:=chunks_get _ _ _ _ _ hi
                subst k2
                have hj' : j < sz':=by have:=(List.getElem?_eq_some_iff.1 hj).1; simp at this; omega
                rw [List.getElem?_take,if_pos hj',List.drop_drop,List.getElem?_drop] at hj
                have:=h3 (lo * sz' + (i * sz' + j)) (.imm d) (by rw [List.getElem?_map,← Nat.add_assoc,hj]; rfl)
                cases this with | imm _ _ h => exact h
            · cases hd
        · cases hd
      · cases h
  · cases h
theorem nextcap_le {need cap : Nat} (h : cap < need) : Builtin.nextslicecap need cap ≤ 2 * need:=by
  unfold Builtin.nextslicecap
  split
  · omega
  · split
    · omega
    · rename_i h1 h2
      have g : ∀ r c,c < need → Builtin.growBy need r c ≤ 2 * need:=by
        intro r
        induction r with
        | zero => intro c hc; simp only [Builtin.growBy]; omega
        | succ r ih =>
          intro c hc
          simp only [Builtin.growBy]
          split
          · omega
          · by_cases hc2 : c + (c + 768) / 4 < need
            · exact ih _ hc2
            · cases r with
              | zero => simp only [Builtin.growBy]; omega
              | succ r => simp only [Builtin.growBy]; rw [if_pos (by omega)]; omega
      exact g 4 cap h
theorem bytes_info {t : TypeId} {n : Nat} (h : bytesB P t = some n) : ∃ i,P.info? t = some i ∧ i.bytes = n:=by
  unfold bytesB at h
  cases hi : P.info? t with
  | none => rw [hi] at h; cases h
  | some i => rw [hi] at h; simp at h; exact ⟨i,rfl,h⟩
theorem run_append_new {t t2 e e2 ty : TypeId} {sz bytes : Nat} {z : List D} {q : Option Addr} {sLen sCap : Nat} {w2 : Value} {es : List (List D)} {old : Array Value} (hu : P.underlying t = some (.slice e)) (hu2 : P.underlying t2 = some (.slice e2)) (hn : sizeB P e = some sz) (hby : bytesB P e = some bytes) (hz : zeroB P e = some z)
    (hs : Src P F W w2 sz es) (hold : ∀ W1,W1.heap = W.heap → (Builtin.firstCells sz sLen (.slice q sLen sCap)).run P W1 = .ok old W1) (hgrow : sCap < sLen + es.length) (hroom : (sLen + es.length) * (bytes + 1) ≤ room) :
    ∃ (f : Nat → Value) (rest : Array Value) (cap dr : Nat),(Builtin.append_ #[t,t2] ty #[.slice q sLen sCap,w2]).run P W = .ok (.slice (some ⟨W.heap.size,0,none⟩) (sLen + es.length) cap) (pushD W dr (.cells (old ++ ((List.range (es.length * sz)).map f).toArray ++ rest) e)) ∧
      sLen + es.length ≤ cap ∧ rest.size = (cap - (sLen + es.length)) * sz ∧ (∀ k,k < es.length * sz → (f k).oneCell' = true) ∧ ∀ i e j d,es[i]? = some e → e[j]? = some d → RepD F W d (f (i * sz + j)):=by
  obtain ⟨hlen,⟨f,f1,f2,f3⟩,hzz⟩:=hs
  obtain ⟨i,i1,i2⟩:=bytes_info hby
  unfold room at hroom
  have hb : ¬ (Builtin.nextslicecap (sLen + es.length) sCap * bytes > 2 ^ 48):=by
    have h1:=nextcap_le hgrow
    have h2 : Builtin.nextslicecap (sLen + es.length) sCap * bytes ≤ 2 * (sLen + es.length) * bytes:=Nat.mul_le_mul_right _ h1
    rw [Nat.mul_assoc] at h2
    rw [Nat.mul_succ] at hroom
    omega
  have hi64 : ¬ (((sLen + es.length : Nat) : Int) > IntKind.i64.max):=by
    rw [show IntKind.i64.max = 9223372036854775807 from rfl]
    have : sLen + es.length ≤ (sLen + es.length) * (bytes + 1):=Nat.le_mul_of_pos_right _ (by omega)
    omega
  obtain ⟨zv,z1,z2,z3,z4,z5⟩:=run_zeroB (P:=P) (W:={ W with drawn:=W.drawn + 1 }) (F:=F) hz
  have hzl : z.length = sz:=by rw [hn] at z3; injection z3 with z3; exact z3.symm
  have f0:=f1 es.length { W with drawn:=W.drawn + 1 } rfl (Nat.le_refl _)
  have h0:=hold { W with drawn:=W.drawn + 1 } rfl
  refine ⟨f,Builtin.zeroCells zv.cells ((sLen + es.length + W.tape W.drawn (.appendCap (sLen + es.length) sCap e) % (2 ^ 63 - (sLen + es.length))) - (sLen + es.length)),sLen + es.length + W.tape W.drawn (.appendCap (sLen + es.length) sCap e) % (2 ^ 63 - (sLen + es.length)),W.drawn + 1,?_,by omega,?_,f2,f3⟩
  · simp only [Builtin.append_,List.getElem?_toArray,List.getElem?_cons_zero,List.getElem?_cons_succ,Sem.run_bind,run_und hu,run_und hu2,run_sizeB hn,Result.andThen_ok,Sem.run_pure,Bool.false_eq_true,if_false,hlen]
    rw [if_neg (by omega)]
    simp only [Bool.not_false,if_true,false_or,Sem.run_bind,run_info i1,Result.andThen_ok,i2]
    rw [if_neg (by intro h; exact hi64 h.1)]
    simp only [Sem.run_bind,run_info i1,Result.andThen_ok,i2]
    rw [if_neg hb]
    simp only [Sem.run_bind,run_choose,Question.forced,Question.cut,Bool.false_eq_true,if_false,Result.andThen_ok,run_askRoom,run_info i1]
    rw [h0]
    simp only [Result.andThen_ok]
    rw [f0]
    simp only [Result.andThen_ok]
    rw [z1]
    simp only [Result.andThen_ok,newRow,Sem.run_bind,run_newObj,Sem.run_pure,pushD]
  · simp [Builtin.zeroCells,z2,hzl]
theorem run_append_fit {t t2 e e2 ty : TypeId} {sz : Nat} {b : Nat} {c : Array Value} {tt : TypeId} {q : Addr} {sLen sCap : Nat} {w2 : Value} {es : List (List D)} (hu : P.underlying t = some (.slice e)) (hu2 : P.underlying t2 = some (.slice e2)) (hn : sizeB P e = some sz)
    (hs : Src P F W w2 sz es) (hfit : sLen + es.length ≤ sCap) (hb : W.heap[q.block]? = some (.cells c tt (0,0))) (ha : q.spot = none) (hle : q.off + sCap * sz ≤ c.size) (_hq : q.block = b) :
    ∃ f : Nat → Value,(Builtin.append_ #[t,t2] ty #[.slice (some q) sLen sCap,w2]).run P W = .ok (.slice (some q) (sLen + es.length) sCap)
        (W.setRow q.block (c.toList.take (q.off + sLen * sz) ++ ((List.range (es.length * sz)).map f) ++ c.toList.drop (q.off + sLen * sz + es.length * sz)).toArray) ∧
      (∀ k,k < es.length * sz → (f k).oneCell' = true) ∧ ∀ i e j d,es[i]? = some e → e[j]? = some d → RepD F W d (f (i * sz + j)):=by
  obtain ⟨hlen,⟨f,f1,f2,f3⟩,hzz⟩:=hs
  have f0:=f1 es.length W rfl (Nat.le_refl _)
  refine ⟨f,?_,f2,f3⟩
  have hmul : (sLen + es.length) * sz ≤ sCap * sz:=Nat.mul_le_mul_right _ hfit
  rw [Nat.add_mul] at hmul
  simp only [Builtin.append_,List.getElem?_toArray,List.getElem?_cons_zero,List.getElem?_cons_succ,Sem.run_bind,run_und hu,run_und hu2,run_sizeB hn,Result.andThen_ok,Sem.run_pure,Bool.false_eq_true,if_false,hlen]
  rw [if_pos hfit]
  simp only [Bool.not_false,if_true,Sem.run_bind,f0,Result.andThen_ok]
  have hst:=run_storeCells_at (P:=P) q.block (q.off + sLen * sz) tt ((List.range (es.length * sz)).map f) 0 c W hb (by simp; omega) (fun v hv => by
    simp only [List.mem_map,List.mem_range] at hv
    obtain ⟨k,hk,rfl⟩:=hv
    exact f2 k hk)
  rw [addr_none ha,add_none,hst]
  simp
theorem run_append_0 {t t2 e e2 ty : TypeId} {sz : Nat} {q : Option Addr} {w2 : Value} (hu : P.underlying t = some (.slice e)) (hu2 : P.underlying t2 = some (.slice e2)) (hn : sizeB P e = some sz)
    (hs : Src P F W w2 sz []) : (Builtin.append_ #[t,t2] ty #[.slice q 0 0,w2]).run P W = .ok (.slice q 0 0) W:=by
  obtain ⟨hlen,⟨f,f1,f2,f3⟩,hzz⟩:=hs
  have f0:=f1 0 W rfl (by simp)
  simp only [List.length_nil] at hlen
  simp only [Builtin.append_,List.getElem?_toArray,List.getElem?_cons_zero,List.getElem?_cons_succ,Sem.run_bind,run_und hu,run_und hu2,run_sizeB hn,Result.andThen_ok,Sem.run_pure,Bool.false_eq_true,if_false,hlen]
  simp only [Nat.add_zero,Nat.le_refl,if_true,Bool.not_false,Sem.run_bind,f0,Result.andThen_ok]
  cases q <;> simp [storeCells]
end
end Go.Vm

/- Soundness: append where nothing was,comparisons,look-ups. -/
namespace Go.Vm
open Go
section
variable {P : Program} {gb : Nat → Option (List D)} {C : Ctx} {o : Oper} {a : Act} {W : World} {m : Nat → Option Nat} {F : Nat → Prop} {L : Option Nat} {stL : Sto} {st : List AO} {vars env : List AV} {nid : Nat} {ro : Option Nat} {lo : Lower}
theorem appE_get {old new rest : Array Value} {k : Nat} (h : k < new.size) : (old ++ new ++ rest).getD (old.size + k) undef = new.getD k undef:=by
  simp only [Array.getD_eq_getD_getElem?]
  rw [Array.getElem?_append_left (by simp; omega),Array.getElem?_append_right (by omega)]
  simp
theorem appE_old {old new rest : Array Value} {k : Nat} (h : k < old.size) : (old ++ new ++ rest).getD k undef = old.getD k undef:=by
  simp only [Array.getD_eq_getD_getElem?]
  rw [Array.getElem?_append_left (by simp; omega),Array.getElem?_append_left (by omega)]
theorem run_builtin {b : Builtin} {c : Call} {v : Value} {W' : World} (ho : o.op = .call c) (hc : c.callee = .builtin b) (hb : ∀ ats ty cs args,builtin b ats ty cs args = (do pure (.value (← (match b with | .append => Builtin.append_ ats ty args | .copy => Builtin.copy_ ats ty args | .clear => Builtin.clear_ ats ty args | _ => stuck "")))))
    (h : (match b with | .append => Builtin.append_ c.argTypes o.type (c.args.map a.eval) | .copy => Builtin.copy_ c.argTypes o.type (c.args.map a.eval) | .clear => Builtin.clear_ c.argTypes o.type (c.args.map a.eval) | _ => stuck "").run P W = .ok v W') :
    (execOp a.eval o).run P W = .ok (.value v) W':=by
  simp only [execOp,ho,resolve,hc,pure_bind,invoke,hb,Sem.run_bind,h,Result.andThen_ok,Sem.run_pure]
theorem q_append {c : Call} {x y : Operand} {x' y' : Opnd} {t u e e2 : TypeId} {sz bytes : Nat} {z : List D} {v : AV} {news : List AO} (ho : o.op = .call c) (hc : c.callee = .builtin .append) (hargs : c.args.toList = [x,y]) (htys : c.argTypes.toList = [t,u])
    (hu : P.underlying t = some (.slice e)) (hu2 : P.underlying u = some (.slice e2)) (hn : sizeB P e = some sz) (hby : bytesB P e = some bytes) (hz : zeroB P e = some z) (hx : compO C x = some x') (hy : compO C y = some y')
    (R : Rel gb m F L W stL) (hf : news ≠ [] → m nid = none) (hr : OprOk C m F L W o a vars env) (hS : ∀ i ∈ ids (opnd vars env y'),i < st.length → stL i = sto st i) (h : aAppend st nid sz bytes (opnd vars env x') (opnd vars env y') = some (v,none,news)) :
    Ok P ro o a W (QPost gb m F L W stL nid v news):=by
  have ea : c.args = #[x,y]:=by rw [← Array.toArray_toList (xs:=c.args),hargs]
  have et : c.argTypes = #[t,u]:=by rw [← Array.toArray_toList (xs:=c.argTypes),htys]
  have rx:=hr x x' (by rw [ho]; simp [Op.operands,Call.operands,hc,ea]) hx
  have ry:=hr y y' (by rw [ho]; simp [Op.operands,Call.operands,hc,ea]) hy
  have rb : ∀ {w : Value} {W' : World},(Builtin.append_ #[t,u] o.type #[a.eval x,a.eval y]).run P W = .ok w W' → (execOp a.eval o).run P W = .ok (.value w) W':=fun {w W'} hw =>
    run_builtin ho hc (fun _ _ _ _ => rfl) (by rw [et,ea]; simpa using hw)
  unfold aAppend at h
  split at h
  · cases h
  · rename_i sz' es hsrc
    split at h
    · cases h
    · rename_i hsz
      have hs : Src P F W (a.eval y) sz es:=by
        have hs:=src_of (P:=P) R ry hS hsrc
        by_cases he : es = []
        · subst he
          obtain ⟨h1,⟨f,h2,_,_⟩,_⟩:=hs
          refine ⟨h1,⟨f,fun n W1 hW hn => ?_,by simp,by simp⟩,by simp⟩
          have hn0 : n = 0:=by simpa using hn
          subst hn0
          have:=h2 0 W1 hW (by simp)
          simp only [Nat.zero_mul] at this ⊢
          rw [← this]
          generalize a.eval y = w
          cases w <;> simp [Builtin.firstCells]
        · have : sz' = sz:=by
            by_cases hq : sz' = sz
            · exact hq
            · exact absurd ⟨he,hq⟩ hsz
          rw [← this]; exact hs
      -- onto nothing
      have key : ∀ (q : Option Addr) (v0 : AV),a.eval x = .slice q 0 0 → RepA m F L W v0 (.slice q 0 0) →
          (if es.isEmpty = true then some (v0,none,[]) else if es.length * (bytes + 1) ≤ room then some (AV.ref nid sz 0 es.length,none,[.arr sz es]) else none) = some (v,(none : Option Nat),news) →
          Ok P ro o a W (QPost gb m F L W stL nid v news):=by
        intro q v0 hw hv0 h
        split at h
        · rename_i he
          injection h with h; injection h with e1 e2; injection e2 with _ e2; subst e1; subst e2
          have he' : es = []:=by simpa using he
          subst he'
          exact Ok.qval R (by rw [ho]; simp) (rb (by rw [hw]; exact run_append_0 hu hu2 hn hs)) hv0
        · rename_i he
          split at h
          · rename_i hroom
            injection h with h; injection h with e1 e2; injection e2 with _ e2; subst e1; subst e2
            have hpos : 0 < es.length:=by
              rcases Nat.eq_zero_or_pos es.length with h | h
              · exact absurd (by simpa using h) he
              · exact h
            obtain ⟨f,rest,cap,dr,r1,r2,r3,r4,r5⟩:=run_append_new (ty:=o.type) (old:=#[]) hu hu2 hn hby hz hs (fun W1 _ => by cases q <;> simp [Builtin.firstCells,loadCells,loadCellsFrom]) (sLen:=0) (sCap:=0) (q:=q) (by omega) (by rw [Nat.zero_add]; exact hroom)
            refine Ok.val (by rw [ho]; simp) (rb (by rw [hw]; exact r1)) ?_
            have hb:=push_new W (dr:=dr) (.cells (#[] ++ ((List.range (es.length * sz)).map f).toArray ++ rest) e)
            have hget : ∀ k,k < es.length * sz → (#[] ++ ((List.range (es.length * sz)).map f).toArray ++ rest : Array Value).getD k undef = f k:=by
              intro k hk
              have:=appE_get (old:=#[]) (new:=((List.range (es.length * sz)).map f).toArray) (rest:=rest) (k:=k) (by simpa using hk)
              simp only [Array.size_empty,Nat.zero_add] at this
              rw [this,mem_range_map hk]
            have hsize : (#[] ++ ((List.range (es.length * sz)).map f).toArray ++ rest : Array Value).size = cap * sz:=by
              simp [r3]
              have : cap = es.length + (cap - es.length):=by omega
              rw [Nat.zero_add] at *
              conv => rhs; rw [this,Nat.add_mul]
            have hle : es.length * sz ≤ cap * sz:=Nat.mul_le_mul_right _ (by omega)
            have hO : RelO (addM m nid W.heap.size) F L (pushD W dr (.cells (#[] ++ ((List.range (es.length * sz)).map f).toArray ++ rest) e)) W.heap.size (.arr sz es):=by
              refine ⟨_,e,hb,hs.hz,by rw [hsize]; exact hle,fun k hk => by rw [hget k hk]; exact r4 k hk,fun i e0 j d hi hj => ?_⟩
              have hil:=(List.getElem?_eq_some_iff.1 hi).1
              have hj' : j < sz:=by rw [← hs.hz e0 (List.mem_of_getElem? hi)]; exact (List.getElem?_eq_some_iff.1 hj).1
              have : (i + 1) * sz ≤ es.length * sz:=Nat.mul_le_mul_right _ (by omega)
              rw [Nat.succ_mul] at this
              rw [hget _ (by omega)]
              exact repD_push R _ (r5 i e0 j d hi hj)
            refine QPost.new R (hf (by simp)) hO ?_
            rw [Nat.zero_add]
            exact .ref _ _ _ _ W.heap.size _ _ (cap * sz) (by simp [addM]) rfl rfl (fun _ => by simp) (by simp only [rowSize,hb]; rw [hsize]) (by simp) (by omega)
          · cases h
      split at h
      · rename_i e0
        rw [e0] at rx
        have hw : a.eval x = .slice none 0 0:=by
          generalize a.eval x = w at rx
          cases rx with | imm _ _ h => cases h; rfl
        exact key none (.imm .nil) hw (hw ▸ rx) h
      · rename_i sz0 e0
        rw [e0] at rx
        split at h
        · cases h
        · rename_i hs0
          have hs0' : sz0 = sz:=by simpa using hs0
          subst hs0'
          obtain ⟨q,hw⟩ : ∃ q : Addr,a.eval x = .slice (some q) 0 0:=by
            generalize a.eval x = w at rx
            cases rx with | e0 _ q => exact ⟨q,rfl⟩
          exact key (some q) (.e0 sz0) hw (.e0 _ _) h
      · split at h
        · split at h
          · simp at h
          · cases h
        · cases h
      · cases h
end
end Go.Vm

/- Soundness: comparisons and look-ups. -/
namespace Go.Vm
open Go
section
variable {P : Program} {gb : Nat → Option (List D)} {C : Ctx} {o : Oper} {a : Act} {W : World} {m : Nat → Option Nat} {F : Nat → Prop} {L : Option Nat} {stL : Sto} {st : List AO} {vars env : List AV} {nid : Nat} {ro : Option Nat} {lo : Lower}
theorem run_intEq {x y : D} {b : Bool} {v w : Value} {t : TypeId} {k : IntKind} {d : Nat} (ht : P.underlying t = some (.int k)) (hx : RepD F W x v) (hy : RepD F W y w) (h : intEq x y = some b) : (Op.equalIn (d + 1) t v w).run P W = .ok b W:=by
  unfold intEq at h
  split at h
  · split at h
    · rename_i hk2
      subst hk2
      injection h with h; subst h
      cases hx; cases hy
      simp [Op.equalIn,run_und ht]
    · cases h
  · cases h
theorem run_boolEq {x y : D} {b : Bool} {v w : Value} {t : TypeId} {d : Nat} (ht : P.underlying t = some .bool) (hx : RepD F W x v) (hy : RepD F W y w) (h : boolEq x y = some b) : (Op.equalIn (d + 1) t v w).run P W = .ok b W:=by
  unfold boolEq at h
  split at h
  · injection h with h; subst h
    cases hx; cases hy
    simp [Op.equalIn,run_und ht]
  · cases h
def At (P : Program) (F : Nat → Prop) (W : World) (t : TypeId) (xs : List D) (i : Nat) (v : Value) : Prop :=
  match isAggB P t,sizeB P t with
  | some true,some n => ∃ vs,v = .agg vs ∧ ∀ k d,k < n → xs[i + k]? = some d → k < vs.size ∧ RepD F W d (vs.getD k undef)
  | some false,some _ => ∀ d,xs[i]? = some d → RepD F W d v
  | _,_ => False
theorem aggB_of {t : TypeId} {n : Nat} {e : ETy} (h : etyB P n t = some e) : ∃ g k,isAggB P t = some g ∧ sizeB P t = some k ∧ (g = false → k = 1):=by
  cases n with
  | zero => cases h
  | succ n =>
    unfold etyB at h
    unfold isAggB
    split at h
    · rename_i k hu
      rw [hu]
      split at h
      · rename_i hs; exact ⟨false,1,rfl,hs,fun _ => rfl⟩
      · cases h
    · rename_i hu
      rw [hu]
      split at h
      · rename_i hs; exact ⟨false,1,rfl,hs,fun _ => rfl⟩
      · cases h
    · rename_i fs hu
      rw [hu]
      split at h
      · rename_i k hs; exact ⟨true,k,rfl,hs,by simp⟩
      · cases h
    · rename_i len e hu
      rw [hu]
      split at h
      · rename_i hs; exact ⟨true,_,rfl,hs,by simp⟩
      · cases h
    · cases h
theorem At.part {t : TypeId} {g : Bool} {k n i off : Nat} {xs : List D} {vs : Array Value} (hg : isAggB P t = some g) (hk : sizeB P t = some k) (h1 : g = false → k = 1) (hle : off + k ≤ n)
    (h : ∀ j d,j < n → xs[i + j]? = some d → j < vs.size ∧ RepD F W d (vs.getD j undef)) (hx : g = false → ∃ d,xs[i + off]? = some d) : ∃ v,(part t vs off).run P W = .ok v W ∧ At P F W t xs (i + off) v:=by
  cases g with
  | true =>
    refine ⟨.agg (vs.extract off (off + k)),by simp [Go.part,run_aggB hg,run_sizeB hk],?_⟩
    unfold At
    rw [hg,hk]
    refine ⟨_,rfl,fun j d hj hd => ?_⟩
    obtain ⟨p,q⟩:=h (off + j) d (by omega) (by rw [← Nat.add_assoc]; exact hd)
    refine ⟨by simp; omega,?_⟩
    have e : (vs.extract off (off + k)).getD j undef = vs.getD (off + j) undef:=by
      simp [p,show j < min (off + k) vs.size - off by omega]
    rw [e]; exact q
  | false =>
    have:=h1 rfl; subst this
    obtain ⟨d,hd⟩:=hx rfl
    obtain ⟨p,q⟩:=h off d (by omega) hd
    refine ⟨vs[off],by simp [Go.part,run_aggB hg,p],?_⟩
    unfold At
    rw [hg,hk]
    intro d' hd'
    rw [hd] at hd'; injection hd' with hd'; subst hd'
    simpa [p] using q
theorem eqE_some {n : Nat} {t : TypeId} {e : ETy} {xs ys : List D} {i j : Nat} {b : Bool} (he : etyB P n t = some e) (hg : isAggB P t = some false) (h : eqE e xs i ys j = some b) : (∃ d,xs[i]? = some d) ∧ ∃ d,ys[j]? = some d:=by
  cases n with
  | zero => cases he
  | succ n =>
    unfold etyB at he
    unfold isAggB at hg
    split at he
    · split at he
      · injection he with he; subst he
        unfold eqE at h
        split at h
        · rename_i x y h1 h2; exact ⟨⟨x,h1⟩,y,h2⟩
        · cases h
      · cases he
    · split at he
      · injection he with he; subst he
        unfold eqE at h
        split at h
        · rename_i x y h1 h2; exact ⟨⟨x,h1⟩,y,h2⟩
        · cases h
      · cases he
    · rename_i hu; rw [hu] at hg; cases hg
    · rename_i hu; rw [hu] at hg; cases hg
    · cases he
theorem run_eqFs {d n k : Nat} (ih : ∀ {t : TypeId} {e : ETy} {xs ys : List D} {i j : Nat} {b : Bool} {v w : Value},etyB P n t = some e → At P F W t xs i v → At P F W t ys j w → eqE e xs i ys j = some b → (Op.equalIn d t v w).run P W = .ok b W)
    {xs ys : List D} {i j : Nat} {vs ws : Array Value} (hx : ∀ q d,q < k → xs[i + q]? = some d → q < vs.size ∧ RepD F W d (vs.getD q undef)) (hy : ∀ q d,q < k → ys[j + q]? = some d → q < ws.size ∧ RepD F W d (ws.getD q undef)) :
    ∀ {fs : List Field} {l : List (Nat × ETy)} {b : Bool},etyFs P (etyB P n) k fs = some l → eqL l xs i ys j = some b → (Op.eqFields d vs ws fs).run P W = .ok b W
  | [],l,b,h,hb => by
    injection h with h; subst h
    simp [eqL] at hb; subst hb
    simp [Op.eqFields]
  | f :: fs,l,b,h,hb => by
    unfold etyFs at h
    split at h
    · cases h
    · rename_i hn
      split at h
      · rename_i e sz l' h1 h2 h3
        split at h
        · rename_i hle
          injection h with h; subst h
          obtain ⟨g,k',hg,hk',g1⟩:=aggB_of h1
          rw [h2] at hk'; injection hk' with hk'; subst hk'
          simp only [eqL] at hb
          have hex : ∀ r,eqE e xs (i + f.offset) ys (j + f.offset) = some r → (Op.eqFields d vs ws (f :: fs)).run P W = (if (!r) = true then pure false else Op.eqFields d vs ws fs).run P W:=by
            intro r hr
            obtain ⟨v,p1,p2⟩:=At.part (i:=i) hg h2 g1 hle hx (fun q => (eqE_some h1 (q ▸ hg) hr).1)
            obtain ⟨w,q1,q2⟩:=At.part (i:=j) hg h2 g1 hle hy (fun q => (eqE_some h1 (q ▸ hg) hr).2)
            simp only [Op.eqFields,if_pos hn,Sem.run_bind,p1,q1,Result.andThen_ok,ih h1 p2 q2 hr]
          cases hr : eqE e xs (i + f.offset) ys (j + f.offset) with
          | none => rw [hr] at hb; cases hb
          | some r =>
            rw [hr] at hb
            rw [hex r hr]
            cases r with
            | true => simpa using run_eqFs ih hx hy h3 hb
            | false => simp at hb; subst hb; simp
        · cases h
      · cases h
theorem run_eqIs {d n k sz : Nat} {t : TypeId} {e : ETy} (ih : ∀ {xs ys : List D} {i j : Nat} {b : Bool} {v w : Value},At P F W t xs i v → At P F W t ys j w → eqE e xs i ys j = some b → (Op.equalIn d t v w).run P W = .ok b W) (he : etyB P n t = some e) (hs : sizeB P t = some sz)
    {xs ys : List D} {i j : Nat} {vs ws : Array Value} (hx : ∀ q d,q < k → xs[i + q]? = some d → q < vs.size ∧ RepD F W d (vs.getD q undef)) (hy : ∀ q d,q < k → ys[j + q]? = some d → q < ws.size ∧ RepD F W d (ws.getD q undef)) :
    ∀ {is : List Nat} {b : Bool},(∀ q ∈ is,q * sz + sz ≤ k) → eqL (is.map fun i => (i * sz,e)) xs i ys j = some b → (Op.eqItems d t sz vs ws is).run P W = .ok b W
  | [],b,_,hb => by
    simp [eqL] at hb; subst hb
    simp [Op.eqItems]
  | q :: is,b,hq,hb => by
    obtain ⟨g,k',hg,hk',g1⟩:=aggB_of he
    rw [hs] at hk'; injection hk' with hk'; subst hk'
    simp only [List.map_cons,eqL] at hb
    have hle:=hq q (by simp)
    have hex : ∀ r,eqE e xs (i + q * sz) ys (j + q * sz) = some r → (Op.eqItems d t sz vs ws (q :: is)).run P W = (if (!r) = true then pure false else Op.eqItems d t sz vs ws is).run P W:=by
      intro r hr
      obtain ⟨v,p1,p2⟩:=At.part (i:=i) hg hs g1 hle hx (fun q => (eqE_some he (q ▸ hg) hr).1)
      obtain ⟨w,q1,q2⟩:=At.part (i:=j) hg hs g1 hle hy (fun q => (eqE_some he (q ▸ hg) hr).2)
      simp only [Op.eqItems,Sem.run_bind,p1,q1,Result.andThen_ok,ih p2 q2 hr]
    cases hr : eqE e xs (i + q * sz) ys (j + q * sz) with
    | none => rw [hr] at hb; cases hb
    | some r =>
      rw [hr] at hb
      rw [hex r hr]
      cases r with
      | true => simpa using run_eqIs ih he hs hx hy (fun q h => hq q (by simp [h])) hb
      | false => simp at hb; subst hb; simp
theorem run_eqE : ∀ {n : Nat} {t : TypeId} {e : ETy} {xs ys : List D} {i j : Nat} {b : Bool} {v w : Value} {c : Nat},etyB P n t = some e → At P F W t xs i v → At P F W t ys j w → eqE e xs i ys j = some b → (Op.equalIn (n + c) t v w).run P W = .ok b W
  | 0,_,_,_,_,_,_,_,_,_,_,h,_,_,_ => by cases h
  | n + 1,t,e,xs,ys,i,j,b,v,w,c,h,hx,hy,hb => by
    obtain ⟨g,k,hg,hk,g1⟩:=aggB_of h
    rw [Nat.add_right_comm]
    unfold At at hx hy
    rw [hg,hk] at hx hy
    unfold etyB at h
    unfold isAggB at hg
    split at h
    · rename_i k' hu
      split at h
      · injection h with h; subst h
        rw [hu] at hg; cases hg
        unfold eqE at hb
        split at hb
        · rename_i x y h1 h2
          exact run_intEq hu (hx x h1) (hy y h2) hb
        · cases hb
      · cases h
    · rename_i hu
      split at h
      · injection h with h; subst h
        rw [hu] at hg; cases hg
        unfold eqE at hb
        split at hb
        · rename_i x y h1 h2
          exact run_boolEq hu (hx x h1) (hy y h2) hb
        · cases hb
      · cases h
    · rename_i fs hu
      rw [hu] at hg; cases hg
      rw [hk] at h
      simp only at h
      split at h
      · cases h
      · rename_i hst
        simp only [Option.map_eq_some_iff] at h
        obtain ⟨l,hl,rfl⟩:=h
        obtain ⟨vs,rfl,hx⟩:=hx
        obtain ⟨ws,rfl,hy⟩:=hy
        have hfs : P.fieldsOf t = fs:=by simp [Program.fieldsOf,hu]
        rw [run_equalIn_struct W (n + c) t vs ws (by rw [hfs]; exact hu) (by simpa using hst),hfs]
        simp only [eqE] at hb
        exact run_eqFs (n:=n) (fun h hx hy hb => run_eqE h hx hy hb) hx hy hl hb
    · rename_i len e' hu
      rw [hu] at hg; cases hg
      split at h
      · rename_i q sz k' h1 h2 h3
        rw [hk] at h3; injection h3 with h3; subst h3
        split at h
        · rename_i hle
          injection h with h; subst h
          obtain ⟨vs,rfl,hx⟩:=hx
          obtain ⟨ws,rfl,hy⟩:=hy
          unfold sizeB at h2
          rw [Option.map_eq_some_iff] at h2
          obtain ⟨inf,hi,hsz⟩:=h2
          rw [run_equalIn_array W (n + c) vs ws hu hi]
          have hc : P.cellsOf e' = sz:=by simp [Program.cellsOf,hi,hsz]
          rw [hc]
          simp only [eqE] at hb
          refine run_eqIs (n:=n) (k:=k) (fun hx hy hb => run_eqE h1 hx hy hb) h1 (by simp [sizeB,hi,hsz]) hx hy (fun q hq => ?_) hb
          rw [List.mem_range] at hq
          have : (q + 1) * sz ≤ len * sz:=Nat.mul_le_mul_right _ hq
          rw [Nat.succ_mul] at this
          omega
        · cases h
      · cases h
    · cases h
theorem run_eqop {neg : Bool} {t : TypeId} {v w : Value} {b : Bool} (hv : (∃ c,v = .bool c) ∨ (∃ c,v = .agg c) ∨ ∃ p q r,v = .slice p q r) (hw : (∃ c,w = .bool c) ∨ (∃ c,w = .agg c) ∨ ∃ p q r,w = .slice p q r)
    (h : (Op.equalIn 10000 t v w).run P W = .ok b W) : (binOp (if neg then .neq else .eql) t v w).run P W = .ok (.bool (if neg then !b else b)) W:=by
  rcases hv with ⟨c,rfl⟩ | ⟨c,rfl⟩ | ⟨p,q,r,rfl⟩ <;> rcases hw with ⟨c',rfl⟩ | ⟨c',rfl⟩ | ⟨p',q',r',rfl⟩ <;> cases neg <;> simp [binOp,Op.equal,Op.maxDepth,h]
theorem run_eqNil {t s : TypeId} {d n c : Nat} {p : Option Addr} (hu : P.underlying t = some (.slice s)) : (Op.equalIn (d + 1) t (.slice none 0 0) (.slice p n c)).run P W = .ok p.isNone W:=by
  simp [Op.equalIn,run_und hu]
theorem run_eqNil' {t s : TypeId} {d n c : Nat} {p : Option Addr} (hu : P.underlying t = some (.slice s)) : (Op.equalIn (d + 1) t (.slice p n c) (.slice none 0 0)).run P W = .ok p.isNone W:=by
  cases p <;> simp [Op.equalIn,run_und hu]
theorem run_checkKey {t : TypeId} {k : IntKind} {d : Nat} {b : Bool} {v : Value} (hu : P.underlying t = some (.int k)) : (Instr.checkKey b (d + 1) t v).run P W = .ok () W:=by
  simp [Instr.checkKey,run_und hu]
theorem sq_eqs {op : BinOp} {t u : TypeId} {x y : Operand} {x' y' : Opnd} {neg : Bool} {e : ETy} {b : Bool} (ho : o.op = .binOp op t x y u) (hop : op = if neg then .neq else .eql) (hx : compO C x = some x') (hy : compO C y = some y') (R : Rel gb m F L W stL) (hr : OprOk C m F L W o a vars env)
    (he : (P.underlying t = some .bool ∧ e = .bool) ∨ (∃ s,P.underlying t = some (.slice s) ∧ e = .nilsl) ∨ (∃ fs,e = .agg fs ∧ P.eqGuardType P.depth t = false ∧ etyB P 8 t = some e)) (h : aEq e (opnd vars env x') (opnd vars env y') = some b) :
    Ok P ro o a W (QPost gb m F L W stL nid (.imm (.bool (if neg then !b else b))) []):=by
  have rx:=hr x x' (by rw [ho]; simp [Op.operands]) hx
  have ry:=hr y y' (by rw [ho]; simp [Op.operands]) hy
  subst hop
  have fin : ∀ {v w : Value},a.eval x = v → a.eval y = w → ((∃ c,v = .bool c) ∨ (∃ c,v = .agg c) ∨ ∃ p q r,v = .slice p q r) → ((∃ c,w = .bool c) ∨ (∃ c,w = .agg c) ∨ ∃ p q r,w = .slice p q r) → ((∃ c c',v = .agg c ∧ w = .agg c') → P.eqGuardType P.depth t = false) →
      (Op.equalIn 10000 t v w).run P W = .ok b W → Ok P ro o a W (QPost gb m F L W stL nid (.imm (.bool (if neg then !b else b))) []):=by
    intro v w h1 h2 hv hw hg heq
    have hgu : (eqGuard (if neg then .neq else .eql) t x y v w).run P W = .ok () W:=by
      rcases hv with ⟨c,rfl⟩ | ⟨c,rfl⟩ | ⟨p,q,r,rfl⟩ <;> rcases hw with ⟨c',rfl⟩ | ⟨c',rfl⟩ | ⟨p',q',r',rfl⟩
      case inr.inl.inr.inl => exact run_eqGuard_agg W _ t x y c c' (hg ⟨_,_,rfl,rfl⟩)
      all_goals cases neg <;> simp [eqGuard]
    have hb:=run_eqop (neg:=neg) hv hw heq
    refine Ok.qval R (by rw [ho]; simp) (w:=.bool (if neg then !b else b)) ?_ (rbool _)
    simp only [execOp,ho,h1,h2,Sem.run_bind,hgu,Result.andThen_ok,hb,Sem.run_pure]
  rcases he with ⟨hu,rfl⟩ | ⟨s,hu,rfl⟩ | ⟨fs,rfl,hg,he⟩
  · unfold aEq at h
    simp only at h
    split at h
    · rename_i d1 d2 e1 e2
      rw [e1] at rx; rw [e2] at ry
      unfold boolEq at h
      split at h
      · injection h with h; subst h
        exact fin (imm_bool rx) (imm_bool ry) (.inl ⟨_,rfl⟩) (.inl ⟨_,rfl⟩) (by simp) (run_equalIn_bool' W 9999 t _ _ hu)
      · cases h
    · cases h
  · unfold aEq at h
    simp only at h
    have nil : ∀ {q : AV} {v : Value},isNilSl q = some b → RepA m F L W q v → ∃ p n c,v = .slice p n c ∧ b = p.isNone:=by
      intro q v hq hv
      unfold isNilSl at hq
      split at hq
      · injection hq with hq; subst hq
        cases hv with | imm _ _ h => cases h; exact ⟨none,0,0,rfl,rfl⟩
      · injection hq with hq; subst hq
        cases hv with | imm _ _ h => cases h; exact ⟨_,_,_,rfl,rfl⟩
      · injection hq with hq; subst hq
        cases hv; exact ⟨_,_,_,rfl,rfl⟩
      · injection hq with hq; subst hq
        cases hv; exact ⟨_,_,_,rfl,rfl⟩
      · cases hq
    have nl : ∀ {v : Value},RepA m F L W (.imm .nil) v → v = .slice none 0 0:=fun h => by cases h with | imm _ _ h => cases h; rfl
    split at h
    · rename_i e1
      rw [e1] at rx
      obtain ⟨p,n,c,hw,hp⟩:=nil h ry
      refine fin (nl rx) hw (.inr (.inr ⟨_,_,_,rfl⟩)) (.inr (.inr ⟨_,_,_,rfl⟩)) (by simp) ?_
      rw [hp]
      exact run_eqNil (d:=9999) hu
    · rename_i e1 _
      rw [e1] at ry
      obtain ⟨p,n,c,hw,hp⟩:=nil h rx
      refine fin hw (nl ry) (.inr (.inr ⟨_,_,_,rfl⟩)) (.inr (.inr ⟨_,_,_,rfl⟩)) (by simp) ?_
      rw [hp]
      exact run_eqNil' (d:=9999) hu
    · cases h
  · unfold aEq at h
    simp only at h
    split at h
    · rename_i xs ys e1 e2
      rw [e1] at rx; rw [e2] at ry
      obtain ⟨g,k,hag,hk,_⟩:=aggB_of he
      have hgt : g = true:=by
        cases g with
        | true => rfl
        | false =>
          exfalso
          unfold etyB at he
          unfold isAggB at hag
          split at he
          · split at he
            · injection he with he; cases he
            · cases he
          · split at he
            · injection he with he; cases he
            · cases he
          · rename_i hu; rw [hu] at hag; cases hag
          · rename_i hu; rw [hu] at hag; cases hag
          · cases he
      subst hgt
      have mk : ∀ {l : List D} {v : Value},RepA m F L W (.imm (.agg l)) v → (∃ c,v = .agg c) ∧ At P F W t l 0 v:=by
        intro l v hv
        cases hv with
        | imm _ _ h =>
          cases h with
          | agg _ vs hl hr =>
            refine ⟨⟨vs,rfl⟩,?_⟩
            unfold At
            rw [hag,hk]
            refine ⟨vs,rfl,fun q d _ hd => ?_⟩
            rw [Nat.zero_add] at hd
            exact ⟨by rw [hl]; exact (List.getElem?_eq_some_iff.1 hd).1,hr q d hd⟩
      obtain ⟨m1,m2⟩:=mk rx
      obtain ⟨n1,n2⟩:=mk ry
      exact fin rfl rfl (.inr (.inl m1)) (.inr (.inl n1)) (fun _ => hg) (run_eqE (n:=8) (c:=9992) he m2 n2 (by simpa only [eqE] using h))
    · cases h
theorem findNow_look {k : Int} {kd : IntKind} : ∀ {es : List (Int × D)} {l : List MapEntry} {i : Nat},l.length = es.length → (∀ (i : Nat) (q : Int) (d : D),es[i]? = some (q,d) → ∃ e : MapEntry,l[i]? = some e ∧ e.key = .int .i64 q ∧ RepD F W d e.val) →
    (lookI es k = none ∧ Instr.findNow (.int kd) (.int .i64 k) l i = some none) ∨ ∃ d j v,lookI es k = some d ∧ Instr.findNow (.int kd) (.int .i64 k) l i = some (some (j,v)) ∧ RepD F W d v
  | [],[],_,_,_ => .inl ⟨rfl,rfl⟩
  | [],_ :: _,_,h,_ => by simp at h
  | _ :: _,[],_,h,_ => by simp at h
  | (q,d) :: es,e :: l,i,hl,h => by
    obtain ⟨e',h1,h2,h3⟩:=h 0 q d rfl
    simp at h1; subst h1
    have ih:=findNow_look (k:=k) (kd:=kd) (es:=es) (l:=l) (i:=i + 1) (by simpa using hl) (fun i q d hi => by simpa using h (i + 1) q d (by simpa using hi))
    simp only [Instr.findNow,h2,Instr.sameNow,if_true,lookI,List.find?_cons]
    by_cases hq : q = k
    · subst hq
      refine .inr ⟨d,i,e.val,?_,?_,h3⟩ <;> simp
    · have e1 : (k == q) = false:=by simpa using fun h => hq h.symm
      have e2 : (q == k) = false:=by simpa using hq
      rw [e1,e2]
      simp only [lookI] at ih
      exact ih
theorem sq_lookup {t kt e : TypeId} {kd : IntKind} {x y : Operand} {x' y' : Opnd} {z : D} {id : Nat} {k : Int} {es : List (Int × D)} (ho : o.op = .lookup t x y false) (hu : P.underlying t = some (.map kt e)) (hk : P.underlying kt = some (.int kd)) (hz : zero1B P e = some z) (hx : compO C x = some x') (hy : compO C y = some y')
    (R : Rel gb m F L W stL) (hr : OprOk C m F L W o a vars env) (hS : ∀ i ∈ ids (opnd vars env x'),i < st.length → stL i = sto st i) (e1 : opnd vars env x' = .map id) (e2 : keyI (opnd vars env y') = some k) (e3 : st[id]? = some (.imap es)) :
    Ok P ro o a W (QPost gb m F L W stL nid (.imm ((lookI es k).getD z)) []):=by
  have rx:=hr x x' (by rw [ho]; simp [Op.operands]) hx
  have ry:=hr y y' (by rw [ho]; simp [Op.operands]) hy
  have hky : a.eval y = .int .i64 k:=by
    unfold keyI at e2
    split at e2
    · rename_i e; rw [e] at ry
      injection e2 with e2; subst e2
      exact imm_int ry
    · cases e2
  have hst : stL id = .imap es:=by
    rw [hS id (by rw [e1]; simp [ids]) (List.getElem?_eq_some_iff.1 e3).1]
    simp [sto,List.getD_eq_getElem?_getD,e3]
  rw [e1] at rx
  obtain ⟨b,hm,ents,clock,hb,hl,hents⟩ : ∃ b,m id = some b ∧ RelO m F L W b (.imap es):=by
    obtain ⟨b,h1,h2⟩:=R.hs id (by rw [hst]; simp)
    exact ⟨b,h1,hst ▸ h2⟩
  have hxv : a.eval x = .map (some b):=by
    generalize a.eval x = w at rx
    cases rx with | map _ b' h => rw [hm] at h; injection h with h; subst h; rfl
  obtain ⟨zv,hz1,hzc⟩ : ∃ zv,(zeroValue e).run P W = .ok zv W ∧ RepD F W z zv:=by
    unfold zero1B at hz
    split at hz
    · rename_i i hi
      split at hz
      · rename_i v hv
        exact ⟨v,by simp [zeroValue,run_info hi,hv],rep_cell hz⟩
      · cases hz
    · cases hz
  have hgo : (getObj b).run P W = .ok (.map ents clock) W:=by simp [getObj,Sem.run,hb]
  have hchk : (Instr.checkKey ents.isEmpty 10000 kt (.int .i64 k)).run P W = .ok () W:=by
    exact run_checkKey (d:=9999) hk
  rcases findNow_look (F:=F) (W:=W) (k:=k) (kd:=kd) (es:=es) (l:=ents.toList) (i:=0) (by simpa using hl) (fun i q d hi => by simpa using hents i q d hi) with ⟨h1,h2⟩ | ⟨d,j,v,h1,h2,h3⟩
  · refine Ok.qval R (by rw [ho]; simp) (w:=zv) ?_ ?_
    · simp [execOp,ho,hxv,hky,Instr.lookup,run_und hu,hgo,hchk,Instr.findKey,run_und hk,h2,hz1]
    · rw [h1]; exact .imm _ _ hzc
  · refine Ok.qval R (by rw [ho]; simp) (w:=v) ?_ ?_
    · simp [execOp,ho,hxv,hky,Instr.lookup,run_und hu,hgo,hchk,Instr.findKey,run_und hk,h2]
    · rw [h1]; exact .imm _ _ h3
end
end Go.Vm

/- Soundness: what functions and rounds owe; garbage left behind; calls on plain data. -/
namespace Go.Vm
open Go
abbrev XT:=Nat → Ext → (Nat → Prop) → (Nat → Prop) → World → Prop
def XR (X : XT) : Option Nat → Option Ext → (Nat → Prop) → (Nat → Prop) → World → Prop
  | none,none,XO,_,_ => ∀ b,¬ XO b
  | some l,some e,XO,F,W => X l e XO F W ∧ ∀ b,XO b → b < W.heap.size ∧ ¬ F b
  | _,_,_,_,_ => False
def XMono (X : XT) : Prop:=∀ l e XO O F F' m m' W W',X l e XO F W → Grow O m F W m' F' W' → (∀ b,F b → b < W.heap.size ∧ ¬ O b) → (∀ b,XO b → ¬ O b) → (∀ b,F' b → b < W'.heap.size) → X l e XO F' W'
structure St (gb : Nat → Option (List D)) (X : XT) (m : Nat → Option Nat) (F : Nat → Prop) (L : Option Nat) (XO : Nat → Prop) (W : World) (st : List AO) (ext : Option Ext) : Prop where
  R : Rel gb m F L W (sto st)
  up : ∀ i b,m i = some b → i < st.length
  x : XR X L ext XO F W
  ap : ∀ b,own m (sto st) b → ¬ XO b
def ownA (m : Nat → Option Nat) (st : List AO) (XO : Nat → Prop) (b : Nat) : Prop:=own m (sto st) b ∨ XO b
structure Post (gb : Nat → Option (List D)) (X : XT) (m : Nat → Option Nat) (F : Nat → Prop) (L : Option Nat) (XO : Nat → Prop) (W : World) (st : List AO) (v : AV) (st' : List AO) (ext' : Option Ext) (w : Value) (W' : World)
    (m' : Nat → Option Nat) (F' XO' : Nat → Prop) : Prop where
  gr : Grow (ownA m st XO) m F W m' F' W'
  s : St gb X m' F' L XO' W' st' ext'
  rv : RepA m' F' L W' v w
  ow : ∀ b,own m' (sto st') b → own m (sto st) b ∨ W.heap.size ≤ b
  xo : ∀ b,XO' b → XO b ∨ W.heap.size ≤ b
  rg : ∀ i b,m' i = some b → (∃ j,m j = some b) ∨ W.heap.size ≤ b
def Entry (P : Program) (f : FuncId) : Prop:=∀ args W,(callFunc f args).run P W = .ok (.enter f args) W
structure LowerOk (P : Program) (gb : Nat → Option (List D)) (X : XT) (lo : Lower) : Prop where
  xm : XMono X
  call : ∀ {f args st ext v st' ext' m F L XO W} {vs : Array Value},lo.call f args st ext = some (v,st',ext') → St gb X m F L XO W st ext → vs.size = args.length → (∀ j a,args[j]? = some a → RepA m F L W a (vs.getD j undef)) →
    CallsIn Fence.wide 0 P f vs W fun e w => ∃ r m' F' XO',e = .returned r ∧ Post gb X m F L XO W st v st' ext' r w m' F' XO'
  ent : ∀ {f args st ext r},lo.call f args st ext = some r → Entry P f
  round : ∀ {l e ds e' b XO F W} {vs : Array Value},lo.round e ds = some (e',b) → X l e XO F W → (∀ b,XO b → b < W.heap.size ∧ ¬ F b) → (∀ b,F b → b < W.heap.size) → vs.size = ds.length → (∀ j d,ds[j]? = some d → RepD F W d (vs.getD j undef)) →
    YieldAt Fence.wide 0 P l vs W fun en w => ∃ F' XO',en = .returned (.bool b) ∧ Grow XO (fun _ => none) F W (fun _ => none) F' w ∧ X l e' XO' F' w ∧ (∀ b,XO' b → b < w.heap.size ∧ ¬ F' b) ∧ (∀ b,F' b → b < w.heap.size) ∧ (∀ b,XO' b → XO b ∨ W.heap.size ≤ b)
theorem reach_nodup (st : List AO) : ∀ (n : Nat) (acc todo : List Nat),acc.Nodup → (reach st n acc todo).Nodup
  | 0,acc,todo,h => by simpa [reach] using h
  | n + 1,acc,[],h => by simpa [reach] using h
  | n + 1,acc,i :: todo,h => by
    unfold reach
    split
    · exact reach_nodup st n acc todo h
    · rename_i hi
      refine reach_nodup st n _ _ ?_
      rw [List.nodup_append]
      refine ⟨h,by simp,fun a ha b hb => ?_⟩
      simp at hb; subst hb
      rintro rfl
      exact hi (by simpa using ha)
theorem keep_nodup (nb : Nat) (roots : List Nat) (st : List AO) : (keepIds nb roots st).Nodup:=reach_nodup st _ _ _ List.nodup_range
theorem reach_app (st : List AO) : ∀ (n : Nat) (acc todo : List Nat),∃ t,reach st n acc todo = acc ++ t
  | 0,acc,todo => ⟨[],by simp [reach]⟩
  | n + 1,acc,[] => ⟨[],by simp [reach]⟩
  | n + 1,acc,i :: todo => by
    unfold reach
    split
    · exact reach_app st n acc todo
    · obtain ⟨t,ht⟩:=reach_app st n (acc ++ [i]) (todo ++ aoIds (st.getD i .dead))
      exact ⟨i :: t,by rw [ht]; simp⟩
theorem keep_get {nb : Nat} {roots : List Nat} {st : List AO} {j : Nat} (h : j < nb) : (keepIds nb roots st)[j]? = some j:=by
  obtain ⟨t,ht⟩:=reach_app st 1000 (List.range nb) ((List.range nb).flatMap (fun i => aoIds (st.getD i .dead)) ++ roots)
  unfold keepIds
  rw [ht,List.getElem?_append_left (by simpa using h)]
  simp [h]
theorem keep_len {nb : Nat} {roots : List Nat} {st : List AO} : nb ≤ (keepIds nb roots st).length:=by
  obtain ⟨t,ht⟩:=reach_app st 1000 (List.range nb) ((List.range nb).flatMap (fun i => aoIds (st.getD i .dead)) ++ roots)
  unfold keepIds
  rw [ht]; simp
theorem idx_get {l : List Nat} {i j : Nat} (h : idx l i = some j) : l[j]? = some i:=by
  unfold idx at h
  rw [List.idxOf?,List.findIdx?_eq_some_iff_getElem] at h
  obtain ⟨hj,h1,_⟩:=h
  rw [List.getElem?_eq_getElem hj]
  simpa using h1
theorem idx_of {l : List Nat} {i j : Nat} (hn : l.Nodup) (h : l[j]? = some i) : idx l i = some j:=by
  unfold idx
  rw [List.idxOf?,List.findIdx?_eq_some_iff_getElem]
  obtain ⟨hj,h1⟩:=List.getElem?_eq_some_iff.1 h
  refine ⟨hj,by simpa using h1,fun k hk hc => ?_⟩
  have : l[k]'(by omega) = l[j]:=by rw [h1]; simpa using hc
  have:=(List.getElem_inj hn).1 this
  omega
theorem sto_pick {f : Nat → Option Nat} {l : List Nat} {st : List AO} {j : Nat} : sto (pickSt f l st) j = match l[j]? with | some i => renO f (sto st i) | none => .dead:=by
  unfold sto pickSt
  simp only [List.getD_eq_getElem?_getD,List.getElem?_map]
  cases l[j]? <;> rfl
theorem pick_rel {gb : Nat → Option (List D)} {m : Nat → Option Nat} {F : Nat → Prop} {L : Option Nat} {W : World} {l : List Nat} {s : List AO} (R : Rel gb m F L W (sto s)) (hn : l.Nodup) :
    Rel gb (fun j => (l[j]?).bind m) F L W (sto (pickSt (idx l) l s)):=by
  have hf : ∀ i j b,idx l i = some j → m i = some b → (fun j => (l[j]?).bind m) j = some b:=fun i j b h1 h2 => by simp only [idx_get h1,Option.bind_some,h2]
  have nd : ∀ j,lv (sto (pickSt (idx l) l s) j) = true → ∃ i,l[j]? = some i ∧ lv (sto s i) = true:=by
    intro j h
    rw [sto_pick] at h
    split at h
    · rename_i i hi
      exact ⟨i,hi,by rwa [lv_renO] at h⟩
    · cases h
  refine ⟨R.gl,fun j hj => ?_,fun i j b hi hj h1 h2 => ?_,fun i b hi h1 => ?_,R.hF,fun i b h1 => ?_⟩
  · rw [sto_pick] at hj ⊢
    split at hj
    · rename_i i hi
      obtain ⟨b,h1,h2⟩:=R.hs i (fun h => hj (renO_dead.2 h))
      refine ⟨b,by simp [hi,h1],renO_rel hf h2⟩
    · exact absurd rfl hj
  · obtain ⟨i',hi',li⟩:=nd i hi
    obtain ⟨j',hj',lj⟩:=nd j hj
    simp only [hi',Option.bind_some] at h1
    simp only [hj',Option.bind_some] at h2
    have:=R.inj i' j' b li lj h1 h2
    subst this
    have p:=idx_of hn hi'
    rw [idx_of hn hj'] at p
    exact (Option.some.inj p).symm
  · obtain ⟨i',hi',li⟩:=nd i hi
    simp only [hi',Option.bind_some] at h1
    exact R.nF i' b li h1
  · cases hi : l[i]? with
    | none => simp [hi] at h1
    | some i' => simp only [hi,Option.bind_some] at h1; exact R.hm i' b h1
theorem pick_rep {m : Nat → Option Nat} {F : Nat → Prop} {L : Option Nat} {W : World} {l : List Nat} {v : AV} {w : Value} (h : RepA m F L W v w) : RepA (fun j => (l[j]?).bind m) F L W (ren (idx l) v) w :=
  ren_rep (fun i j b h1 h2 => by simp only [idx_get h1,Option.bind_some,h2]) h
section
variable {P : Program} {gb : Nat → Option (List D)} {X : XT} {lo : Lower} {m : Nat → Option Nat} {F F1 : Nat → Prop} {L : Option Nat} {W : World} {stL : Sto}
theorem rep_empty (R : Rel gb m F L W stL) (hF : ∀ b,F b → F1 b) (h1 : ∀ b,F1 b → b < W.heap.size) : St gb X (fun _ => none) F1 none (fun _ => False) W [] none:=by
  refine ⟨⟨fun g cs h => (R.gl g cs h).mono hF fun _ _ => rfl,fun i hi => absurd rfl hi,fun _ _ _ _ _ h => (nomatch h),fun _ _ _ h => (nomatch h),h1,fun _ _ h => (nomatch h)⟩,fun _ _ h => (nomatch h),fun _ h => h,fun b h => ?_⟩
  obtain ⟨i,_,h⟩:=h; cases h
theorem imm_args {ds : List D} {vs : Array Value} (h : ∀ j d,ds[j]? = some d → RepD F1 W d (vs.getD j undef)) {m : Nat → Option Nat} : ∀ j a,(ds.map AV.imm)[j]? = some a → RepA m F1 L W a (vs.getD j undef):=by
  intro j a hj
  rw [List.getElem?_map,Option.map_eq_some_iff] at hj
  obtain ⟨d,hd,rfl⟩:=hj
  exact .imm _ _ (h j d hd)
theorem callP_core (H : LowerOk P gb X lo) {f : FuncId} {ds : List D} {d : D} {vs : Array Value} (h : callP lo f ds = some d) (R : Rel gb m F L W stL) (hF : ∀ b,F b → F1 b) (h1 : ∀ b,F1 b → b < W.heap.size) (hs : vs.size = ds.length) (hr : ∀ j d,ds[j]? = some d → RepD F1 W d (vs.getD j undef)) :
    CallsIn Fence.wide 0 P f vs W fun e w => ∃ r F2,e = .returned r ∧ Tr (fun _ => False) W w ∧ (∀ b,F1 b → F2 b) ∧ (∀ b,F2 b → F1 b ∨ W.heap.size ≤ b) ∧ (∀ b,F2 b → b < w.heap.size) ∧ RepD F2 w d r:=by
  unfold callP at h
  split at h
  · rename_i v st hc
    refine (H.call hc (rep_empty (L:=L) R hF h1) (by simpa using hs) (imm_args (L:=none) hr)).mono fun e w he => ?_
    obtain ⟨r,m',F',XO',rfl,p⟩:=he
    have nO : ∀ b,¬ ownA (fun _ => none) [] (fun _ => False) b:=by
      rintro b (⟨i,_,h⟩ | h)
      · cases h
      · exact h
    refine ⟨r,fun b => F' b ∨ (W.heap.size ≤ b ∧ b < w.heap.size),rfl,p.gr.tr.mono fun b _ h => absurd h (nO b),fun b h => .inl (p.gr.hF b h),fun b h => ?_,fun b h => ?_,?_⟩
    · rcases h with h | h
      · rcases p.gr.nF b h with h | h | h
        · exact .inl h
        · exact absurd h (nO b)
        · exact .inr h
      · exact .inr h.1
    · rcases h with h | h
      · exact p.s.R.hF b h
      · exact h.2
    · refine deep_rep (stL:=sto st) (st:=st) p.s.R (fun b h => .inl h) v r d h p.rv (fun _ _ _ => rfl) fun i _ b hi => ?_
      rcases p.rg i b hi with ⟨j,hj⟩ | h
      · cases hj
      · exact .inr ⟨h,p.s.R.hm i b hi⟩
  · cases h
theorem callP_ent (H : LowerOk P gb X lo) {f : FuncId} {ds : List D} {d : D} (h : callP lo f ds = some d) : Entry P f:=by
  unfold callP at h
  split at h
  · rename_i hc; exact H.ent hc
  · cases h
theorem callI_ent (H : LowerOk P gb X lo) {f : FuncId} {ds : List D} {r : AV × List AO} (h : callI lo f ds = some r) : Entry P f:=by
  unfold callI at h
  split at h
  · rename_i hc; exact H.ent hc
  · cases h
theorem callI_core (H : LowerOk P gb X lo) {f : FuncId} {ds : List D} {v : AV} {news : List AO} {vs : Array Value} (h : callI lo f ds = some (v,news)) (R : Rel gb m F L W stL) (hF : ∀ b,F b → F1 b) (h1 : ∀ b,F1 b → b < W.heap.size) (hs : vs.size = ds.length) (hr : ∀ j d,ds[j]? = some d → RepD F1 W d (vs.getD j undef)) :
    CallsIn Fence.wide 0 P f vs W fun e w => ∃ r m2 F2,e = .returned r ∧ Tr (fun _ => False) W w ∧ (∀ b,F1 b → F2 b) ∧ (∀ b,F2 b → F1 b ∨ W.heap.size ≤ b) ∧ Rel gb m2 F2 none w (sto news) ∧ RepA m2 F2 none w v r ∧
      ∀ i b,m2 i = some b → i < news.length ∧ W.heap.size ≤ b:=by
  unfold callI at h
  split at h
  · rename_i v0 st hc
    injection h with h
    obtain ⟨e1,e2⟩:=Prod.mk.inj h
    refine (H.call hc (rep_empty (L:=L) R hF h1) (by simpa using hs) (imm_args (L:=none) hr)).mono fun e w he => ?_
    obtain ⟨r,m',F',XO',rfl,p⟩:=he
    have nO : ∀ b,¬ ownA (fun _ => none) [] (fun _ => False) b:=by
      rintro b (⟨i,_,h⟩ | h)
      · cases h
      · exact h
    have hl : (keepIds 0 (idsL [v0]) st).Nodup:=keep_nodup _ _ _
    simp only [gc] at e1 e2
    rw [renL_map] at e1
    simp only [List.map_cons,List.map_nil,List.headD_cons] at e1
    refine ⟨r,_,F',rfl,p.gr.tr.mono fun b _ h => absurd h (nO b),fun b h => p.gr.hF b h,fun b h => ?_,e2 ▸ pick_rel p.s.R hl,e1 ▸ pick_rep p.rv,fun i b hi => ?_⟩
    · rcases p.gr.nF b h with h | h | h
      · exact .inl h
      · exact absurd h (nO b)
      · exact .inr h
    · rw [← e2]
      cases hj : (keepIds 0 (idsL [v0]) st)[i]? with
      | none => simp [hj] at hi
      | some j =>
        simp only [hj,Option.bind_some] at hi
        refine ⟨?_,?_⟩
        · simpa [pickSt] using (List.getElem?_eq_some_iff.1 hj).1
        · rcases p.rg j b hi with ⟨j,hj⟩ | h
          · cases hj
          · exact h
  · cases h
end
end Go.Vm

/- Soundness: calls among what writes nothing. -/
namespace Go.Vm
open Go
section
variable {P : Program} {gb : Nat → Option (List D)} {X : XT} {C : Ctx} {o : Oper} {a : Act} {W W' : World} {m m2 : Nat → Option Nat} {F F1 F2 : Nat → Prop} {L : Option Nat} {stL : Sto} {st : List AO} {vars env : List AV} {nid : Nat} {ro : Option Nat} {lo : Lower}
theorem fnOf_rep {v : AV} {w : Value} {f : FuncId} {x y : List AV} (h : fnOf v = some (f,x,y)) (hr : RepA m F L W v w) :
    ∃ vx vy,w = .func (.func f) vx vy ∧ (vx.size = x.length ∧ ∀ j d,x[j]? = some d → RepA m F L W d (vx.getD j undef)) ∧ (vy.size = y.length ∧ ∀ j d,y[j]? = some d → RepA m F L W d (vy.getD j undef)):=by
  unfold fnOf at h
  split at h
  · injection h with h
    injection h with h0 h; subst h0
    injection h with h0 h1; subst h0; subst h1
    cases hr with
    | imm _ _ h =>
      cases h with
      | fn _ _ _ vx vy hx hy rx ry =>
        exact ⟨vx,vy,rfl,⟨by simpa using hx,imm_args (L:=L) rx⟩,by simpa using hy,imm_args (L:=L) ry⟩
  · injection h with h
    injection h with h0 h; subst h0
    injection h with h0 h1; subst h0; subst h1
    cases hr with
    | clo _ _ _ vx vy hx hy rx ry => exact ⟨vx,vy,rfl,⟨hx,rx⟩,hy,ry⟩
  · cases h
theorem rep_app {x y : List AV} {vx vy : Array Value} (hx : vx.size = x.length ∧ ∀ j d,x[j]? = some d → RepA m F L W d (vx.getD j undef)) (hy : vy.size = y.length ∧ ∀ j d,y[j]? = some d → RepA m F L W d (vy.getD j undef)) :
    (vx ++ vy).size = (x ++ y).length ∧ ∀ j d,(x ++ y)[j]? = some d → RepA m F L W d ((vx ++ vy).getD j undef):=by
  refine ⟨by simp [hx.1,hy.1],fun j d hj => ?_⟩
  by_cases h : j < x.length
  · rw [List.getElem?_append_left h] at hj
    have e : (vx ++ vy).getD j undef = vx.getD j undef:=by
      simp only [Array.getD_eq_getD_getElem?]; rw [Array.getElem?_append_left (by omega)]
    rw [e]; exact hx.2 j d hj
  · rw [List.getElem?_append_right (by omega)] at hj
    have e : (vx ++ vy).getD j undef = vy.getD (j - x.length) undef:=by
      simp only [Array.getD_eq_getD_getElem?]; rw [Array.getElem?_append_right (by omega),hx.1]
    rw [e]; exact hy.2 _ d hj
theorem frz_in (R : Rel gb m F L W stL) : ∀ {l : List Nat},isFrz st l = true → (∀ i ∈ l,i < st.length → stL i = sto st i) → ∀ i ∈ l,∀ b,m i = some b → F b
  | [],_,_ => by simp
  | k :: r,h,hS => by
    simp only [isFrz,Bool.and_eq_true] at h
    obtain ⟨h0,hr⟩:=h
    intro i hi b hb
    rcases List.mem_cons.1 hi with e | hi
    · subst e
      split at h0
      · rename_i cs hg
        obtain ⟨c,t,_,_,_,h,_⟩:=look R (hS i (by simp)) hg (by simp) hb
        exact h
      · rename_i sz es hg
        obtain ⟨c,t,_,_,_,_,h,_⟩:=look R (hS i (by simp)) hg (by simp) hb
        exact h
      · cases h0
    · exact frz_in R hr (fun j hj => hS j (by simp [hj])) i hi b hb
mutual
theorem flatV_rep : ∀ (v : AV) (w : Value),flatV v = true → RepA m F2 none W v w → RepA m F L W v w
  | .imm d,_,hf,h => by cases h with | imm _ _ h => exact .imm _ _ (flat_rep d _ (by simpa [flatV] using hf) h)
  | .agg cs,_,hf,h => by
    cases h with
    | agg _ vs hl hr => exact .agg cs vs hl (flatV_reps cs (fun j => vs.getD j undef) (by simpa [flatV] using hf) hr)
  | .tup cs,_,hf,h => by
    cases h with
    | tup _ vs hl hr => exact .tup cs vs hl (flatV_reps cs (fun j => vs.getD j undef) (by simpa [flatV] using hf) hr)
  | .ref id sz lo n,_,_,h => by cases h with | ref _ _ _ _ b a cap s h1 h2 h3 h4 h5 h6 h7 => exact .ref id sz lo n b a cap s h1 h2 h3 h4 h5 h6 h7
  | .ptr id off,_,_,h => by cases h with | ptr _ _ b h => exact .ptr id off b h
  | .e0 sz,_,_,h => by cases h with | e0 _ a => exact .e0 sz a
  | .clo _ _ _,_,hf,_ => by simp [flatV] at hf
  | .yield,_,hf,_ => by simp [flatV] at hf
  | .map _,_,hf,_ => by simp [flatV] at hf
  | .junk,_,hf,_ => by simp [flatV] at hf
theorem flatV_reps : ∀ (l : List AV) (c : Nat → Value),flatVL l = true → (∀ j d,l[j]? = some d → RepA m F2 none W d (c j)) → ∀ j d,l[j]? = some d → RepA m F L W d (c j)
  | [],_,_,_ => by simp
  | x :: r,c,hf,h => by
    simp only [flatVL,Bool.and_eq_true] at hf
    intro j d hj
    cases j with
    | zero => simp at hj; subst hj; exact flatV_rep x (c 0) hf.1 (h 0 x (by simp))
    | succ j => exact flatV_reps r (fun i => c (i + 1)) hf.2 (fun i e he => h (i + 1) e (by simpa using he)) j d (by simpa using hj)
end
theorem flatDLL_mem : ∀ {es : List (List D)},flatDLL es = true → ∀ e ∈ es,flatDL e = true
  | [],_ => by simp
  | x :: r,h => by
    simp only [flatDLL,Bool.and_eq_true] at h
    intro e he
    rcases List.mem_cons.1 he with e' | he
    · subst e'; exact h.1
    · exact flatDLL_mem h.2 e he
theorem flatO_rel {b : Nat} {ob : AO} (hf : flatO ob = true) (h : RelO m F2 none W b ob) : RelO m F none W b ob:=by
  cases ob with
  | dead => exact True.intro
  | box cs =>
    obtain ⟨c,t,h1,h2,hk,h3⟩:=h
    exact ⟨c,t,h1,h2,hk,flatV_reps cs (fun j => c.getD j undef) (by simpa [flatO] using hf) h3⟩
  | arr sz es =>
    obtain ⟨c,t,h1,h2,h3,hk,h4⟩:=h
    refine ⟨c,t,h1,h2,h3,hk,fun i e j d hi hj => ?_⟩
    exact flat_reps e (fun j => c.getD (i * sz + j) undef) (flatDLL_mem (by simpa [flatO] using hf) e (List.mem_of_getElem? hi)) (fun j d hj => h4 i e j d hi hj) j d hj
  | _ => simp [flatO] at hf
theorem flatOL_mem : ∀ {l : List AO},flatOL l = true → ∀ i : Nat,flatO (sto l i) = true
  | [],_,i => by simp [sto,flatO]
  | x :: r,h,i => by
    simp only [flatOL,Bool.and_eq_true] at h
    cases i with
    | zero => simpa [sto] using h.1
    | succ i => have:=flatOL_mem h.2 i; simpa [sto] using this
theorem QPost.put {v : AV} {news : List AO} {w : Value} (R : Rel gb m F L W stL) (T : Tr (fun _ => False) W W') (hF : ∀ b,F b → F2 b) (hF2 : ∀ b,F2 b → F b ∨ W.heap.size ≤ b) (R2 : Rel gb m2 F2 none W' (sto news)) (hv : RepA m2 F2 none W' v w)
    (h2 : ∀ i b,m2 i = some b → i < news.length ∧ W.heap.size ≤ b) (hfree : ∀ i,nid ≤ i → i < nid + news.length → m i = none) :
    QPost gb m F L W stL nid (ren (shiftM nid) v) (news.map (renO (shiftM nid))) w W':=by
  have hsh : ∀ i j b,shiftM nid i = some j → m2 i = some b → (fun j => if nid ≤ j ∧ j < nid + news.length then m2 (j - nid) else m j) j = some b:=by
    intro i j b h hi
    simp only [shiftM,Option.some.injEq] at h; subst h
    have:=(h2 i b hi).1
    simp only [show nid ≤ nid + i ∧ nid + i < nid + news.length from ⟨by omega,by omega⟩,if_true,and_self,Nat.add_sub_cancel_left]
    exact hi
  obtain ⟨m',hm'⟩ : ∃ m' : Nat → Option Nat,m' = fun j => if nid ≤ j ∧ j < nid + news.length then m2 (j - nid) else m j:=⟨_,rfl⟩
  rw [← hm'] at hsh
  have hext : ∀ i b,m i = some b → m' i = some b:=by
    intro i b hi
    rw [hm']
    simp only
    split
    · rename_i h; rw [hfree i h.1 h.2] at hi; cases hi
    · exact hi
  have hR' : Rel gb m' F2 L W' stL:=Rel.mono (m':=m') (F':=F2) R T hext (fun i b hi => by
      rw [hm'] at hi; simp only at hi
      split at hi
      · exact R2.hm _ b hi
      · have:=R.hm i b hi; have:=T.size; omega) hF R2.hF (fun _ _ _ _ h => h) (fun _ _ h => h) fun i b hl hi hc => by
      rcases hF2 b hc with h | h
      · exact R.nF i b hl hi h
      · have:=R.hm i b hi; omega
  have hget : ∀ i,Vm.put stL nid (news.map (renO (shiftM nid))) i = if nid ≤ i ∧ i < nid + news.length then renO (shiftM nid) (sto news (i - nid)) else stL i:=by
    intro i
    unfold Vm.put
    simp only [List.length_map]
    split
    · rename_i h
      simp only [sto,List.getD_eq_getElem?_getD,List.getElem?_map]
      rw [List.getElem?_eq_getElem (by omega)]
      rfl
    · rfl
  have hin : ∀ i,nid ≤ i ∧ i < nid + news.length → m' i = m2 (i - nid):=fun i h => by rw [hm']; simp only [h,if_true,and_self]
  have hout : ∀ i,¬ (nid ≤ i ∧ i < nid + news.length) → m' i = m i:=fun i h => by rw [hm']; simp only [h,if_false]
  refine ⟨m',F2,⟨hext,hF,fun b hb => (hF2 b hb).elim .inl fun h => .inr (.inr h),T⟩,⟨hR'.gl,fun i hi => ?_,fun i j b hi hj h1 h3 => ?_,fun i b hi h1 => ?_,R2.hF,hR'.hm⟩,(ren_rep hsh hv).anyL,fun i b hi => ?_⟩
  · rw [hget] at hi ⊢
    split at hi
    · rename_i h
      rw [if_pos h,hin i h]
      obtain ⟨b,k1,k2⟩:=R2.hs _ (fun e => hi (renO_dead.2 e))
      exact ⟨b,k1,(renO_rel hsh k2).anyL⟩
    · rename_i h
      rw [if_neg h]
      exact hR'.hs i hi
  · rw [hget] at hi hj
    by_cases ei : nid ≤ i ∧ i < nid + news.length
    · rw [if_pos ei,lv_renO] at hi
      rw [hin i ei] at h1
      by_cases ej : nid ≤ j ∧ j < nid + news.length
      · rw [if_pos ej,lv_renO] at hj
        rw [hin j ej] at h3
        have:=R2.inj _ _ b hi hj h1 h3
        omega
      · rw [if_neg ej] at hj
        rw [hout j ej] at h3
        have:=(h2 _ b h1).2
        have:=R.hm j b h3
        omega
    · rw [if_neg ei] at hi
      rw [hout i ei] at h1
      by_cases ej : nid ≤ j ∧ j < nid + news.length
      · rw [if_pos ej,lv_renO] at hj
        rw [hin j ej] at h3
        have:=(h2 _ b h3).2
        have:=R.hm i b h1
        omega
      · rw [if_neg ej] at hj
        rw [hout j ej] at h3
        exact R.inj i j b hi hj h1 h3
  · rw [hget] at hi
    by_cases ei : nid ≤ i ∧ i < nid + news.length
    · rw [if_pos ei,lv_renO] at hi
      rw [hin i ei] at h1
      exact R2.nF _ b hi h1
    · rw [if_neg ei] at hi
      exact hR'.nF i b hi h1
  · by_cases ei : nid ≤ i ∧ i < nid + news.length
    · rw [hin i ei] at hi
      exact .inr ⟨(h2 _ b hi).2,by simpa using ei⟩
    · rw [hout i ei] at hi
      exact .inl hi
theorem run_callV {c : Call} {x : Operand} {f : FuncId} {vx vy : Array Value} (ho : o.op = .call c) (hc : c.callee = .value x) (hx : a.eval x = .func (.func f) vx vy) (he : Entry P f) :
    (execOp a.eval o).run P W = .ok (.enter f (vx ++ c.args.map a.eval ++ vy)) W:=by
  simp only [execOp,ho,resolve,hc,Deferred.ofValue,hx,pure_bind,invoke,Array.append_assoc]
  exact he _ _
theorem call_args {c : Call} {x : Operand} {x' : Opnd} {args' : List Opnd} {f : FuncId} {p q : List AV} (ho : o.op = .call c) (hc : c.callee = .value x) (hx : compO C x = some x') (ha : compL C c.args.toList = some args') (hr : OprOk C m F L W o a vars env)
    (hf : fnOf (opnd vars env x') = some (f,p,q)) : ∃ vx vy,a.eval x = .func (.func f) vx vy ∧ (vx ++ c.args.map a.eval ++ vy).size = (p ++ opnds vars env args' ++ q).length ∧
      ∀ j d,(p ++ opnds vars env args' ++ q)[j]? = some d → RepA m F L W d ((vx ++ c.args.map a.eval ++ vy).getD j undef):=by
  have rx:=hr x x' (by rw [ho]; simp [Op.operands,Call.operands,hc]) hx
  obtain ⟨vx,vy,e,h1,h2⟩:=fnOf_rep hf rx
  have h3:=rep_opnds (a:=a) (m:=m) (F:=F) (L:=L) (W:=W) (vars:=vars) (env:=env) ha fun z z' hz hcz => hr z z' (by rw [ho]; simp only [Op.operands,Call.operands,hc,Array.mem_append]; exact .inr (by simpa using hz)) hcz
  exact ⟨vx,vy,e,rep_app (rep_app h1 h3) h2⟩
theorem q_callP (H : LowerOk P gb X lo) {c : Call} {x : Operand} {x' : Opnd} {args' : List Opnd} {f : FuncId} {p q : List AV} {ds : List D} {d : D} (ho : o.op = .call c) (hc : c.callee = .value x) (hx : compO C x = some x') (ha : compL C c.args.toList = some args')
    (R : Rel gb m F L W stL) (hr : OprOk C m F L W o a vars env) (hS : ∀ i ∈ idsL (p ++ opnds vars env args' ++ q),i < st.length → stL i = sto st i) (hf : fnOf (opnd vars env x') = some (f,p,q)) (hd : deepL st (p ++ opnds vars env args' ++ q) = some ds) (hcall : callP lo f ds = some d)
    (hok : isFrz st (idsL (p ++ opnds vars env args' ++ q)) = true ∨ flatD d = true) : Ok P ro o a W (QPost gb m F L W stL nid (.imm d) []):=by
  obtain ⟨vx,vy,e,h1,h2⟩:=call_args ho hc hx ha hr hf
  by_cases hz : isFrz st (idsL (p ++ opnds vars env args' ++ q)) = true
  · obtain ⟨h3,h4⟩:=deep_reps (stL:=stL) (st:=st) R (F':=F) (fun _ h => h) _ _ ds hd h2 hS (frz_in R hz hS)
    refine Ok.enter (by rw [ho]; simp) (run_callV ho hc e (callP_ent H hcall)) (callP_core H hcall R (fun _ h => h) R.hF (by omega) h4) fun en w ⟨r,F2,e1,T,k1,k2,k3,k4⟩ => ⟨r,e1,m,F2,⟨fun _ _ h => h,k1,fun b hb => (k2 b hb).elim .inl fun h => .inr (.inr h),T⟩,?_,.imm _ _ k4,fun _ _ h => .inl h⟩
    rw [put_nil]
    exact Rel.mono R T (fun _ _ h => h) (fun i b hi => by have:=R.hm i b hi; have:=T.size; omega) k1 k3 (fun _ _ _ _ h => h) (fun _ _ h => h) fun i b hl hi hcc => by
      rcases k2 b hcc with h | h
      · exact R.nF i b hl hi h
      · have:=R.hm i b hi; omega
  · have hfl:=hok.resolve_left hz
    obtain ⟨h3,h4⟩:=deep_reps (stL:=stL) (st:=st) R (F':=fun b => F b ∨ ∃ i,i ∈ idsL (p ++ opnds vars env args' ++ q) ∧ m i = some b) (fun _ h => .inl h) _ _ ds hd h2 hS (fun i hi b hb => .inr ⟨i,hi,hb⟩)
    refine Ok.enter (by rw [ho]; simp) (run_callV ho hc e (callP_ent H hcall)) (callP_core H hcall R (fun _ h => .inl h) (fun b hb => hb.elim (R.hF b) fun ⟨i,_,h⟩ => R.hm i b h) (by omega) h4) fun en w ⟨r,F2,e1,T,k1,k2,k3,k4⟩ => ⟨r,e1,m,F,⟨fun _ _ h => h,fun _ h => h,fun b hb => .inl hb,T⟩,?_,.imm _ _ (flat_rep d r hfl k4),fun _ _ h => .inl h⟩
    rw [put_nil]
    exact Rel.mono R T (fun _ _ h => h) (fun i b hi => by have:=R.hm i b hi; have:=T.size; omega) (fun _ h => h) (fun b hb => by have:=R.hF b hb; have:=T.size; omega) (fun _ _ _ _ h => h) (fun _ _ h => h) R.nF
theorem q_callI (H : LowerOk P gb X lo) {c : Call} {x : Operand} {x' : Opnd} {args' : List Opnd} {f : FuncId} {p q : List AV} {ds : List D} {v : AV} {news : List AO} (ho : o.op = .call c) (hc : c.callee = .value x) (hx : compO C x = some x') (ha : compL C c.args.toList = some args')
    (R : Rel gb m F L W stL) (hr : OprOk C m F L W o a vars env) (hS : ∀ i ∈ idsL (p ++ opnds vars env args' ++ q),i < st.length → stL i = sto st i) (hf : fnOf (opnd vars env x') = some (f,p,q)) (hd : deepL st (p ++ opnds vars env args' ++ q) = some ds) (hcall : callI lo f ds = some (v,news))
    (hfree : ∀ i,nid ≤ i → i < nid + news.length → m i = none)
    (hok : isFrz st (idsL (p ++ opnds vars env args' ++ q)) = true ∨ (flatV v = true ∧ flatOL news = true)) : Ok P ro o a W (QPost gb m F L W stL nid (ren (shiftM nid) v) (news.map (renO (shiftM nid)))):=by
  obtain ⟨vx,vy,e,h1,h2⟩:=call_args ho hc hx ha hr hf
  by_cases hz : isFrz st (idsL (p ++ opnds vars env args' ++ q)) = true
  · obtain ⟨h3,h4⟩:=deep_reps (stL:=stL) (st:=st) R (F':=F) (fun _ h => h) _ _ ds hd h2 hS (frz_in R hz hS)
    exact Ok.enter (by rw [ho]; simp) (run_callV ho hc e (callI_ent H hcall)) (callI_core H hcall R (fun _ h => h) R.hF (by omega) h4) fun en w ⟨r,m2,F2,e1,T,k1,k2,k3,k4,k5⟩ => ⟨r,e1,QPost.put R T k1 k2 k3 k4 k5 hfree⟩
  · obtain ⟨hfv,hfo⟩:=hok.resolve_left hz
    obtain ⟨h3,h4⟩:=deep_reps (stL:=stL) (st:=st) R (F':=fun b => F b ∨ ∃ i,i ∈ idsL (p ++ opnds vars env args' ++ q) ∧ m i = some b) (fun _ h => .inl h) _ _ ds hd h2 hS (fun i hi b hb => .inr ⟨i,hi,hb⟩)
    refine Ok.enter (by rw [ho]; simp) (run_callV ho hc e (callI_ent H hcall)) (callI_core H hcall R (fun _ h => .inl h) (fun b hb => hb.elim (R.hF b) fun ⟨i,_,h⟩ => R.hm i b h) (by omega) h4) fun en w ⟨r,m2,F2,e1,T,k1,k2,k3,k4,k5⟩ => ⟨r,e1,?_⟩
    refine QPost.put (F2:=F) R T (fun _ h => h) (fun b h => .inl h) ⟨fun g cs hg => (R.gl g cs hg).mono (fun _ h => h) fun b hb => T.keep b (R.hF b hb) fun h => h,fun i hi => ?_,k3.inj,fun i b hl hi hcc => k3.nF i b hl hi (k1 b (.inl hcc)),fun b hb => by have:=R.hF b hb; have:=T.size; omega,k3.hm⟩ (flatV_rep v r hfv k4) k5 hfree
    obtain ⟨b,p1,p2⟩:=k3.hs i hi
    exact ⟨b,p1,flatO_rel (flatOL_mem hfo i) p2⟩
theorem q_callF (H : LowerOk P gb X lo) {c : Call} {x : Operand} {x' : Opnd} {args' : List Opnd} {f : FuncId} {p q : List AV} {ds : List D} {v : AV} {news : List AO} {d : D} (ho : o.op = .call c) (hc : c.callee = .value x) (hx : compO C x = some x') (ha : compL C c.args.toList = some args')
    (R : Rel gb m F L W stL) (hr : OprOk C m F L W o a vars env) (hS : ∀ i ∈ idsL (p ++ opnds vars env args' ++ q),i < st.length → stL i = sto st i) (hf : fnOf (opnd vars env x') = some (f,p,q)) (hd : deepL st (p ++ opnds vars env args' ++ q) = some ds) (hcall : callI lo f ds = some (v,news))
    (hdp : deep news v = some d)
    (hok : isFrz st (idsL (p ++ opnds vars env args' ++ q)) = true ∨ (flatV v = true ∧ flatOL news = true)) : Ok P ro o a W (QPost gb m F L W stL nid (.imm d) []):=by
  obtain ⟨vx,vy,e,h1,h2⟩:=call_args ho hc hx ha hr hf
  have fin : ∀ {w : World} {r : Value} {m2 : Nat → Option Nat} {F2 : Nat → Prop},Tr (fun _ => False) W w → (∀ b,F b → F2 b) → (∀ b,F2 b → F b ∨ W.heap.size ≤ b) → Rel gb m2 F2 none w (sto news) → RepA m2 F2 none w v r → (∀ i b,m2 i = some b → i < news.length ∧ W.heap.size ≤ b) → QPost gb m F L W stL nid (.imm d) [] r w:=by
    intro w r m2 F2 T k1 k2 k3 k4 k5
    have kd : RepD (fun b => F2 b ∨ (W.heap.size ≤ b ∧ b < w.heap.size)) w d r :=
      deep_rep (stL:=sto news) (st:=news) k3 (fun b h => .inl h) v r d hdp k4 (fun _ _ _ => rfl) fun i _ b hi => .inr ⟨(k5 i b hi).2,k3.hm i b hi⟩
    refine ⟨m,fun b => F2 b ∨ (W.heap.size ≤ b ∧ b < w.heap.size),⟨fun _ _ h => h,fun b hb => .inl (k1 b hb),fun b hb => ?_,T⟩,?_,.imm _ _ kd,fun _ _ h => .inl h⟩
    · rcases hb with hb | hb
      · rcases k2 b hb with h | h
        · exact .inl h
        · exact .inr (.inr h)
      · exact .inr (.inr hb.1)
    · rw [put_nil]
      refine Rel.mono R T (fun _ _ h => h) (fun i b hi => by have:=R.hm i b hi; have:=T.size; omega) (fun b hb => .inl (k1 b hb)) (fun b hb => ?_) (fun _ _ _ _ h => h) (fun _ _ h => h) fun i b hl hi hcc => ?_
      · rcases hb with hb | hb
        · exact k3.hF b hb
        · exact hb.2
      · rcases hcc with hcc | hcc
        · rcases k2 b hcc with h | h
          · exact R.nF i b hl hi h
          · have:=R.hm i b hi; omega
        · have:=R.hm i b hi; omega
  by_cases hz : isFrz st (idsL (p ++ opnds vars env args' ++ q)) = true
  · obtain ⟨h3,h4⟩:=deep_reps (stL:=stL) (st:=st) R (F':=F) (fun _ h => h) _ _ ds hd h2 hS (frz_in R hz hS)
    exact Ok.enter (by rw [ho]; simp) (run_callV ho hc e (callI_ent H hcall)) (callI_core H hcall R (fun _ h => h) R.hF (by omega) h4) fun en w ⟨r,m2,F2,e1,T,k1,k2,k3,k4,k5⟩ => ⟨r,e1,fin T k1 k2 k3 k4 k5⟩
  · obtain ⟨hfv,hfo⟩:=hok.resolve_left hz
    obtain ⟨h3,h4⟩:=deep_reps (stL:=stL) (st:=st) R (F':=fun b => F b ∨ ∃ i,i ∈ idsL (p ++ opnds vars env args' ++ q) ∧ m i = some b) (fun _ h => .inl h) _ _ ds hd h2 hS (fun i hi b hb => .inr ⟨i,hi,hb⟩)
    refine Ok.enter (by rw [ho]; simp) (run_callV ho hc e (callI_ent H hcall)) (callI_core H hcall R (fun _ h => .inl h) (fun b hb => hb.elim (R.hF b) fun ⟨i,_,h⟩ => R.hm i b h) (by omega) h4) fun en w ⟨r,m2,F2,e1,T,k1,k2,k3,k4,k5⟩ => ⟨r,e1,?_⟩
    refine fin (F2:=F) T (fun _ h => h) (fun b h => .inl h) ⟨fun g cs hg => (R.gl g cs hg).mono (fun _ h => h) fun b hb => T.keep b (R.hF b hb) fun h => h,fun i hi => ?_,k3.inj,fun i b hl hi hcc => k3.nF i b hl hi (k1 b (.inl hcc)),fun b hb => by have:=R.hF b hb; have:=T.size; omega,k3.hm⟩ (flatV_rep v r hfv k4) k5
    obtain ⟨b,p1,p2⟩:=k3.hs i hi
    exact ⟨b,p1,flatO_rel (flatOL_mem hfo i) p2⟩
end
end Go.Vm

/- Soundness: whatever writes nothing,in one. -/
namespace Go.Vm
open Go
section
variable {P : Program} {gb : Nat → Option (List D)} {X : XT} {C : Ctx} {o : Oper} {a : Act} {W W' : World} {m m2 : Nat → Option Nat} {F F1 F2 : Nat → Prop} {L : Option Nat} {stL : Sto} {st : List AO} {vars env : List AV} {nid : Nat} {ro : Option Nat} {lo : Lower}
theorem getI_imm {v : AV} {i : Int} (h : getI v = some i) : ∃ k,v = .imm (.int k i):=by
  unfold getI at h
  split at h
  · injection h with h; subst h; exact ⟨_,rfl⟩
  · cases h
theorem idsL_app : ∀ (x y : List AV),idsL (x ++ y) = idsL x ++ idsL y
  | [],y => by simp [idsL]
  | v :: r,y => by simp [idsL,idsL_app r y]
theorem idsL_imm : ∀ ds : List D,idsL (ds.map .imm) = []
  | [] => rfl
  | d :: r => by simp [idsL,ids,idsL_imm r]
theorem fnOf_ids {v : AV} {f : FuncId} {p q A : List AV} (h : fnOf v = some (f,p,q)) : ∀ i ∈ idsL (p ++ A ++ q),i ∈ ids v ++ idsL A:=by
  intro i hi
  simp only [idsL_app,List.mem_append] at hi ⊢
  unfold fnOf at h
  split at h
  · injection h with h
    injection h with h0 h; injection h with h1 h2; subst h1; subst h2
    simp only [idsL_imm,List.not_mem_nil,false_or,or_false] at hi
    exact .inr hi
  · injection h with h
    injection h with h0 h; injection h with h1 h2; subst h1; subst h2
    simp only [ids,List.mem_append]
    rcases hi with (hi | hi) | hi
    · exact .inl (.inl hi)
    · exact .inr hi
    · exact .inl (.inr hi)
  · cases h
theorem aQ_sound (H : LowerOk P gb X lo) {op : IOp} {v : AV} {news : List AO} (hc : compOp P C o = some op) (R : Rel gb m F L W stL) (hfree : ∀ i,nid ≤ i → i < nid + news.length → m i = none) (hr : OprOk C m F L W o a vars env) (hS : ∀ i ∈ rIds vars env op,i < st.length → stL i = sto st i)
    (h : aQ lo vars env st nid op = some (v,news)) : Ok P ro o a W (QPost gb m F L W stL nid v news):=by
  cases ho : o.op with
  | move x =>
    simp only [compOp,ho,Option.map_eq_some_iff] at hc
    obtain ⟨x',hx,rfl⟩:=hc
    simp only [aQ,Option.some.injEq,Prod.mk.injEq] at h
    obtain ⟨rfl,rfl⟩:=h
    exact q_move (.inl ho) hx R hr
  | assign x =>
    simp only [compOp,ho,Option.map_eq_some_iff] at hc
    obtain ⟨x',hx,rfl⟩:=hc
    simp only [aQ,Option.some.injEq,Prod.mk.injEq] at h
    obtain ⟨rfl,rfl⟩:=h
    exact q_move (.inr ho) hx R hr
  | pick c x y =>
    simp only [compOp,ho,bind,Option.bind_eq_some_iff,Option.some.injEq] at hc
    obtain ⟨c',hc',x',hx,y',hy,rfl⟩:=hc
    simp only [aQ] at h
    split at h
    · rename_i t e
      simp only [Option.some.injEq,Prod.mk.injEq] at h
      obtain ⟨rfl,rfl⟩:=h
      have:=sq_pick (P:=P) (ro:=ro) (nid:=nid) ho hc' hx hy R hr e
      cases t <;> exact this
    · cases h
  | alloc t =>
    simp only [compOp,ho,Option.map_eq_some_iff] at hc
    obtain ⟨z,hz,rfl⟩:=hc
    simp only [aQ,Option.some.injEq,Prod.mk.injEq] at h
    obtain ⟨rfl,rfl⟩:=h
    exact sq_alloc ho hz R (hfree nid (Nat.le_refl _) (by simp))
  | box t x =>
    simp only [compOp,ho] at hc
    split at hc
    · simp only [Option.map_eq_some_iff] at hc
      obtain ⟨x',hx,rfl⟩:=hc
      simp only [aQ] at h
      split at h
      · rename_i hs
        simp only [Option.some.injEq,Prod.mk.injEq] at h
        obtain ⟨rfl,rfl⟩:=h
        exact sq_box ho hx R (hfree nid (Nat.le_refl _) (by simp)) hr hs
      · cases h
    · simp only [Option.map_eq_some_iff] at hc
      obtain ⟨x',hx,rfl⟩:=hc
      simp only [aQ] at h
      split at h
      · rename_i ds hd
        split at h
        · rename_i hs
          simp only [Option.some.injEq,Prod.mk.injEq] at h
          obtain ⟨rfl,rfl⟩:=h
          exact sq_boxi ho hx R hr (dsOf_some hd) hs
        · cases h
      · cases h
  | build t ps =>
    simp only [compOp,ho,bind,Option.bind_eq_some_iff] at hc
    obtain ⟨z,hz,hc⟩:=hc
    split at hc
    · rename_i fs hu
      split at hc
      · cases hc
      · rename_i hall
        simp only [Option.bind_eq_some_iff,Option.some.injEq] at hc
        obtain ⟨qs,hq,rfl⟩:=hc
        simp only [aQ] at h
        split at h
        · rename_i cs hcs
          simp only [Option.some.injEq,Prod.mk.injEq] at h
          obtain ⟨rfl,rfl⟩:=h
          refine sq_build ho hz (.inl ⟨fs,hu,fun f hf => ?_,rfl⟩) hq R hr hcs
          cases hs : sizeB P f.type with
          | some n => exact ⟨n,rfl⟩
          | none => exact absurd (List.any_eq_true.2 ⟨f,hf,by simp [hs]⟩) hall
        · cases h
    · rename_i len e hu
      simp only [Option.bind_eq_some_iff,Option.some.injEq] at hc
      obtain ⟨sz,hsz,qs,hq,rfl⟩:=hc
      simp only [aQ] at h
      split at h
      · rename_i cs hcs
        simp only [Option.some.injEq,Prod.mk.injEq] at h
        obtain ⟨rfl,rfl⟩:=h
        exact sq_build ho hz (.inr ⟨len,e,sz,hu,hsz,rfl⟩) hq R hr hcs
      · cases h
    · cases hc
  | buildSlice t n ps =>
    simp only [compOp,ho] at hc
    split at hc
    · rename_i e hu
      simp only [bind,Option.bind_eq_some_iff,Option.some.injEq] at hc
      obtain ⟨sz,hsz,z,hz,qs,hq,rfl⟩:=hc
      simp only [aQ,aBs,List.map_map,Function.comp_def,List.isEmpty_map] at h
      split at h
      · split at h
        · rename_i he
          simp only [Option.some.injEq,Prod.mk.injEq] at h
          obtain ⟨rfl,rfl⟩:=h
          refine q_bslice0 ho hu hsz ?_ R
          cases hps : ps.toList with
          | nil => rfl
          | cons p r =>
            obtain ⟨i,x⟩:=p
            rw [hps] at hq
            simp only [compP1] at hq
            split at hq
            · injection hq with hq; subst hq; simp at he
            · cases hq
        · cases h
      · rename_i n
        split at h
        · rename_i cs hcs
          split at h
          · rename_i ds hds
            split at h
            · rename_i hok
              have hcd:=dsOf_some hds
              subst hcd
              have h1 : ∀ (j : Nat) (d : D),ds[j]? = some d → single (.imm d) = true:=by
                intro j d hj
                have:=hok.2
                rw [List.all_eq_true] at this
                exact this (.imm d) (List.mem_map.2 ⟨d,List.mem_of_getElem? hj,rfl⟩)
              have key:=q_bslice (a:=a) (ds:=ds) (own:=C.h.own) (stL:=stL) (nid:=nid) (ro:=ro) (vars:=vars) (env:=env) (L:=L) ho hu hsz hz hq R
              cases hown : C.h.own with
              | true =>
                rw [hown,if_pos rfl] at h
                simp only [Option.some.injEq,Prod.mk.injEq] at h
                obtain ⟨rfl,rfl⟩:=h
                have k2:=key (fun _ => hfree nid (Nat.le_refl _) (by simp)) hr hcs hok.1 h1
                rw [hown,if_pos rfl] at k2
                exact k2
              | false =>
                rw [hown] at h
                simp only [Bool.false_eq_true,if_false,Option.some.injEq,Prod.mk.injEq] at h
                obtain ⟨rfl,rfl⟩:=h
                have k2:=key (fun h => by rw [hown] at h; cases h) hr hcs hok.1 h1
                rw [hown] at k2
                exact k2
            · cases h
          · cases h
        · cases h
    · cases hc
  | load t x =>
    simp only [compOp,ho,bind,Option.bind_eq_some_iff,Option.some.injEq] at hc
    obtain ⟨g,hg,n,hn,x',hx,rfl⟩:=hc
    simp only [aQ,Option.map_eq_some_iff,Prod.mk.injEq] at h
    obtain ⟨v',hv,rfl,rfl⟩:=h
    exact sq_load ho hg hn hx R hr hS hv
  | store t x y =>
    simp only [compOp,ho,bind,Option.bind_eq_some_iff,Option.some.injEq] at hc
    obtain ⟨n,hn,x',hx,y',hy,rfl⟩:=hc
    simp [aQ] at h
  | nilCheck x =>
    simp only [compOp,ho,Option.map_eq_some_iff] at hc
    obtain ⟨x',hx,rfl⟩:=hc
    simp only [aQ] at h
    split at h
    · rename_i e
      simp only [Option.some.injEq,Prod.mk.injEq] at h
      obtain ⟨rfl,rfl⟩:=h
      exact sq_nilck ho hx R hr (by rw [e])
    · rename_i e
      simp only [Option.some.injEq,Prod.mk.injEq] at h
      obtain ⟨rfl,rfl⟩:=h
      exact sq_nilck ho hx R hr (by rw [e])
    · cases h
  | binOp bop t x y u =>
    simp only [compOp,ho,bind,Option.bind_eq_some_iff] at hc
    obtain ⟨x',hx,y',hy,hc⟩:=hc
    have bin : some (IOp.bin bop x' y') = some op → Ok P ro o a W (QPost gb m F L W stL nid v news):=by
      intro e
      injection e with e; subst e
      simp only [aQ,Option.map_eq_some_iff,Prod.mk.injEq] at h
      obtain ⟨v',hv,rfl,rfl⟩:=h
      exact sq_bin ho hx hy R hr hv
    have eqs : ∀ neg e,bop = (if neg then .neq else .eql) → ((P.underlying t = some .bool ∧ e = .bool) ∨ (∃ s,P.underlying t = some (.slice s) ∧ e = .nilsl) ∨ (∃ fs,e = .agg fs ∧ P.eqGuardType P.depth t = false ∧ etyB P 8 t = some e)) →
        some (IOp.eqs neg e x' y') = some op → Ok P ro o a W (QPost gb m F L W stL nid v news):=by
      intro neg e hb hty e0
      injection e0 with e0; subst e0
      simp only [aQ,Option.map_eq_some_iff,Prod.mk.injEq] at h
      obtain ⟨b,hb',rfl,rfl⟩:=h
      exact sq_eqs ho hb hx hy R hr hty hb'
    have both : ∀ neg : Bool,bop = (if neg then .neq else .eql) → (match P.underlying t with
          | some (.int _) => some (IOp.bin bop x' y')
          | some .bool => some (.eqs (bop == .neq) .bool x' y')
          | some (.slice _) => some (.eqs (bop == .neq) .nilsl x' y')
          | _ => if P.eqGuardType P.depth t = true then none else (etyB P 8 t).bind fun a => some (.eqs (bop == .neq) a x' y')) = some op → Ok P ro o a W (QPost gb m F L W stL nid v news):=by
      intro neg hb hc
      have hn : (bop == .neq) = neg:=by rw [hb]; cases neg <;> rfl
      rw [hn] at hc
      split at hc
      · exact bin hc
      · rename_i hu; exact eqs neg .bool hb (.inl ⟨hu,rfl⟩) hc
      · rename_i s hu; exact eqs neg .nilsl hb (.inr (.inl ⟨s,hu,rfl⟩)) hc
      · rename_i n1 n2 n3
        split at hc
        · cases hc
        · rename_i hg
          simp only [Option.bind_eq_some_iff] at hc
          obtain ⟨e,he,hc⟩:=hc
          have hagg : ∃ fs,e = .agg fs:=by
            unfold etyB at he
            split at he
            · rename_i k hu; exact absurd hu (n1 k)
            · rename_i hu; exact absurd hu n2
            · split at he
              · split at he
                · cases he
                · simp only [Option.map_eq_some_iff] at he
                  obtain ⟨l,_,rfl⟩:=he; exact ⟨l,rfl⟩
              · cases he
            · split at he
              · split at he
                · injection he with he; subst he; exact ⟨_,rfl⟩
                · cases he
              · cases he
            · cases he
          obtain ⟨fs,rfl⟩:=hagg
          exact eqs neg _ hb (.inr (.inr ⟨fs,rfl,by simpa using hg,he⟩)) hc
    cases bop with
    | eql => exact both false rfl hc
    | neq => exact both true rfl hc
    | _ => exact bin hc
  | unOp uop t x =>
    simp only [compOp,ho,Option.map_eq_some_iff] at hc
    obtain ⟨x',hx,rfl⟩:=hc
    simp only [aQ,Option.map_eq_some_iff,Prod.mk.injEq] at h
    obtain ⟨v',hv,rfl,rfl⟩:=h
    exact sq_un ho hx R hr hv
  | convert s d x =>
    simp only [compOp,ho] at hc
    split at hc
    · rename_i k1 k hs hd
      simp only [Option.map_eq_some_iff] at hc
      obtain ⟨x',hx,rfl⟩:=hc
      simp only [aQ] at h
      split at h
      · rename_i k0 n e
        simp only [Option.some.injEq,Prod.mk.injEq] at h
        obtain ⟨rfl,rfl⟩:=h
        exact sq_conv ho hs hd hx R hr e
      · cases h
    · cases hc
  | makeFunc g x y =>
    cases g with
    | func f =>
      simp only [compOp,ho,bind,Option.bind_eq_some_iff,Option.some.injEq] at hc
      obtain ⟨x',hx,y',hy,rfl⟩:=hc
      simp only [aQ,Option.some.injEq,Prod.mk.injEq] at h
      obtain ⟨rfl,rfl⟩:=h
      exact sq_mkfn ho hx hy R hr
    | _ => simp [compOp,ho] at hc
  | makeMap t r =>
    cases r with
    | none =>
      simp only [compOp,ho,Option.some.injEq] at hc
      subst hc
      simp only [aQ,Option.some.injEq,Prod.mk.injEq] at h
      obtain ⟨rfl,rfl⟩:=h
      exact sq_mkmap ho R (hfree nid (Nat.le_refl _) (by simp))
    | some r => simp [compOp,ho] at hc
  | lookup t x y b =>
    cases b with
    | true => simp [compOp,ho] at hc
    | false =>
      simp only [compOp,ho] at hc
      split at hc
      · rename_i kt e hu
        split at hc
        · rename_i kd z hk hz
          simp only [bind,Option.bind_eq_some_iff,Option.some.injEq] at hc
          obtain ⟨x',hx,y',hy,rfl⟩:=hc
          simp only [aQ] at h
          split at h
          · rename_i id k e1 e2
            split at h
            · rename_i es e3
              simp only [Option.some.injEq,Prod.mk.injEq] at h
              obtain ⟨rfl,rfl⟩:=h
              exact sq_lookup ho hu hk hz hx hy R hr hS e1 e2 e3
            · cases h
          · cases h
        · cases hc
      · cases hc
  | mapUpdate t x y z =>
    simp only [compOp,ho] at hc
    split at hc
    · split at hc
      · simp only [bind,Option.bind_eq_some_iff,Option.some.injEq] at hc
        obtain ⟨x',hx,y',hy,z',hz,rfl⟩:=hc
        simp [aQ] at h
      · cases hc
    · cases hc
  | makeSlice t x y =>
    simp only [compOp,ho] at hc
    split at hc
    · rename_i e hu
      simp only [bind,Option.bind_eq_some_iff,Option.some.injEq] at hc
      obtain ⟨sz,hsz,bytes,hby,z,hz,x',hx,y',hy,rfl⟩:=hc
      simp only [aQ] at h
      split at h
      · rename_i l c e1 e2
        split at h
        · rename_i hok
          obtain ⟨h0,hlc,h1,h2⟩:=hok
          simp only [Option.some.injEq,Prod.mk.injEq] at h
          obtain ⟨rfl,rfl⟩:=h
          obtain ⟨k,e1⟩:=getI_imm e1
          obtain ⟨k',e2⟩:=getI_imm e2
          exact sq_mkslice ho hu hsz hby hz hx hy R (hfree nid (Nat.le_refl _) (by simp)) hr e1 e2 h0 hlc h1 h2
        · cases h
      · cases h
    · cases hc
  | slice t x l hi mx =>
    simp only [compOp,ho] at hc
    have go : ∀ (arr : Option Nat) (e : TypeId) (sz : Nat) (x' : Opnd) (yl yh ym : Option Opnd),(match arr with | some n => P.underlying t = some (.array n e) | none => P.underlying t = some (.slice e)) → sizeB P e = some sz → compO C x = some x' → compOo C l = some yl → compOo C hi = some yh → compOo C mx = some ym →
        IOp.slice arr sz x' yl yh ym = op → Ok P ro o a W (QPost gb m F L W stL nid v news):=by
      intro arr e sz x' yl yh ym hu hsz hx hl hh hm e0
      subst e0
      simp only [aQ] at h
      split at h
      · rename_i p q r h1 h2 h3
        simp only [Option.map_eq_some_iff,Prod.mk.injEq] at h
        obtain ⟨v',hv,rfl,rfl⟩:=h
        exact sq_slice ho hu hsz hx hl hh hm R hr hS h1 h2 h3 hv
      · cases h
    split at hc
    · rename_i n e hu
      simp only [bind,Option.bind_eq_some_iff,Option.some.injEq] at hc
      obtain ⟨sz,hsz,x',hx,yl,hl,yh,hh,ym,hm,e0⟩:=hc
      exact go (some n) e sz x' yl yh ym hu hsz hx hl hh hm e0
    · rename_i e hu
      simp only [bind,Option.bind_eq_some_iff,Option.some.injEq] at hc
      obtain ⟨sz,hsz,x',hx,yl,hl,yh,hh,ym,hm,e0⟩:=hc
      exact go none e sz x' yl yh ym hu hsz hx hl hh hm e0
    · cases hc
  | fieldAddr t x i =>
    simp only [compOp,ho] at hc
    split at hc
    · rename_i fs hu
      simp only [bind,Option.bind_eq_some_iff] at hc
      obtain ⟨f,hf,n,hn,hc⟩:=hc
      split at hc
      · cases hc
      · rename_i h0
        simp only [Option.bind_eq_some_iff,Option.some.injEq] at hc
        obtain ⟨x',hx,rfl⟩:=hc
        simp only [aQ] at h
        split at h
        · rename_i e
          simp only [Option.some.injEq,Prod.mk.injEq] at h
          obtain ⟨rfl,rfl⟩:=h
          exact sq_faddr ho hu hf hn h0 hx R hr (by rw [e])
        · rename_i e
          simp only [Option.some.injEq,Prod.mk.injEq] at h
          obtain ⟨rfl,rfl⟩:=h
          exact sq_faddr ho hu hf hn h0 hx R hr (by rw [e])
        · cases h
    · cases hc
  | field t x i =>
    simp only [compOp,ho] at hc
    split at hc
    · rename_i fs hu
      simp only [bind,Option.bind_eq_some_iff,Option.some.injEq] at hc
      obtain ⟨f,hf,g,hg,n,hn,x',hx,rfl⟩:=hc
      simp only [aQ] at h
      split at h
      · rename_i cs hcs
        split at h
        · rename_i hle
          have : (if g then some (mkAgg ((cs.drop f.offset).take n)) else if n = 1 then cs[f.offset]? else none) = some v ∧ news = []:=by
            cases g with
            | true => simp only [if_true,Option.some.injEq,Prod.mk.injEq] at h ⊢; exact ⟨h.1,h.2.symm⟩
            | false =>
              simp only [Bool.false_eq_true,if_false] at h ⊢
              split at h
              · rename_i h1
                simp only [Option.map_eq_some_iff,Prod.mk.injEq] at h
                obtain ⟨w,hw,rfl,rfl⟩:=h
                exact ⟨by rw [if_pos h1]; exact hw,rfl⟩
              · cases h
          obtain ⟨h1,rfl⟩:=this
          exact sq_field ho hu hf hg hn hx R hr hcs hle h1
        · cases h
      · cases h
    · cases hc
  | indexAddr t x y =>
    simp only [compOp,ho] at hc
    have go : ∀ (arr : Option Nat) (e : TypeId) (sz : Nat) (x' y' : Opnd),(match arr with | some n => P.underlying t = some (.array n e) | none => P.underlying t = some (.slice e)) → sizeB P e = some sz → compO C x = some x' → compO C y = some y' →
        IOp.iaddr arr sz x' y' = op → Ok P ro o a W (QPost gb m F L W stL nid v news):=by
      intro arr e sz x' y' hu hsz hx hy e0
      subst e0
      simp only [aQ] at h
      split at h
      · rename_i i hi
        simp only [Option.map_eq_some_iff,Prod.mk.injEq] at h
        obtain ⟨v',hv,rfl,rfl⟩:=h
        obtain ⟨k,hi⟩:=getI_imm hi
        exact sq_iaddr ho hu hsz hx hy R hr hi hv
      · cases h
    split at hc
    · rename_i n e hu
      simp only [bind,Option.bind_eq_some_iff,Option.some.injEq] at hc
      obtain ⟨sz,hsz,x',hx,y',hy,e0⟩:=hc
      exact go (some n) e sz x' y' hu hsz hx hy e0
    · rename_i e hu
      simp only [bind,Option.bind_eq_some_iff,Option.some.injEq] at hc
      obtain ⟨sz,hsz,x',hx,y',hy,e0⟩:=hc
      exact go none e sz x' y' hu hsz hx hy e0
    · cases hc
  | index t x y =>
    simp only [compOp,ho] at hc
    split at hc
    · rename_i len e hu
      simp only [bind,Option.bind_eq_some_iff,Option.some.injEq] at hc
      obtain ⟨sz,hsz,g,hg,x',hx,y',hy,rfl⟩:=hc
      simp only [aQ] at h
      split at h
      · rename_i i hi
        obtain ⟨k,hi⟩:=getI_imm hi
        split at h
        · rename_i cs hcs
          split at h
          · rename_i hb
            have : (if g then some (mkAgg ((cs.drop (i.toNat * sz)).take sz)) else if sz = 1 then cs[i.toNat]? else none) = some v ∧ news = []:=by
              cases g with
              | true => simp only [if_true,Option.some.injEq,Prod.mk.injEq] at h ⊢; exact ⟨h.1,h.2.symm⟩
              | false =>
                simp only [Bool.false_eq_true,if_false] at h ⊢
                split at h
                · rename_i h1
                  simp only [Option.map_eq_some_iff,Prod.mk.injEq] at h
                  obtain ⟨w,hw,rfl,rfl⟩:=h
                  exact ⟨by rw [if_pos h1]; exact hw,rfl⟩
                · cases h
            obtain ⟨h1,rfl⟩:=this
            exact sq_index ho hu hg hsz hx hy R hr hi hcs hb h1
          · cases h
        · cases h
      · cases h
    · cases hc
  | extract x i =>
    simp only [compOp,ho,bind,Option.bind_eq_some_iff,Option.some.injEq] at hc
    obtain ⟨x',hx,rfl⟩:=hc
    simp only [aQ] at h
    split at h
    · rename_i ds e
      simp only [Option.map_eq_some_iff,Prod.mk.injEq] at h
      obtain ⟨w,hw,rfl,rfl⟩:=h
      exact sq_extract ho hx R hr (by rw [e]; simp [hw])
    · rename_i vs e
      simp only [Option.map_eq_some_iff,Prod.mk.injEq] at h
      obtain ⟨w,hw,rfl,rfl⟩:=h
      exact sq_extract ho hx R hr (by rw [e]; exact hw)
    · cases h
  | range t x =>
    simp only [compOp,ho] at hc
    split at hc
    · simp only [Option.map_eq_some_iff] at hc
      obtain ⟨x',hx,rfl⟩:=hc
      simp [aQ] at h
    · cases hc
  | next x b =>
    cases b with
    | false => simp [compOp,ho] at hc
    | true =>
      simp only [compOp,ho,Option.map_eq_some_iff] at hc
      obtain ⟨x',hx,rfl⟩:=hc
      simp [aQ] at h
  | call c =>
    obtain ⟨callee,args,argTypes⟩:=c
    cases callee with
    | invoke r n => simp [compOp,ho] at hc
    | value x =>
      simp only [compOp,ho,bind,Option.bind_eq_some_iff,Option.some.injEq] at hc
      obtain ⟨x',hx,args',ha,rfl⟩:=hc
      simp only [aQ] at h
      split at h
      · cases h
      · rename_i f p q hf
        split at h
        · cases h
        · rename_i ds hd
          split at h
          · split at h
            · rename_i d hcall
              split at h
              · rename_i hok
                simp only [Option.some.injEq,Prod.mk.injEq] at h
                obtain ⟨rfl,rfl⟩:=h
                exact q_callP H ho rfl hx ha R hr (fun i hi => hS i (fnOf_ids hf i hi)) hf hd hcall (by simpa using hok)
              · cases h
            · cases h
          · split at h
            · rename_i r hcall
              split at h
              · rename_i hok
                obtain ⟨r1,r2⟩:=r
                simp only [Option.some.injEq,Prod.mk.injEq] at h
                obtain ⟨rfl,rfl⟩:=h
                exact q_callI H ho rfl hx ha R hr (fun i hi => hS i (fnOf_ids hf i hi)) hf hd hcall (fun i h1 h2 => hfree i h1 (by simpa using h2)) (by simpa using hok)
              · cases h
            · cases h
          · split at h
            · rename_i r hcall
              split at h
              · rename_i hok
                obtain ⟨r1,r2⟩:=r
                split at h
                · rename_i d hdp
                  simp only [Option.some.injEq,Prod.mk.injEq] at h
                  obtain ⟨rfl,rfl⟩:=h
                  exact q_callF H ho rfl hx ha R hr (fun i hi => hS i (fnOf_ids hf i hi)) hf hd hcall hdp (by simpa using hok)
                · cases h
              · cases h
            · cases h
          · cases h
    | builtin b =>
      simp only [compOp,ho] at hc
      split at hc
      · rename_i x t hargs htys
        split at hc
        · rename_i hu
          simp only [Option.map_eq_some_iff] at hc
          obtain ⟨x',hx,rfl⟩:=hc
          simp only [aQ] at h
          split at h
          case h_2 => cases h
          rename_i n hn
          simp only [Option.some.injEq,Prod.mk.injEq] at h
          obtain ⟨rfl,rfl⟩:=h
          exact sq_len (k:=.str) ho rfl hargs htys hx hu R hr hS hn
        · rename_i e hu
          simp only [Option.map_eq_some_iff] at hc
          obtain ⟨x',hx,rfl⟩:=hc
          simp only [aQ] at h
          split at h
          case h_2 => cases h
          rename_i n hn
          simp only [Option.some.injEq,Prod.mk.injEq] at h
          obtain ⟨rfl,rfl⟩:=h
          exact sq_len (k:=.sl) ho rfl hargs htys hx ⟨e,hu⟩ R hr hS hn
        · rename_i k e hu
          simp only [Option.map_eq_some_iff] at hc
          obtain ⟨x',hx,rfl⟩:=hc
          simp only [aQ] at h
          split at h
          case h_2 => cases h
          rename_i n hn
          simp only [Option.some.injEq,Prod.mk.injEq] at h
          obtain ⟨rfl,rfl⟩:=h
          exact sq_len (k:=.mp) ho rfl hargs htys hx ⟨k,e,hu⟩ R hr hS hn
        · cases hc
      · rename_i x y t u hargs htys
        split at hc
        · rename_i e e2 hu hu2
          simp only [bind,Option.bind_eq_some_iff,Option.some.injEq] at hc
          obtain ⟨z,hz,sz,hsz,by0,hby,x',hx,y',hy,rfl⟩:=hc
          simp only [aQ] at h
          split at h
          · rename_i v' news' happ
            simp only [Option.some.injEq,Prod.mk.injEq] at h
            obtain ⟨rfl,rfl⟩:=h
            exact q_append ho rfl hargs htys hu hu2 hsz hby hz hx hy R (fun h => hfree nid (Nat.le_refl _) (by have:=List.length_pos_iff.2 h; omega)) hr hS happ
          · cases h
        · cases hc
      · rename_i x y hargs
        simp only [bind,Option.bind_eq_some_iff,Option.some.injEq] at hc
        obtain ⟨x',hx,y',hy,rfl⟩:=hc
        simp only [aQ] at h
        split at h
        · rename_i k p k' q e1 e2
          simp only [Option.some.injEq,Prod.mk.injEq] at h
          obtain ⟨rfl,rfl⟩:=h
          exact sq_mnmx (b:=true) ho rfl hargs hx hy R hr e1 e2
        · cases h
      · rename_i x y hargs
        simp only [bind,Option.bind_eq_some_iff,Option.some.injEq] at hc
        obtain ⟨x',hx,y',hy,rfl⟩:=hc
        simp only [aQ] at h
        split at h
        · rename_i k p k' q e1 e2
          simp only [Option.some.injEq,Prod.mk.injEq] at h
          obtain ⟨rfl,rfl⟩:=h
          exact sq_mnmx (b:=false) ho rfl hargs hx hy R hr e1 e2
        · cases h
      · split at hc
        · simp only [bind,Option.bind_eq_some_iff,Option.some.injEq] at hc
          obtain ⟨sz,hsz,x',hx,y',hy,rfl⟩:=hc
          simp [aQ] at h
        · cases hc
      · split at hc
        · simp only [bind,Option.bind_eq_some_iff,Option.some.injEq] at hc
          obtain ⟨z,hz,x',hx,rfl⟩:=hc
          simp [aQ] at h
        · cases hc
      · cases hc
  | _ => simp [compOp,ho] at hc
end
end Go.Vm

/- Soundness: one after the other; what was there is written: a store. -/
namespace Go.Vm
open Go
section
variable {P : Program} {gb : Nat → Option (List D)} {X : XT} {C : Ctx} {o : Oper} {a : Act} {W W' : World} {m m2 : Nat → Option Nat} {F F1 F2 : Nat → Prop} {L : Option Nat} {XO : Nat → Prop} {st : List AO} {ext : Option Ext} {vars env : List AV} {nid : Nat} {ro : Option Nat} {lo : Lower}
theorem sto_set (st : List AO) (id : Nat) (ob : AO) (i : Nat) : sto (st.set id ob) i = if i = id ∧ id < st.length then ob else sto st i:=by
  unfold sto
  simp only [List.getD_eq_getElem?_getD]
  by_cases h : id < st.length
  · by_cases e : i = id
    · subst e; rw [List.getElem?_set_self h,if_pos ⟨rfl,h⟩]; rfl
    · rw [List.getElem?_set_ne (Ne.symm e),if_neg (fun h => e h.1)]
  · rw [if_neg (fun h' => h h'.2),List.set_eq_of_length_le (by omega)]
theorem sto_lt {i : Nat} (h : sto st i ≠ .dead) : i < st.length:=by
  apply Classical.byContradiction
  intro hc
  exact h (by simp [sto,List.getD_eq_getElem?_getD,List.getElem?_eq_none (show st.length ≤ i by omega)])
theorem rel_kill (R : Rel gb m F L W (sto st)) (id : Nat) : Rel gb m F L W (sto (st.set id .dead)):=by
  have h : ∀ i,lv (sto (st.set id .dead) i) = true → sto (st.set id .dead) i = sto st i:=by
    intro i h
    rw [sto_set] at h ⊢
    split
    · rename_i e; rw [if_pos e] at h; cases h
    · rfl
  refine ⟨R.gl,fun i hi => ?_,fun i j b hi hj h1 h2 => R.inj i j b (h i hi ▸ hi) (h j hj ▸ hj) h1 h2,fun i b hi h1 => R.nF i b (h i hi ▸ hi) h1,R.hF,R.hm⟩
  rw [sto_set] at hi ⊢
  split
  · rename_i e; rw [if_pos e] at hi; exact absurd rfl hi
  · rename_i e; rw [if_neg e] at hi; exact R.hs i hi
theorem rel_set {id b : Nat} {ob : AO} (R : Rel gb m F L W (sto (st.set id .dead))) (hid : id < st.length) (hm : m id = some b) (hO : RelO m F L W b ob) (hF : lv ob = true → ¬ F b) (ho : ∀ j,lv (sto (st.set id .dead) j) = true → m j ≠ some b) : Rel gb m F L W (sto (st.set id ob)):=by
  have hget : ∀ i,sto (st.set id ob) i = if i = id then ob else sto (st.set id .dead) i:=by
    intro i
    rw [sto_set,sto_set]
    by_cases e : i = id
    · rw [if_pos ⟨e,hid⟩,if_pos e]
    · rw [if_neg (fun h => e h.1),if_neg e,if_neg (fun h => e h.1)]
  refine ⟨R.gl,fun i hi => ?_,fun i j b' hi hj h1 h2 => ?_,fun i b' hi h1 => ?_,R.hF,R.hm⟩
  · rw [hget] at hi ⊢
    split
    · rename_i e; subst e; exact ⟨b,hm,hO⟩
    · rename_i e; rw [if_neg e] at hi; exact R.hs i hi
  · rw [hget] at hi hj
    by_cases ei : i = id
    · by_cases ej : j = id
      · rw [ei,ej]
      · rw [if_neg ej] at hj
        rw [ei,hm] at h1; injection h1 with h1; subst h1
        exact absurd h2 (ho j hj)
    · rw [if_neg ei] at hi
      by_cases ej : j = id
      · rw [ej,hm] at h2; injection h2 with h2; subst h2
        exact absurd h1 (ho i hi)
      · rw [if_neg ej] at hj
        exact R.inj i j b' hi hj h1 h2
  · rw [hget] at hi
    by_cases ei : i = id
    · rw [if_pos ei] at hi
      rw [ei,hm] at h1; injection h1 with h1; subst h1
      exact hF hi
    · rw [if_neg ei] at hi; exact R.nF i b' hi h1
theorem XR.mono (hX : XMono X) {O : Nat → Prop} {F' : Nat → Prop} {m' : Nat → Option Nat} (h : XR X L ext XO F W) (G : Grow O m F W m' F' W') (hF : ∀ b,F b → b < W.heap.size ∧ ¬ O b) (hO : ∀ b,XO b → ¬ O b) (hB : ∀ b,F' b → b < W'.heap.size) : XR X L ext XO F' W':=by
  cases L with
  | none => cases ext with
    | none => exact h
    | some e => exact h
  | some l => cases ext with
    | none => exact h
    | some e =>
      refine ⟨hX _ _ _ _ _ _ _ _ _ _ h.1 G hF hO hB,fun b hb => ?_⟩
      obtain ⟨h1,h2⟩:=h.2 b hb
      refine ⟨Nat.lt_of_lt_of_le h1 G.tr.size,fun hc => ?_⟩
      rcases G.nF b hc with h | h | h
      · exact h2 h
      · exact hO b hb h
      · omega
theorem St.ownF (S : St gb X m F L XO W st ext) : ∀ b,F b → b < W.heap.size ∧ ¬ own m (sto st) b:=fun b hb => ⟨S.R.hF b hb,fun ⟨i,h1,h2⟩ => S.R.nF i b h1 h2 hb⟩
theorem QPost.post (hX : XMono X) {v : AV} {news : List AO} {w : Value} (S : St gb X m F L XO W st ext) (q : QPost gb m F L W (sto st) st.length v news w W') : ∃ m' F' XO',Post gb X m F L XO W st v (st ++ news) ext w W' m' F' XO':=by
  obtain ⟨m',F',G,R,hv,hn⟩:=q
  rw [← sto_append] at R
  have hown : ∀ b,own m' (sto (st ++ news)) b → own m (sto st) b ∨ W.heap.size ≤ b:=by
    rintro b ⟨i,h1,h2⟩
    rcases hn i b h2 with h | h
    · have hi:=S.up i b h
      refine .inl ⟨i,?_,h⟩
      rw [sto_append] at h1
      unfold Vm.put at h1
      rwa [if_neg (by omega)] at h1
    · exact .inr h.1
  refine ⟨m',F',XO,⟨G.hm,G.hF,fun b hb => (G.nF b hb).imp id (Or.imp False.elim id),G.tr.mono fun b _ h => h.elim⟩,⟨R,fun i b hi => ?_,S.x.mono hX G (fun b hb => ⟨S.R.hF b hb,fun h => h⟩) (fun b _ h => h) R.hF,fun b hb hx => ?_⟩,hv,hown,fun b h => .inl h,fun i b hi => ?_⟩
  · rw [List.length_append]
    rcases hn i b hi with h | h
    · have:=S.up i b h; omega
    · omega
  · rcases hown b hb with h | h
    · exact S.ap b h hx
    · cases L with
      | none => cases ext with
        | none => exact S.x b hx
        | some e => exact S.x.elim
      | some l => cases ext with
        | none => exact S.x.elim
        | some e => have:=(S.x.2 b hx).1; omega
  · rcases hn i b hi with h | h
    · exact .inl ⟨i,h⟩
    · exact .inr h.1
theorem upd_post (hX : XMono X) {id b : Nat} {ob ob' : AO} {v : AV} {w : Value} (S : St gb X m F L XO W st ext) (hg : st[id]? = some ob) (hl : lv ob = true) (hm : m id = some b) (T : Tr (fun x => x = b) W W') (hO : RelO m F L W' b ob') (hv : RepA m F L W' v w) :
    ∃ m' F' XO',Post gb X m F L XO W st v (st.set id ob') ext w W' m' F' XO':=by
  have hst : sto st id = ob:=sto_get hg
  have hlt : id < st.length:=(List.getElem?_eq_some_iff.1 hg).1
  have hbF : ¬ F b:=S.R.nF id b (by rw [hst]; exact hl) hm
  have hown : own m (sto st) b:=⟨id,by rw [hst]; exact hl,hm⟩
  have hdead : ∀ i,sto (st.set id .dead) i ≠ .dead → i ≠ id:=by
    intro i hi e
    rw [sto_set,if_pos ⟨e,hlt⟩] at hi
    exact hi rfl
  have hsame : ∀ i,i ≠ id → sto (st.set id .dead) i = sto st i:=fun i hi => by rw [sto_set,if_neg (fun h => hi h.1)]
  have hoth : ∀ i b',sto (st.set id .dead) i ≠ .dead → m i = some b' → b' ≠ b:=by
    intro i b' hi h1 e
    subst e
    have hne:=hdead i hi
    rw [hsame i hne] at hi
    cases hlv : lv (sto st i) with
    | true => exact hne (S.R.inj i id b' hlv (by rw [hst]; exact hl) h1 hm)
    | false =>
      obtain ⟨b2,h2,h3⟩:=S.R.hs i hi
      rw [h1] at h2; injection h2 with h2; subst h2
      cases hob : sto st i with
      | dead => exact hi hob
      | fbox cs => rw [hob] at h3; obtain ⟨_,_,_,_,_,h,_⟩:=h3; exact hbF h
      | farr sz es => rw [hob] at h3; obtain ⟨_,_,_,_,_,_,h,_⟩:=h3; exact hbF h
      | _ => rw [hob] at hlv; cases hlv
  have R1:=Rel.mono (m':=m) (F':=F) (rel_kill S.R id) T (fun _ _ h => h) (fun i b hi => by have:=S.R.hm i b hi; have:=T.size; omega) (fun _ h => h) (fun b hb => by have:=S.R.hF b hb; have:=T.size; omega)
    (fun i b' hi h1 => hoth i b' hi h1) (fun b' hb e => hbF (e ▸ hb)) (fun i b' h1 h2 => (rel_kill S.R id).nF i b' h1 h2)
  have R2:=rel_set R1 hlt hm hO (fun _ => hbF) (fun j hj h => hoth j b (fun e => by rw [e] at hj; cases hj) h rfl)
  have hown' : ∀ b',own m (sto (st.set id ob')) b' → own m (sto st) b':=by
    rintro b' ⟨i,h1,h2⟩
    by_cases e : i = id
    · subst e; rw [hm] at h2; injection h2 with h2; subst h2; exact hown
    · rw [sto_set,if_neg (fun h => e h.1)] at h1
      exact ⟨i,h1,h2⟩
  have G : Grow (fun x => x = b) m F W m F W':=⟨fun _ _ h => h,fun _ h => h,fun _ h => .inl h,T⟩
  refine ⟨m,F,XO,⟨fun _ _ h => h,fun _ h => h,fun _ h => .inl h,T.mono fun x _ e => .inl (e ▸ hown)⟩,⟨R2,fun i b' hi => by rw [List.length_set]; exact S.up i b' hi,S.x.mono hX G (fun b' hb => ⟨S.R.hF b' hb,fun e => hbF (e ▸ hb)⟩) (fun b' hb e => S.ap b hown (e ▸ hb)) R2.hF,fun b' hb => S.ap b' (hown' b' hb)⟩,hv,fun b' hb => .inl (hown' b' hb),fun b' h => .inl h,fun i b' hi => .inl ⟨i,hi⟩⟩
theorem tr_setRow {b : Nat} {c c' : Array Value} {t : TypeId} {fr : Nat × Nat} (hb : W.heap[b]? = some (.cells c t fr)) (hs : c'.size = c.size) : Tr (fun x => x = b) W (W.setRow b c'):=by
  refine ⟨rfl,rfl,rfl,by simp [World.setRow],fun x _ hx => setRow_other W b x c' hx,fun x s hx => ?_⟩
  by_cases e : x = b
  · subst e
    unfold rowSize at hx ⊢
    rw [setRow_heap W x c c' t fr hb]
    rw [hb] at hx
    obtain ⟨f1,f2⟩:=fr
    split at hx
    · rename_i c0 t0 e0
      simp only [Option.some.injEq,Obj.cells.injEq,Prod.mk.injEq] at e0
      obtain ⟨rfl,rfl,rfl,rfl⟩:=e0
      simp only [Option.some.injEq] at hx ⊢
      omega
    · cases hx
  · unfold rowSize at hx ⊢
    rw [setRow_other W b x c' e]; exact hx
theorem splice_get {c : Array Value} {off : Nat} {vs : List Value} {k : Nat} (h : off + vs.length ≤ c.size) : (c.toList.take off ++ vs ++ c.toList.drop (off + vs.length)).toArray.getD k undef = if off ≤ k ∧ k < off + vs.length then vs.getD (k - off) undef else c.getD k undef:=by
  simp only [Array.getD_eq_getD_getElem?,List.getElem?_toArray,List.append_assoc]
  by_cases h1 : k < off
  · rw [List.getElem?_append_left (by simp; omega),List.getElem?_take,if_pos h1,if_neg (by omega)]; simp
  · by_cases h2 : k < off + vs.length
    · rw [List.getElem?_append_right (by simp; omega),List.getElem?_append_left (by simp; omega),if_pos ⟨by omega,h2⟩]
      simp only [List.length_take,Array.length_toList,List.getD_eq_getElem?_getD]
      rw [show min off c.size = off by omega]
    · rw [List.getElem?_append_right (by simp; omega),List.getElem?_append_right (by simp; omega),if_neg (by omega),List.getElem?_drop]
      simp only [List.length_take,Array.length_toList,Array.getElem?_toList]
      rw [show off + vs.length + (k - min off c.size - vs.length) = k by omega]
theorem splice_size {c : Array Value} {off : Nat} {vs : List Value} (h : off + vs.length ≤ c.size) : (c.toList.take off ++ vs ++ c.toList.drop (off + vs.length)).toArray.size = c.size:=by
  simp; omega
theorem setRange_get {α : Type} {l : List α} {off : Nat} {vs : List α} {k : Nat} (h : off + vs.length ≤ l.length) : (setRange l off vs)[k]? = if off ≤ k ∧ k < off + vs.length then vs[k - off]? else l[k]?:=by
  unfold setRange
  rw [List.append_assoc]
  by_cases h1 : k < off
  · rw [List.getElem?_append_left (by simp; omega),List.getElem?_take,if_pos h1,if_neg (by omega)]
  · by_cases h2 : k < off + vs.length
    · rw [List.getElem?_append_right (by simp; omega),List.getElem?_append_left (by simp; omega),if_pos ⟨by omega,h2⟩]
      simp only [List.length_take]
      rw [show min off l.length = off by omega]
    · rw [List.getElem?_append_right (by simp; omega),List.getElem?_append_right (by simp; omega),if_neg (by omega),List.getElem?_drop]
      simp only [List.length_take]
      rw [show off + vs.length + (k - min off l.length - vs.length) = k by omega]
theorem setRange_len {α : Type} {l : List α} {off : Nat} {vs : List α} (h : off + vs.length ≤ l.length) : (setRange l off vs).length = l.length:=by
  unfold setRange; simp; omega
end
end Go.Vm

/- Soundness: a store. -/
namespace Go.Vm
open Go
section
variable {P : Program} {gb : Nat → Option (List D)} {X : XT} {C : Ctx} {o : Oper} {a : Act} {W W' : World} {m m2 : Nat → Option Nat} {F F1 F2 : Nat → Prop} {L : Option Nat} {XO : Nat → Prop} {st : List AO} {ext : Option Ext} {vars env : List AV} {nid : Nat} {ro : Option Nat} {lo : Lower}
theorem box_splice {b off : Nat} {c : Array Value} {t : TypeId} {cs vs : List AV} {ws : List Value} (hb : W.heap[b]? = some (.cells c t (0,0))) (hbF : ¬ F b) (hF : ∀ b,F b → b < W.heap.size) (hl : cs.length = c.size) (h1 : ∀ j,j < cs.length → (c.getD j undef).oneCell' = true) (hr : ∀ j d,cs[j]? = some d → RepA m F L W d (c.getD j undef))
    (hn : vs.length = ws.length) (ho : ∀ w ∈ ws,w.oneCell' = true) (hv : ∀ j d,vs[j]? = some d → RepA m F L W d (ws.getD j undef)) (hle : off + ws.length ≤ cs.length) :
    RelO m F L (W.setRow b (c.toList.take off ++ ws ++ c.toList.drop (off + ws.length)).toArray) b (.box (setRange cs off vs)):=by
  have T:=tr_setRow (c':=(c.toList.take off ++ ws ++ c.toList.drop (off + ws.length)).toArray) hb (splice_size (by omega))
  have mono : ∀ {v : AV} {w : Value},RepA m F L W v w → RepA m F L (W.setRow b (c.toList.take off ++ ws ++ c.toList.drop (off + ws.length)).toArray) v w:=fun h =>
    h.mono (fun _ _ h => h) (fun _ h => h) (fun x hx => T.keep x (hF x hx) fun e => hbF (e ▸ hx)) T.rows
  refine ⟨_,t,setRow_heap W b c _ t (0,0) hb,by rw [setRange_len (by omega),splice_size (by omega)]; exact hl,fun j hj => ?_,fun j d hj => ?_⟩
  · rw [setRange_len (by omega)] at hj
    rw [splice_get (by omega)]
    split
    · exact ho _ (by rw [List.getD_eq_getElem?_getD,List.getElem?_eq_getElem (by omega)]; exact List.getElem_mem _)
    · exact h1 j hj
  · rw [setRange_get (by omega),hn] at hj
    rw [splice_get (by omega)]
    split at hj
    · rename_i h; rw [if_pos h]; exact mono (hv _ d hj)
    · rename_i h; rw [if_neg h]; exact mono (hr _ d hj)
theorem place {q r n sz i j : Nat} (hr : r + n ≤ sz) (hj : j < sz) : (q * sz + r ≤ i * sz + j ∧ i * sz + j < q * sz + r + n) ↔ (i = q ∧ r ≤ j ∧ j < r + n):=by
  constructor
  · rintro ⟨h1,h2⟩
    rcases Nat.lt_trichotomy i q with h | h | h
    · have : (i + 1) * sz ≤ q * sz:=Nat.mul_le_mul_right _ h
      rw [Nat.succ_mul] at this; omega
    · subst h; omega
    · have : (q + 1) * sz ≤ i * sz:=Nat.mul_le_mul_right _ h
      rw [Nat.succ_mul] at this; omega
  · rintro ⟨rfl,h1,h2⟩; omega
theorem arr_splice {b q r : Nat} {c : Array Value} {t : TypeId} {sz : Nat} {es : List (List D)} {e ds : List D} {ws : List Value} (hb : W.heap[b]? = some (.cells c t (0,0))) (hbF : ¬ F b) (hF : ∀ b,F b → b < W.heap.size) (hz : ∀ e ∈ es,e.length = sz) (hl : es.length * sz ≤ c.size) (h1 : ∀ j,j < es.length * sz → (c.getD j undef).oneCell' = true)
    (hr : ∀ i e j d,es[i]? = some e → e[j]? = some d → RepD F W d (c.getD (i * sz + j) undef)) (he : es[q]? = some e)
    (hn : ds.length = ws.length) (ho : ∀ w ∈ ws,w.oneCell' = true) (hv : ∀ j d,ds[j]? = some d → RepD F W d (ws.getD j undef)) (hle : r + ws.length ≤ e.length) :
    q * sz + r + ws.length ≤ c.size ∧ RelO m F L (W.setRow b (c.toList.take (q * sz + r) ++ ws ++ c.toList.drop (q * sz + r + ws.length)).toArray) b (.arr sz (es.set q (setRange e r ds))):=by
  have hq:=(List.getElem?_eq_some_iff.1 he).1
  have hes:=hz e (List.mem_of_getElem? he)
  have hqs : (q + 1) * sz ≤ es.length * sz:=Nat.mul_le_mul_right _ hq
  rw [Nat.succ_mul] at hqs
  have hfit : q * sz + r + ws.length ≤ c.size:=by omega
  have T:=tr_setRow (c':=(c.toList.take (q * sz + r) ++ ws ++ c.toList.drop (q * sz + r + ws.length)).toArray) hb (splice_size hfit)
  have mono : ∀ {v : D} {w : Value},RepD F W v w → RepD F (W.setRow b (c.toList.take (q * sz + r) ++ ws ++ c.toList.drop (q * sz + r + ws.length)).toArray) v w:=fun h =>
    h.mono (fun _ h => h) (fun x hx => T.keep x (hF x hx) fun e => hbF (e ▸ hx))
  have hlen : (setRange e r ds).length = sz:=by rw [setRange_len (by omega)]; exact hes
  refine ⟨hfit,_,t,setRow_heap W b c _ t (0,0) hb,fun e' he' => ?_,by rw [List.length_set,splice_size hfit]; exact hl,fun k hk => ?_,fun i e' j d hi hj => ?_⟩
  · rcases List.mem_or_eq_of_mem_set he' with h | h
    · exact hz e' h
    · rw [h]; exact hlen
  · rw [List.length_set] at hk
    rw [splice_get hfit]
    split
    · exact ho _ (by rw [List.getD_eq_getElem?_getD,List.getElem?_eq_getElem (by omega)]; exact List.getElem_mem _)
    · exact h1 k hk
  · by_cases ei : i = q
    · subst ei
      rw [List.getElem?_set_self hq] at hi
      injection hi with hi; subst hi
      have hj' : j < sz:=by rw [← hlen]; exact (List.getElem?_eq_some_iff.1 hj).1
      rw [setRange_get (by omega),hn] at hj
      rw [splice_get hfit]
      by_cases h : r ≤ j ∧ j < r + ws.length
      · rw [if_pos h] at hj
        rw [if_pos ((place (by omega) hj').2 ⟨rfl,h⟩),show i * sz + j - (i * sz + r) = j - r by omega]
        exact mono (hv _ d hj)
      · rw [if_neg h] at hj
        rw [if_neg (fun hc => h ((place (by omega) hj').1 hc).2)]
        exact mono (hr _ _ _ d he hj)
    · rw [List.getElem?_set_ne (Ne.symm ei)] at hi
      have hj' : j < sz:=by rw [← hz e' (List.mem_of_getElem? hi)]; exact (List.getElem?_eq_some_iff.1 hj).1
      rw [splice_get hfit,if_neg (fun hc => ei ((place (by omega) hj').1 hc).1)]
      exact mono (hr _ _ _ d hi hj)
theorem row_rel {id b : Nat} {ob : AO} (S : St gb X m F L XO W st ext) (hg : st[id]? = some ob) (hm : m id = some b) (hn : ob ≠ .dead) : RelO m F L W b ob:=look S.R (fun _ => rfl) hg hn hm
theorem live_nF {id b : Nat} {ob : AO} (S : St gb X m F L XO W st ext) (hg : st[id]? = some ob) (hm : m id = some b) (hl : lv ob = true) : ¬ F b:=S.R.nF id b (by rw [sto_get hg]; exact hl) hm
theorem s_store (hX : XMono X) {t : TypeId} {n : Nat} {x y : Operand} {x' y' : Opnd} {st' : List AO} (ho : o.op = .store t x y) (hn : sizeB P t = some n) (hx : compO C x = some x') (hy : compO C y = some y') (S : St gb X m F L XO W st ext) (hr : OprOk C m F L W o a vars env)
    (h : aStore st n (opnd vars env x') (opnd vars env y') = some st') : Ok P ro o a W fun w W' => ∃ m' F' XO',Post gb X m F L XO W st .junk st' ext w W' m' F' XO':=by
  have rx:=hr x x' (by rw [ho]; simp [Op.operands]) hx
  have ry:=hr y y' (by rw [ho]; simp [Op.operands]) hy
  unfold aStore at h
  simp only at h
  split at h
  · cases h
  · rename_i hok
    have hlen : (cellsOf (opnd vars env y')).length = n:=Classical.byContradiction fun hc => hok (.inl hc)
    have hsing : (cellsOf (opnd vars env y')).all single = true:=by
      cases hh : (cellsOf (opnd vars env y')).all single with
      | true => rfl
      | false => exact absurd (.inr hh) hok
    obtain ⟨hsz,hcells⟩:=rep_cellsOf hsing ry
    have hw1 : ∀ w ∈ (a.eval y).cells.toList,w.oneCell' = true:=by
      intro w hw
      obtain ⟨j,hj,rfl⟩:=List.getElem_of_mem hw
      have hj' : j < (cellsOf (opnd vars env y')).length:=by rw [← hsz]; simpa using hj
      have h1:=hcells j _ (List.getElem?_eq_getElem hj')
      have h2 : single ((cellsOf (opnd vars env y'))[j]) = true:=List.all_eq_true.1 hsing _ (List.getElem_mem _)
      have h3:=oneCell_rep h2 h1
      have : (a.eval y).cells.getD j undef = (a.eval y).cells.toList[j]:=by simp [show j < (a.eval y).cells.size by simpa using hj]
      rwa [this] at h3
    have hwl : (a.eval y).cells.toList.length = n:=by simp; omega
    have hgd : ∀ j,(a.eval y).cells.toList.getD j undef = (a.eval y).cells.getD j undef:=fun j => by simp [List.getD_eq_getElem?_getD,Array.getD_eq_getD_getElem?]
    have run : ∀ {b off : Nat} {c : Array Value} {tt : TypeId},a.eval x = .pointer (some ⟨b,off,none⟩) → W.heap[b]? = some (.cells c tt (0,0)) → off + n ≤ c.size →
        (execOp a.eval o).run P W = .ok .skip (W.setRow b (c.toList.take off ++ (a.eval y).cells.toList ++ c.toList.drop (off + (a.eval y).cells.toList.length)).toArray):=by
      intro b off c tt hx hb hle
      have:=run_storeCells_at P b off tt (a.eval y).cells.toList 0 c W hb (by omega) hw1
      simp only [Nat.add_zero] at this
      simp only [execOp,ho,Instr.storeAt,hx,Instr.sureAddr,storeVar,Sem.run_bind,Sem.run_pure,Result.andThen_ok,run_sizeB hn]
      rw [if_neg (by rw [hsz,hlen]; simp)]
      simp only [this,Result.andThen_ok]
    split at h
    · rename_i id off e1
      rw [e1] at rx
      obtain ⟨b,hm,hxv⟩ : ∃ b,m id = some b ∧ a.eval x = .pointer (some ⟨b,off,none⟩):=by
        generalize a.eval x = w at rx
        cases rx with | ptr _ _ b h => exact ⟨b,h,rfl⟩
      split at h
      · rename_i cs hg
        split at h
        · rename_i hle
          injection h with h; subst h
          have hF:=live_nF S hg hm rfl
          obtain ⟨c,tt,hb,hl,h1,hrr⟩:=row_rel S hg hm (by simp)
          refine Ok.skip (by rw [ho]; simp) (run hxv hb (by omega)) ?_
          refine upd_post hX S hg rfl hm (tr_setRow hb (splice_size (by omega))) ?_ (.junk _)
          exact box_splice hb hF S.R.hF hl h1 hrr (by omega) hw1 (fun j d hj => by rw [hgd]; exact hcells j d hj) (by omega)
        · cases h
      · rename_i sz es hg
        split at h
        · rename_i e ds he hds
          split at h
          · rename_i hle
            injection h with h; subst h
            have hF:=live_nF S hg hm rfl
            obtain ⟨c,tt,hb,hz,hl,h1,hrr⟩:=row_rel S hg hm (by simp)
            have hcd:=dsOf_some hds
            have hdl : ds.length = n:=by rw [hcd] at hlen; simpa using hlen
            have hesz:=hz e (List.mem_of_getElem? he)
            have hoff : off / sz * sz + off % sz = off:=by rw [Nat.mul_comm]; exact Nat.div_add_mod off sz
            obtain ⟨k1,k2⟩:=arr_splice (m:=m) (L:=L) (r:=off % sz) (ds:=ds) (ws:=(a.eval y).cells.toList) hb hF S.R.hF hz hl h1 hrr he (by omega) hw1 (fun j d hj => by
              rw [hgd]
              have:=hcells j (.imm d) (by rw [hcd]; simp [hj])
              cases this with | imm _ _ h => exact h) (by omega)
            rw [hoff] at k1 k2
            refine Ok.skip (by rw [ho]; simp) (run hxv hb (by omega)) ?_
            exact upd_post hX S hg rfl hm (tr_setRow hb (splice_size k1)) k2 (.junk _)
          · cases h
        · cases h
      · cases h
    · cases h
end
end Go.Vm

/- Soundness: append to an own slice,copy,clear. -/
namespace Go.Vm
open Go
section
variable {P : Program} {gb : Nat → Option (List D)} {X : XT} {C : Ctx} {o : Oper} {a : Act} {W W' : World} {m m2 : Nat → Option Nat} {F F1 F2 : Nat → Prop} {L : Option Nat} {XO : Nat → Prop} {st : List AO} {ext : Option Ext} {vars env : List AV} {nid : Nat} {ro : Option Nat} {lo : Lower}
theorem relO_rows {b sz : Nat} {c : Array Value} {t : TypeId} {es : List (List D)} (hb : W.heap[b]? = some (.cells c t (0,0))) (hz : ∀ e ∈ es,e.length = sz) (hle : es.length * sz ≤ c.size)
    (h : ∀ i e j d,es[i]? = some e → e[j]? = some d → (c.getD (i * sz + j) undef).oneCell' = true ∧ RepD F W d (c.getD (i * sz + j) undef)) : RelO m F L W b (.arr sz es):=by
  refine ⟨c,t,hb,hz,hle,fun k hk => ?_,fun i e j d hi hj => (h i e j d hi hj).2⟩
  have hpos : 0 < sz := by rcases Nat.eq_zero_or_pos sz with h | h; · subst h; omega
                           · exact h
  have hi : k / sz < es.length:=Nat.div_lt_of_lt_mul (by rw [Nat.mul_comm]; exact hk)
  have hm:=Nat.mod_lt k hpos
  have:=(h (k / sz) es[k / sz] (k % sz) ((es[k / sz])[k % sz]'(by rw [hz _ (List.getElem_mem hi)]; exact hm)) (List.getElem?_eq_getElem hi) (List.getElem?_eq_getElem _)).1
  rwa [show k / sz * sz + k % sz = k by rw [Nat.mul_comm]; exact Nat.div_add_mod k sz] at this
theorem rel_add {b : Nat} {ob : AO} (R : Rel gb m F L W (sto st)) (hm : m st.length = some b) (hO : RelO m F L W b ob) (hF : lv ob = true → ¬ F b) (ho : ∀ j,lv (sto st j) = true → m j ≠ some b) : Rel gb m F L W (sto (st ++ [ob])):=by
  have hlt : st.length < (st ++ [ob]).length:=by simp
  have hk : (st ++ [ob]).set st.length .dead = st ++ [.dead]:=by simp
  have hdead : sto (st ++ [.dead]) = sto st:=by
    funext i
    rw [sto_append]
    unfold put
    split
    · rename_i h
      have e : i = st.length:=by simp at h; omega
      subst e
      simp [sto,List.getD_eq_getElem?_getD]
    · rfl
  have hset : (st ++ [ob]).set st.length ob = st ++ [ob]:=by simp
  have:=rel_set (st:=st ++ [ob]) (id:=st.length) (ob:=ob) (by rw [hk,hdead]; exact R) hlt hm hO hF (by rw [hk,hdead]; exact ho)
  rwa [hset] at this
theorem move_post (hX : XMono X) {id b b' : Nat} {ob ob' : AO} {v : AV} {w : Value} (S : St gb X m F L XO W st ext) (hg : st[id]? = some ob) (hl : lv ob = true) (hm : m id = some b) (T : Tr (fun x => x = b) W W') (hb' : b' = b ∨ (W.heap.size ≤ b' ∧ b' < W'.heap.size)) 
    (hO : RelO (addM m st.length b') F L W' b' ob') (hv : RepA (addM m st.length b') F L W' v w) :
    ∃ m' F' XO',Post gb X m F L XO W st v (st.set id .dead ++ [ob']) ext w W' m' F' XO':=by
  have hst : sto st id = ob:=sto_get hg
  have hlt : id < st.length:=(List.getElem?_eq_some_iff.1 hg).1
  have hbF : ¬ F b:=S.R.nF id b (by rw [hst]; exact hl) hm
  have hbw:=S.R.hm id b hm
  have hown : own m (sto st) b:=⟨id,by rw [hst]; exact hl,hm⟩
  have hfree : m st.length = none:=by
    cases h : m st.length with
    | none => rfl
    | some b => have:=S.up _ b h; omega
  have hext:=addM_ext (b:=b') hfree
  have hsame : ∀ i,i ≠ id → sto (st.set id .dead) i = sto st i:=fun i hi => by rw [sto_set,if_neg (fun h => hi h.1)]
  have hdead : ∀ i,sto (st.set id .dead) i ≠ .dead → i ≠ id:=by
    intro i hi e
    rw [sto_set,if_pos ⟨e,hlt⟩] at hi
    exact hi rfl
  have hoth : ∀ i b2,sto (st.set id .dead) i ≠ .dead → m i = some b2 → b2 ≠ b:=by
    intro i b2 hi h1 e
    subst e
    have hne:=hdead i hi
    rw [hsame i hne] at hi
    cases hlv : lv (sto st i) with
    | true => exact hne (S.R.inj i id b2 hlv (by rw [hst]; exact hl) h1 hm)
    | false =>
      obtain ⟨b3,h2,h3⟩:=S.R.hs i hi
      rw [h1] at h2; injection h2 with h2; subst h2
      cases hob : sto st i with
      | dead => exact hi hob
      | fbox cs => rw [hob] at h3; obtain ⟨_,_,_,_,_,h,_⟩:=h3; exact hbF h
      | farr sz es => rw [hob] at h3; obtain ⟨_,_,_,_,_,_,h,_⟩:=h3; exact hbF h
      | _ => rw [hob] at hlv; cases hlv
  have hm'lt : ∀ i b2,addM m st.length b' i = some b2 → b2 < W'.heap.size:=by
    intro i b2 hi
    unfold addM at hi
    split at hi
    · injection hi with hi; subst hi
      rcases hb' with h | h
      · subst h; have:=T.size; omega
      · exact h.2
    · have:=S.R.hm i b2 hi; have:=T.size; omega
  have R1:=Rel.mono (m':=addM m st.length b') (F':=F) (rel_kill S.R id) T hext hm'lt (fun _ h => h) (fun b hb => by have:=S.R.hF b hb; have:=T.size; omega)
    (fun i b' hi h1 => hoth i b' hi h1) (fun b' hb e => hbF (e ▸ hb)) (fun i b' h1 h2 => (rel_kill S.R id).nF i b' h1 h2)
  have hb'F : ¬ F b':=by
    rcases hb' with h | h
    · rw [h]; exact hbF
    · intro hc; have:=S.R.hF _ hc; omega
  have hlen : (st.set id .dead).length = st.length:=List.length_set
  have hothm : ∀ j,lv (sto (st.set id .dead) j) = true → addM m st.length b' j ≠ some b':=by
    intro j hj h
    have hjd : sto (st.set id .dead) j ≠ .dead:=fun e => by rw [e] at hj; cases hj
    have hjl:=sto_lt hjd
    rw [hlen] at hjl
    have h1 : m j = some b':=by
      unfold addM at h
      rwa [if_neg (by omega)] at h
    rcases hb' with e | e
    · exact hoth j b' hjd h1 e
    · have:=S.R.hm j b' h1; omega
  have R2:=rel_add (st:=st.set id .dead) R1 (by rw [hlen]; simp [addM]) hO (fun _ => hb'F) hothm
  have hown' : ∀ b2,own (addM m st.length b') (sto (st.set id .dead ++ [ob'])) b2 → own m (sto st) b2 ∨ W.heap.size ≤ b2:=by
    rintro b2 ⟨i,h1,h2⟩
    unfold addM at h2
    split at h2
    · injection h2 with h2; subst h2
      rcases hb' with e | e
      · subst e; exact .inl hown
      · exact .inr e.1
    · rename_i e
      rw [sto_append] at h1
      unfold Vm.put at h1
      rw [if_neg (by simp; omega)] at h1
      have hd : sto (st.set id .dead) i ≠ .dead:=fun e => by rw [e] at h1; cases h1
      exact .inl ⟨i,by rwa [hsame i (hdead i hd)] at h1,h2⟩
  have G : Grow (fun x => x = b) m F W (addM m st.length b') F W':=⟨hext,fun _ h => h,fun _ h => .inl h,T⟩
  refine ⟨addM m st.length b',F,XO,⟨hext,fun _ h => h,fun _ h => .inl h,T.mono fun x _ e => .inl (e ▸ hown)⟩,⟨R2,fun i b2 hi => ?_,S.x.mono hX G (fun b' hb => ⟨S.R.hF b' hb,fun e => hbF (e ▸ hb)⟩) (fun b' hb e => S.ap b hown (e ▸ hb)) R2.hF,fun b2 hb hx => ?_⟩,hv,hown',fun b' h => .inl h,fun i b2 hi => ?_⟩
  · simp only [List.length_append,hlen,List.length_cons,List.length_nil]
    unfold addM at hi
    split at hi
    · omega
    · have:=S.up i b2 hi; omega
  · rcases hown' b2 hb with h | h
    · exact S.ap b2 h hx
    · cases L with
      | none => cases ext with
        | none => exact S.x b2 hx
        | some e => exact S.x.elim
      | some l => cases ext with
        | none => exact S.x.elim
        | some e => have:=(S.x.2 b2 hx).1; omega
  · unfold addM at hi
    split at hi
    · injection hi with hi; subst hi
      rcases hb' with e | e
      · subst e; exact .inl ⟨id,hm⟩
      · exact .inr e.1
    · exact .inl ⟨i,hi⟩
theorem getD_range {f : Nat → Value} {n k : Nat} (h : k < n) : ((List.range n).map f).getD k undef = f k:=by
  simp [List.getD_eq_getElem?_getD,h]
theorem s_append (hX : XMono X) {c : Call} {x y : Operand} {x' y' : Opnd} {t u e e2 : TypeId} {sz bytes : Nat} {z : List D} {v : AV} {id : Nat} {news : List AO} (ho : o.op = .call c) (hc : c.callee = .builtin .append) (hargs : c.args.toList = [x,y]) (htys : c.argTypes.toList = [t,u])
    (hu : P.underlying t = some (.slice e)) (hu2 : P.underlying u = some (.slice e2)) (hn : sizeB P e = some sz) (hby : bytesB P e = some bytes) (hz : zeroB P e = some z) (hx : compO C x = some x') (hy : compO C y = some y')
    (S : St gb X m F L XO W st ext) (hr : OprOk C m F L W o a vars env) (h : aAppend st st.length sz bytes (opnd vars env x') (opnd vars env y') = some (v,some id,news)) :
    Ok P ro o a W fun w W' => ∃ m' F' XO',Post gb X m F L XO W st v (st.set id .dead ++ news) ext w W' m' F' XO':=by
  have ea : c.args = #[x,y]:=by rw [← Array.toArray_toList (xs:=c.args),hargs]
  have et : c.argTypes = #[t,u]:=by rw [← Array.toArray_toList (xs:=c.argTypes),htys]
  have rx:=hr x x' (by rw [ho]; simp [Op.operands,Call.operands,hc,ea]) hx
  have ry:=hr y y' (by rw [ho]; simp [Op.operands,Call.operands,hc,ea]) hy
  have rb : ∀ {w : Value} {W' : World},(Builtin.append_ #[t,u] o.type #[a.eval x,a.eval y]).run P W = .ok w W' → (execOp a.eval o).run P W = .ok (.value w) W':=fun {w W'} hw =>
    run_builtin ho hc (fun _ _ _ _ => rfl) (by rw [et,ea]; simpa using hw)
  unfold aAppend at h
  split at h
  · cases h
  · rename_i sz' es hsrc
    split at h
    · cases h
    · rename_i hsz
      have hs : Src P F W (a.eval y) sz es:=by
        have hs:=src_of (P:=P) S.R ry (fun _ _ _ => rfl) hsrc
        by_cases he : es = []
        · subst he
          obtain ⟨h1,⟨f,h2,_,_⟩,_⟩:=hs
          refine ⟨h1,⟨f,fun n W1 hW hn => ?_,by simp,by simp⟩,by simp⟩
          have hn0 : n = 0:=by simpa using hn
          subst hn0
          have:=h2 0 W1 hW (by simp)
          simp only [Nat.zero_mul] at this ⊢
          rw [← this]
          generalize a.eval y = w
          cases w <;> simp [Builtin.firstCells]
        · have : sz' = sz:=by
            by_cases hq : sz' = sz
            · exact hq
            · exact absurd ⟨he,hq⟩ hsz
          rw [← this]; exact hs
      split at h
      · split at h
        · simp at h
        · split at h <;> simp at h
      · split at h
        · cases h
        · split at h
          · simp at h
          · split at h <;> simp at h
      · rename_i id0 sz0 lo n e1
        split at h
        · rename_i sz1 old hg
          split at h
          · rename_i hok
            obtain ⟨e2,e3,e4,hnl,hroom⟩:=hok
            subst e2; subst e3; subst e4
            injection h with h; injection h with e5 e6; injection e6 with e6 e7
            injection e6 with e6
            subst e5; subst e6; subst e7
            rw [e1] at rx
            obtain ⟨b,q,cap,s,hm,hqb,hqs,hoff,hrs,hle,hcap,hxv⟩ : ∃ b q cap s,m id0 = some b ∧ q.block = b ∧ q.spot = none ∧ (0 < cap → q.off = 0 * sz1) ∧ rowSize W b = some s ∧ (0 + cap) * sz1 = s ∧ n ≤ cap ∧ a.eval x = .slice (some q) n cap:=by
              generalize a.eval x = w at rx
              cases rx with | ref _ _ _ _ b q cap s h1 h2 h3 h4 h5 h6 h7 => exact ⟨b,q,cap,s,h1,h2,h3,h4,h5,h6,h7,rfl⟩
            have hF:=live_nF S hg hm rfl
            obtain ⟨cs,tt,hb,hz0,hl,h1,hrr⟩:=row_rel S hg hm (by simp)
            have hsc : s = cs.size:=by
              unfold rowSize at hrs
              rw [hb] at hrs
              exact (Option.some.inj hrs).symm
            subst hsc
            have hbw:=S.R.hm id0 b hm
            have hns : n * sz1 ≤ old.length * sz1:=Nat.mul_le_mul_right _ hnl
            obtain ⟨hlen,⟨f0,g1,g2,g3⟩,hzz⟩:=id hs
            have hall : ∀ e ∈ old.take n ++ es,e.length = sz1:=by
              intro e he
              rcases List.mem_append.1 he with h | h
              · exact hz0 e (List.mem_of_mem_take h)
              · exact hzz e h
            have htl : (old.take n).length = n:=by simp; omega
            have hRE : ∀ e ∈ old.take n ++ es ++ restE sz1 old (n + es.length),e.length = sz1:=by
              intro e he
              rcases List.mem_append.1 he with h | h
              · exact hall e h
              · unfold restE at h
                split at h
                · simp at h
                · exact hz0 e (List.mem_of_mem_drop h)
            have hRl : (restE sz1 old (n + es.length)).length * sz1 = (old.length - (n + es.length)) * sz1:=by
              unfold restE
              split
              · simp
              · simp
            have hRg : ∀ (i : Nat) (e : List D),(restE sz1 old (n + es.length))[i]? = some e → old[n + es.length + i]? = some e:=by
              intro i e h
              unfold restE at h
              split at h
              · simp at h
              · rwa [List.getElem?_drop] at h
            by_cases hfit : n + es.length ≤ cap
            · have hmul : (n + es.length) * sz1 ≤ cap * sz1:=Nat.mul_le_mul_right _ hfit
              rw [Nat.add_mul] at hmul
              rw [Nat.zero_add] at hle
              by_cases hcp : 0 < cap
              · have hq0 : q.off = 0:=by rw [hoff hcp]; simp
                obtain ⟨f,r1,r2,r3⟩:=run_append_fit (ty:=o.type) hu hu2 hn hs hfit (by rw [hqb]; exact hb) hqs (by omega) hqb
                rw [hq0,Nat.zero_add,hqb] at r1
                have hfl : (List.map f (List.range (es.length * sz1))).length = es.length * sz1:=by simp
                have hspl : n * sz1 + (List.map f (List.range (es.length * sz1))).length ≤ cs.size:=by omega
                have r1' : (Builtin.append_ #[t,u] o.type #[a.eval x,a.eval y]).run P W = .ok (.slice (some q) (n + es.length) cap) (W.setRow b (cs.toList.take (n * sz1) ++ List.map f (List.range (es.length * sz1)) ++ cs.toList.drop (n * sz1 + (List.map f (List.range (es.length * sz1))).length)).toArray):=by
                  rw [hxv,hfl]; exact r1
                have T:=tr_setRow (c':=(cs.toList.take (n * sz1) ++ List.map f (List.range (es.length * sz1)) ++ cs.toList.drop (n * sz1 + (List.map f (List.range (es.length * sz1))).length)).toArray) hb (splice_size hspl)
                refine Ok.val (by rw [ho]; simp) (rb r1') ?_
                refine move_post (b':=b) hX S hg rfl hm T (.inl rfl) ?_ ?_
                · have hz1' : (restE sz1 old (n + es.length)).length * sz1 + (n * sz1 + es.length * sz1) ≤ cs.size:=by
                    rw [hRl,Nat.sub_mul,Nat.add_mul]
                    omega
                  refine relO_rows (setRow_heap W b cs _ tt (0,0) hb) hRE (by rw [splice_size hspl,List.length_append,List.length_append,htl,Nat.add_mul,Nat.add_mul]; omega) fun i e j d hi hj => ?_
                  have hj' : j < sz1:=by rw [← hRE e (List.mem_of_getElem? hi)]; exact (List.getElem?_eq_some_iff.1 hj).1
                  rw [splice_get hspl]
                  have hlae : (old.take n ++ es).length = n + es.length:=by rw [List.length_append,htl]
                  by_cases hin : i < n
                  · have hmi : (i + 1) * sz1 ≤ n * sz1:=Nat.mul_le_mul_right _ hin
                    rw [Nat.succ_mul] at hmi
                    rw [List.getElem?_append_left (by omega),List.getElem?_append_left (by omega),List.getElem?_take,if_pos hin] at hi
                    rw [if_neg (by omega)]
                    exact ⟨h1 _ (by omega),(hrr i e j d hi hj).mono (fun _ h => h) fun x hx => T.keep x (S.R.hF x hx) fun e => hF (e ▸ hx)⟩
                  · by_cases hin2 : i < n + es.length
                    · rw [List.getElem?_append_left (by omega),List.getElem?_append_right (by omega),htl] at hi
                      have hil:=(List.getElem?_eq_some_iff.1 hi).1
                      have hmi : (i - n + 1) * sz1 ≤ es.length * sz1:=Nat.mul_le_mul_right _ hil
                      rw [Nat.succ_mul] at hmi
                      have hsp : i * sz1 = n * sz1 + (i - n) * sz1:=by rw [← Nat.add_mul]; congr 1; omega
                      rw [if_pos (by omega),show i * sz1 + j - n * sz1 = (i - n) * sz1 + j by omega,getD_range (by omega)]
                      exact ⟨r2 _ (by omega),(r3 _ e j d hi hj).mono (fun _ h => h) fun x hx => T.keep x (S.R.hF x hx) fun e => hF (e ▸ hx)⟩
                    · rw [List.getElem?_append_right (by omega),hlae] at hi
                      have hi2:=hRg _ _ hi
                      rw [show n + es.length + (i - (n + es.length)) = i by omega] at hi2
                      have hil:=(List.getElem?_eq_some_iff.1 hi2).1
                      have hmi : (i + 1) * sz1 ≤ old.length * sz1:=Nat.mul_le_mul_right _ hil
                      rw [Nat.succ_mul] at hmi
                      have hmn : (n + es.length) * sz1 ≤ i * sz1:=Nat.mul_le_mul_right _ (by omega)
                      rw [Nat.add_mul] at hmn
                      rw [if_neg (by omega)]
                      exact ⟨h1 _ (by omega),(hrr i e j d hi2 hj).mono (fun _ h => h) fun x hx => T.keep x (S.R.hF x hx) fun e => hF (e ▸ hx)⟩
                · exact .ref _ _ _ _ b q cap cs.size (by simp [addM]) hqb hqs hoff (T.rows b _ hrs) (by rw [Nat.zero_add]; exact hle) hfit
              · have hc0 : cap = 0:=by omega
                have hn0 : n = 0:=by omega
                have he0 : es = []:=List.length_eq_zero_iff.1 (by omega)
                subst hc0; subst hn0; subst he0
                refine Ok.val (by rw [ho]; simp) (rb (by rw [hxv]; exact run_append_0 hu hu2 hn hs)) ?_
                refine move_post (b':=b) hX S hg rfl hm (Tr.refl _ W) (.inl rfl) ?_ ?_
                · have hr0 : restE sz1 old (0 + ([] : List (List D)).length) = []:=by
                    unfold restE
                    cases sz1 with
                    | zero => rfl
                    | succ k =>
                      have h3 : cs.size = 0:=by rw [← hle]; simp
                      have h4 : old.length = 0:=by
                        rcases Nat.eq_zero_or_pos old.length with h | h
                        · exact h
                        · have : 1 * (k + 1) ≤ old.length * (k + 1):=Nat.mul_le_mul_right _ h
                          omega
                      simp [List.length_eq_zero_iff.1 h4]
                  exact relO_rows hb hRE (by rw [hr0]; simp) (by intro i e j d hi; rw [hr0] at hi; simp at hi)
                · exact .ref _ _ _ _ b q 0 cs.size (by simp [addM]) hqb hqs hoff hrs (by rw [Nat.zero_add]; exact hle) (Nat.le_refl _)
            · have hr0 : restE sz1 old (n + es.length) = []:=by
                unfold restE
                cases sz1 with
                | zero => rfl
                | succ k =>
                  have h4 : old.length ≤ cap:=by
                    have : old.length * (k + 1) ≤ cap * (k + 1):=by rw [Nat.zero_add] at hle; omega
                    exact Nat.le_of_mul_le_mul_right this (Nat.succ_pos k)
                  exact List.drop_eq_nil_of_le (by omega)
              rw [hr0,List.append_nil]
              have hfirst : ∀ W1,W1.heap = W.heap → (Builtin.firstCells sz1 n (.slice (some q) n cap)).run P W1 = .ok ((List.range (n * sz1)).map fun k => cs.getD k undef).toArray W1:=by
                intro W1 hW
                refine run_first (W:=W) hW (fun _ => hqs) fun k hk => ?_
                have : 0 < n := by rcases Nat.eq_zero_or_pos n with h | h; · subst h; simp at hk
                                   · exact h
                rw [hoff (by omega),hqb,Nat.zero_mul,Nat.zero_add]
                exact cell_of hb (by omega)
              obtain ⟨f,rest,cap',dr,r1,r2,r3,r4,r5⟩:=run_append_new (ty:=o.type) hu hu2 hn hby hz hs hfirst (by omega) hroom
              have hbn:=push_new W (dr:=dr) (.cells (((List.range (n * sz1)).map fun k => cs.getD k undef).toArray ++ ((List.range (es.length * sz1)).map f).toArray ++ rest) e)
              have T : Tr (fun x => x = b) W (pushD W dr (.cells (((List.range (n * sz1)).map fun k => cs.getD k undef).toArray ++ ((List.range (es.length * sz1)).map f).toArray ++ rest) e)):=tr_push _ W _
              have hsize : (((List.range (n * sz1)).map fun k => cs.getD k undef).toArray ++ ((List.range (es.length * sz1)).map f).toArray ++ rest : Array Value).size = cap' * sz1:=by
                simp only [Array.size_append,List.size_toArray,List.length_map,List.length_range,r3]
                have : cap' = n + es.length + (cap' - (n + es.length)):=by omega
                conv => rhs; rw [this,Nat.add_mul,Nat.add_mul]
              have hcl : (n + es.length) * sz1 ≤ cap' * sz1:=Nat.mul_le_mul_right _ r2
              refine Ok.val (by rw [ho]; simp) (rb (by rw [hxv]; exact r1)) ?_
              refine move_post (b':=W.heap.size) hX S hg rfl hm T (.inr ⟨Nat.le_refl _,by simp [pushD]⟩) ?_ ?_
              · refine relO_rows hbn hall (by rw [hsize,List.length_append,htl]; exact hcl) fun i e j d hi hj => ?_
                have hj' : j < sz1:=by rw [← hall e (List.mem_of_getElem? hi)]; exact (List.getElem?_eq_some_iff.1 hj).1
                by_cases hin : i < n
                · have hmi : (i + 1) * sz1 ≤ n * sz1:=Nat.mul_le_mul_right _ hin
                  rw [Nat.succ_mul] at hmi
                  rw [List.getElem?_append_left (by omega),List.getElem?_take,if_pos hin] at hi
                  rw [appE_old (by simp; omega),mem_range_map (by omega)]
                  exact ⟨h1 _ (by omega),repD_push S.R _ (hrr i e j d hi hj)⟩
                · rw [List.getElem?_append_right (by omega),htl] at hi
                  have hil:=(List.getElem?_eq_some_iff.1 hi).1
                  have hmi : (i - n + 1) * sz1 ≤ es.length * sz1:=Nat.mul_le_mul_right _ hil
                  rw [Nat.succ_mul] at hmi
                  have hsp : i * sz1 = n * sz1 + (i - n) * sz1:=by rw [← Nat.add_mul]; congr 1; omega
                  have hidx : i * sz1 + j = ((List.range (n * sz1)).map fun k => cs.getD k undef).toArray.size + ((i - n) * sz1 + j):=by simp; omega
                  rw [hidx,appE_get (by simp; omega),mem_range_map (by omega)]
                  exact ⟨r4 _ (by omega),repD_push S.R _ (r5 _ e j d hi hj)⟩
              · exact .ref _ _ _ _ W.heap.size _ cap' (cap' * sz1) (by simp [addM]) rfl rfl (fun _ => by simp) (by simp only [rowSize,hbn]; rw [hsize]) (by simp) r2
          · cases h
        · cases h
      · cases h
end
end Go.Vm

/- Soundness: copy,clear,maps,iterators over strings. -/
namespace Go.Vm
open Go
section
variable {P : Program} {gb : Nat → Option (List D)} {X : XT} {C : Ctx} {o : Oper} {a : Act} {W W' : World} {m m2 : Nat → Option Nat} {F F1 F2 : Nat → Prop} {L : Option Nat} {XO : Nat → Prop} {st : List AO} {ext : Option Ext} {vars env : List AV} {nid : Nat} {ro : Option Nat} {lo : Lower}
theorem rows_set {b p sz : Nat} {c : Array Value} {t : TypeId} {old news : List (List D)} {ws : List Value} (hb : W.heap[b]? = some (.cells c t (0,0))) (hbF : ¬ F b) (hF : ∀ b,F b → b < W.heap.size) (hz : ∀ e ∈ old,e.length = sz) (hl : old.length * sz ≤ c.size) (h1 : ∀ j,j < old.length * sz → (c.getD j undef).oneCell' = true)
    (hr : ∀ i e j d,old[i]? = some e → e[j]? = some d → RepD F W d (c.getD (i * sz + j) undef)) (hzn : ∀ e ∈ news,e.length = sz) (hn : ws.length = news.length * sz) (ho : ∀ w ∈ ws,w.oneCell' = true) (hv : ∀ i e j d,news[i]? = some e → e[j]? = some d → RepD F W d (ws.getD (i * sz + j) undef)) (hle : p + news.length ≤ old.length) :
    p * sz + ws.length ≤ c.size ∧ RelO m F L (W.setRow b (c.toList.take (p * sz) ++ ws ++ c.toList.drop (p * sz + ws.length)).toArray) b (.arr sz (setRange old p news)):=by
  have hmul : (p + news.length) * sz ≤ old.length * sz:=Nat.mul_le_mul_right _ hle
  rw [Nat.add_mul] at hmul
  have hfit : p * sz + ws.length ≤ c.size:=by omega
  have T:=tr_setRow (c':=(c.toList.take (p * sz) ++ ws ++ c.toList.drop (p * sz + ws.length)).toArray) hb (splice_size hfit)
  have mono : ∀ {v : D} {w : Value},RepD F W v w → RepD F (W.setRow b (c.toList.take (p * sz) ++ ws ++ c.toList.drop (p * sz + ws.length)).toArray) v w:=fun h =>
    h.mono (fun _ h => h) (fun x hx => T.keep x (hF x hx) fun e => hbF (e ▸ hx))
  have hzz : ∀ e ∈ setRange old p news,e.length = sz:=by
    intro e he
    unfold setRange at he
    rcases List.mem_append.1 he with h | h
    · rcases List.mem_append.1 h with h | h
      · exact hz e (List.mem_of_mem_take h)
      · exact hzn e h
    · exact hz e (List.mem_of_mem_drop h)
  refine ⟨hfit,relO_rows (setRow_heap W b c _ t (0,0) hb) hzz (by rw [setRange_len hle,splice_size hfit]; exact hl) fun i e j d hi hj => ?_⟩
  have hj' : j < sz:=by rw [← hzz e (List.mem_of_getElem? hi)]; exact (List.getElem?_eq_some_iff.1 hj).1
  rw [setRange_get hle] at hi
  rw [splice_get hfit]
  by_cases hin : p ≤ i ∧ i < p + news.length
  · rw [if_pos hin] at hi
    have hil:=(List.getElem?_eq_some_iff.1 hi).1
    have hmi : (i - p + 1) * sz ≤ news.length * sz:=Nat.mul_le_mul_right _ hil
    rw [Nat.succ_mul] at hmi
    have hsp : i * sz = p * sz + (i - p) * sz:=by rw [← Nat.add_mul]; congr 1; omega
    rw [if_pos (by omega),show i * sz + j - p * sz = (i - p) * sz + j by omega]
    exact ⟨ho _ (by rw [List.getD_eq_getElem?_getD,List.getElem?_eq_getElem (by omega)]; exact List.getElem_mem _),mono (hv _ e j d hi hj)⟩
  · rw [if_neg hin] at hi
    have hil:=(List.getElem?_eq_some_iff.1 hi).1
    have hmi : (i + 1) * sz ≤ old.length * sz:=Nat.mul_le_mul_right _ hil
    rw [Nat.succ_mul] at hmi
    have hne : ¬ (p * sz ≤ i * sz + j ∧ i * sz + j < p * sz + ws.length):=by
      rintro ⟨k1,k2⟩
      by_cases hlt : i < p
      · have : (i + 1) * sz ≤ p * sz:=Nat.mul_le_mul_right _ hlt
        rw [Nat.succ_mul] at this; omega
      · have : (p + news.length) * sz ≤ i * sz:=Nat.mul_le_mul_right _ (by omega)
        rw [Nat.add_mul] at this; omega
    rw [if_neg hne]
    exact ⟨h1 _ (by omega),mono (hr _ e j d hi hj)⟩
theorem setRange_nil {α : Type} (l : List α) (p : Nat) : setRange l p [] = l:=by simp [setRange]
theorem set_same {id : Nat} {ob : AO} (h : st[id]? = some ob) : st.set id ob = st:=by
  obtain ⟨h1,h2⟩:=List.getElem?_eq_some_iff.1 h
  rw [← h2]; simp
theorem flat_get {sz : Nat} : ∀ {es : List (List D)} {p : Nat} {d : D},(∀ e ∈ es,e.length = sz) → es.flatten[p]? = some d → ∃ i e j,p = i * sz + j ∧ es[i]? = some e ∧ e[j]? = some d
  | [],p,d,_,h => by simp at h
  | x :: r,p,d,hz,h => by
    simp only [List.flatten_cons] at h
    by_cases hp : p < x.length
    · rw [List.getElem?_append_left hp] at h
      exact ⟨0,x,p,by simp,rfl,h⟩
    · rw [List.getElem?_append_right (by omega)] at h
      obtain ⟨i,e,j,h1,h2,h3⟩:=flat_get (fun e he => hz e (by simp [he])) h
      have:=hz x (by simp)
      exact ⟨i + 1,e,j,by rw [Nat.succ_mul]; omega,by simpa using h2,h3⟩
theorem keep_post (hX : XMono X) {v : AV} {w : Value} (S : St gb X m F L XO W st ext) (hv : RepA m F L W v w) : ∃ m' F' XO',Post gb X m F L XO W st v st ext w W m' F' XO':=by
  have:=QPost.post (v:=v) (news:=[]) hX S ⟨m,F,Grow.refl _ _ _ _,by rw [put_nil]; exact S.R,hv,fun _ _ h => .inl h⟩
  rwa [List.append_nil] at this
theorem run_builtin2 {b : Builtin} {c : Call} {v : Value} {f : Array TypeId → TypeId → Array Value → Sem Value} (ho : o.op = .call c) (hc : c.callee = .builtin b) (hb : ∀ ats ty cs args,builtin b ats ty cs args = (do pure (.value (← f ats ty args))))
    (h : (f c.argTypes o.type (c.args.map a.eval)).run P W = .ok v W') : (execOp a.eval o).run P W = .ok (.value v) W':=by
  simp only [execOp,ho,resolve,hc,pure_bind,invoke,hb,Sem.run_bind,h,Result.andThen_ok,Sem.run_pure]
theorem ri (k : Nat) : RepA m F L W (.imm (.int .i64 (k : Int))) (goInt k):=.imm _ _ (.int .i64 k)
theorem s_copy (hX : XMono X) {c : Call} {x y : Operand} {x' y' : Opnd} {t u e : TypeId} {sz : Nat} {v : AV} {s s' : S} (hs0 : s.st = st) (hs1 : s.ext = ext) (ho : o.op = .call c) (hc : c.callee = .builtin .copy) (hargs : c.args.toList = [x,y]) (htys : c.argTypes.toList = [t,u])
    (hu : P.underlying t = some (.slice e)) (hn : sizeB P e = some sz) (hx : compO C x = some x') (hy : compO C y = some y') (S : St gb X m F L XO W st ext) (hr : OprOk C m F L W o a vars env) (h : aOp lo vars env s (.copy sz x' y') = some (v,s')) :
    (Ok P ro o a W fun w W' => ∃ m' F' XO',Post gb X m F L XO W st v s'.st s'.ext w W' m' F' XO') ∧ s'.vars = s.vars:=by
  subst hs0; subst hs1
  have ea : c.args = #[x,y]:=by rw [← Array.toArray_toList (xs:=c.args),hargs]
  have et : c.argTypes = #[t,u]:=by rw [← Array.toArray_toList (xs:=c.argTypes),htys]
  have rx:=hr x x' (by rw [ho]; simp [Op.operands,Call.operands,hc,ea]) hx
  have ry:=hr y y' (by rw [ho]; simp [Op.operands,Call.operands,hc,ea]) hy
  have rb : ∀ {w : Value} {W' : World},(Builtin.copy_ #[t,u] o.type #[a.eval x,a.eval y]).run P W = .ok w W' → (execOp a.eval o).run P W = .ok (.value w) W':=fun {w W'} hw =>
    run_builtin2 (b:=.copy) (f:=Builtin.copy_) ho hc (fun _ _ _ _ => rfl) (by rw [et,ea]; simpa using hw)
  have empty : ∀ (q : Option Addr),a.eval x = .slice q 0 0 → (∃ p,srcOf s.st (opnd vars env y') = some p) → Ok P ro o a W fun w W' => ∃ m' F' XO',Post gb X m F L XO W s.st (.imm (.int .i64 0)) s.st s.ext w W' m' F' XO':=by
    rintro q hq ⟨⟨sz2,es⟩,hsrc⟩
    obtain ⟨hlen,⟨f,f1,f2,f3⟩,hz⟩:=src_of (P:=P) S.R ry (fun _ _ _ => rfl) hsrc
    have f0:=f1 0 W rfl (by omega)
    have f0' : (Builtin.firstCells sz 0 (a.eval y)).run P W = .ok #[] W:=by
      have : (Builtin.firstCells sz 0 (a.eval y)) = (Builtin.firstCells sz2 0 (a.eval y)):=by
        generalize a.eval y = w
        cases w <;> simp [Builtin.firstCells]
      rw [this,f0]; simp
    refine Ok.val (by rw [ho]; simp) (rb (w:=goInt 0) (W':=W) ?_) (keep_post hX S (ri 0))
    simp only [Builtin.copy_,List.getElem?_toArray,List.getElem?_cons_zero,List.getElem?_cons_succ,Sem.run_bind,run_und hu,hq,hlen,Result.andThen_ok,run_sizeB hn]
    rw [show Nat.min es.length 0 = 0 from Nat.min_zero _,f0']
    cases q <;> simp [storeCells]
  simp only [aOp] at h
  split at h
  · rename_i id sz' p n sz'' es e1 hsrc
    split at h
    · rename_i hsz
      obtain ⟨hsz1,hsz2⟩:=hsz
      subst hsz1
      rw [e1] at rx
      obtain ⟨b,q,cap,r,hm,hqb,hqs,hoff,hrs,hle,hcap,hxv⟩ : ∃ b q cap r,m id = some b ∧ q.block = b ∧ q.spot = none ∧ (0 < cap → q.off = p * sz') ∧ rowSize W b = some r ∧ (p + cap) * sz' = r ∧ n ≤ cap ∧ a.eval x = .slice (some q) n cap:=by
        generalize a.eval x = w at rx
        cases rx with | ref _ _ _ _ b q cap s h1 h2 h3 h4 h5 h6 h7 => exact ⟨b,q,cap,s,h1,h2,h3,h4,h5,h6,h7,rfl⟩
      have hs : Src P F W (a.eval y) sz' es:=by
        have hs:=src_of (P:=P) S.R ry (fun _ _ _ => rfl) hsrc
        rcases hsz2 with he | he
        · subst he
          obtain ⟨h1,⟨f,h2,_,_⟩,_⟩:=hs
          refine ⟨h1,⟨f,fun n W1 hW hn => ?_,by simp,by simp⟩,by simp⟩
          have hn0 : n = 0:=by simpa using hn
          subst hn0
          have:=h2 0 W1 hW (by simp)
          simp only [Nat.zero_mul] at this ⊢
          rw [← this]
          generalize a.eval y = w
          cases w <;> simp [Builtin.firstCells]
        · rw [← he]; exact hs
      obtain ⟨hlen,⟨f,f1,f2,f3⟩,hz⟩:=hs
      obtain ⟨k,hk⟩ : ∃ k,k = min es.length n:=⟨_,rfl⟩
      rw [← hk] at h
      have f0:=f1 k W rfl (by omega)
      have hkm : k * sz' ≤ es.length * sz':=Nat.mul_le_mul_right _ (by omega)
      have hwl : ((List.range (k * sz')).map f).length = k * sz':=by simp
      have how : ∀ w ∈ (List.range (k * sz')).map f,w.oneCell' = true:=by
        intro w hw
        obtain ⟨i,hi,rfl⟩:=List.mem_map.1 hw
        rw [List.mem_range] at hi
        exact f2 i (by omega)
      have run : ∀ {W' : World},(storeCells q ((List.range (k * sz')).map f)).run P W = .ok () W' → (execOp a.eval o).run P W = .ok (.value (goInt k)) W':=by
        intro W' hst
        refine rb ?_
        simp only [Builtin.copy_,List.getElem?_toArray,List.getElem?_cons_zero,List.getElem?_cons_succ,Sem.run_bind,run_und hu,hxv,hlen,Result.andThen_ok,Sem.run_pure,run_sizeB hn]
        rw [show Nat.min es.length n = k from hk.symm,f0]
        simp only [Result.andThen_ok,hst]
      have stored : ∀ {cs : Array Value} {tt : TypeId},W.heap[b]? = some (.cells cs tt (0,0)) → p * sz' + k * sz' ≤ cs.size → 0 < k → (storeCells q ((List.range (k * sz')).map f)).run P W = .ok () (W.setRow b (cs.toList.take (p * sz') ++ (List.range (k * sz')).map f ++ cs.toList.drop (p * sz' + ((List.range (k * sz')).map f).length)).toArray):=by
        intro cs tt hb hfit hk0
        have hq : q = ⟨b,p * sz',none⟩:=by rw [addr_none hqs,hqb,hoff (by omega)]
        rw [hq]
        have:=run_storeCells_at P b (p * sz') tt ((List.range (k * sz')).map f) 0 cs W hb (by omega) how
        simpa only [Nat.add_zero] using this
      have nothing : k = 0 → (storeCells q ((List.range (k * sz')).map f)).run P W = .ok () W:=by
        intro hk0
        rw [hk0]; simp [storeCells]
      have hzt : ∀ e ∈ es.take k,e.length = sz':=fun e he => hz e (List.mem_of_mem_take he)
      have htl : (es.take k).length = k:=by simp; omega
      split at h
      · rename_i sz1 old hg
        split at h
        · rename_i hok
          obtain ⟨rfl,hpn⟩:=hok
          injection h with h; injection h with h1 h2; subst h1; subst h2
          refine ⟨?_,rfl⟩
          have hF:=live_nF S hg hm rfl
          obtain ⟨cs,tt,hb,hz0,hl,h1,hrr⟩:=row_rel S hg hm (by simp)
          by_cases hk0 : k = 0
          · refine Ok.val (by rw [ho]; simp) (run (nothing hk0)) ?_
            simp only [hk0,List.take_zero,setRange_nil,set_same hg]
            exact keep_post hX S (ri 0)
          · obtain ⟨k1,k2⟩:=rows_set (m:=m) (L:=L) (p:=p) (news:=es.take k) (ws:=(List.range (k * sz1)).map f) hb hF S.R.hF hz0 hl h1 hrr hzt (by rw [hwl,htl]) how (fun i e j d hi hj => by
              have hj' : j < sz1:=by rw [← hzt e (List.mem_of_getElem? hi)]; exact (List.getElem?_eq_some_iff.1 hj).1
              have hil:=(List.getElem?_eq_some_iff.1 hi).1
              rw [htl] at hil
              have hmi : (i + 1) * sz1 ≤ k * sz1:=Nat.mul_le_mul_right _ hil
              rw [Nat.succ_mul] at hmi
              rw [getD_range (by omega)]
              rw [List.getElem?_take,if_pos hil] at hi
              exact f3 i e j d hi hj) (by rw [htl]; omega)
            refine Ok.val (by rw [ho]; simp) (run (stored hb (by omega) (by omega))) ?_
            exact upd_post hX S hg rfl hm (tr_setRow hb (splice_size k1)) k2 (ri k)
        · cases h
      · rename_i cl hg
        split at h
        · rename_i hok
          obtain ⟨hpn,hfl⟩:=hok
          injection h with h; injection h with h1 h2; subst h1; subst h2
          refine ⟨?_,rfl⟩
          have hF:=live_nF S hg hm rfl
          obtain ⟨cs,tt,hb,hl,h1,hrr⟩:=row_rel S hg hm (by simp)
          rw [Nat.add_mul] at hpn
          have hkn : k * sz' ≤ n * sz':=Nat.mul_le_mul_right _ (by omega)
          by_cases hk0 : k = 0
          · refine Ok.val (by rw [ho]; simp) (run (nothing hk0)) ?_
            simp only [hk0,List.take_zero,List.flatten_nil,List.map_nil,setRange_nil,set_same hg]
            exact keep_post hX S (ri 0)
          · refine Ok.val (by rw [ho]; simp) (run (stored hb (by omega) (by omega))) ?_
            refine upd_post hX S hg rfl hm (tr_setRow hb (splice_size (by omega))) ?_ (ri k)
            refine box_splice hb hF S.R.hF hl h1 hrr (by simp only [List.length_map,hfl,List.length_range]) how (fun j d hj => ?_) (by omega)
            rw [List.getElem?_map,Option.map_eq_some_iff] at hj
            obtain ⟨d0,hd0,rfl⟩:=hj
            obtain ⟨i,e',jj,k1,k2,k3⟩:=flat_get hzt hd0
            have hj' : jj < sz':=by rw [← hzt e' (List.mem_of_getElem? k2)]; exact (List.getElem?_eq_some_iff.1 k3).1
            have hil:=(List.getElem?_eq_some_iff.1 k2).1
            rw [htl] at hil
            have hmi : (i + 1) * sz' ≤ k * sz':=Nat.mul_le_mul_right _ hil
            rw [Nat.succ_mul] at hmi
            rw [k1,getD_range (by omega)]
            rw [List.getElem?_take,if_pos hil] at k2
            exact .imm _ _ (f3 i e' jj d0 k2 k3)
        · cases h
      · cases h
    · cases h
  · rename_i p e1 e2
    injection h with h; injection h with h1 h2; subst h1; subst h2
    rw [e1] at rx
    refine ⟨empty none ?_ ⟨p,e2⟩,rfl⟩
    generalize a.eval x = w at rx
    cases rx with | imm _ _ h => cases h; rfl
  · rename_i p e1 e2
    injection h with h; injection h with h1 h2; subst h1; subst h2
    rw [e1] at rx
    obtain ⟨q,hq⟩ : ∃ q : Option Addr,a.eval x = .slice q 0 0:=by
      generalize a.eval x = w at rx
      cases rx with | e0 _ q => exact ⟨some q,rfl⟩
    exact ⟨empty q hq ⟨p,e2⟩,rfl⟩
  · cases h
end
end Go.Vm

/- Soundness: clear,maps,iterators over strings. -/
namespace Go.Vm
open Go
section
variable {P : Program} {gb : Nat → Option (List D)} {X : XT} {C : Ctx} {o : Oper} {a : Act} {W W' : World} {m m2 : Nat → Option Nat} {F F1 F2 : Nat → Prop} {L : Option Nat} {XO : Nat → Prop} {st : List AO} {ext : Option Ext} {vars env : List AV} {nid : Nat} {ro : Option Nat} {lo : Lower}
theorem rtup0 : RepA m F L W (.imm (.tup [])) (.tuple #[]):=.imm _ _ (.tup [] #[] rfl (by simp))
theorem s_clear (hX : XMono X) {c : Call} {x : Operand} {x' : Opnd} {t e : TypeId} {z : List D} {v : AV} {s s' : S} (hs0 : s.st = st) (hs1 : s.ext = ext) (ho : o.op = .call c) (hc : c.callee = .builtin .clear) (hargs : c.args.toList = [x]) (htys : c.argTypes.toList = [t])
    (hu : P.underlying t = some (.slice e)) (hz : zeroB P e = some z) (hx : compO C x = some x') (S : St gb X m F L XO W st ext) (hr : OprOk C m F L W o a vars env) (h : aOp lo vars env s (.clear z x') = some (v,s')) :
    (Ok P ro o a W fun w W' => ∃ m' F' XO',Post gb X m F L XO W st v s'.st s'.ext w W' m' F' XO') ∧ s'.vars = s.vars:=by
  subst hs0; subst hs1
  have ea : c.args = #[x]:=by rw [← Array.toArray_toList (xs:=c.args),hargs]
  have et : c.argTypes = #[t]:=by rw [← Array.toArray_toList (xs:=c.argTypes),htys]
  have rx:=hr x x' (by rw [ho]; simp [Op.operands,Call.operands,hc,ea]) hx
  have rb : ∀ {w : Value} {W' : World},(Builtin.clear_ #[t] o.type #[a.eval x]).run P W = .ok w W' → (execOp a.eval o).run P W = .ok (.value w) W':=fun {w W'} hw =>
    run_builtin2 (b:=.clear) (f:=Builtin.clear_) ho hc (fun _ _ _ _ => rfl) (by rw [et,ea]; simpa using hw)
  have empty : ∀ q cap,a.eval x = .slice q 0 cap → Ok P ro o a W fun w W' => ∃ m' F' XO',Post gb X m F L XO W s.st (.imm (.tup [])) s.st s.ext w W' m' F' XO':=by
    intro q cap hq
    refine Ok.val (by rw [ho]; simp) (rb (w:=.tuple #[]) (W':=W) ?_) (keep_post hX S rtup0)
    simp only [Builtin.clear_,List.getElem?_toArray,List.getElem?_cons_zero,Sem.run_bind,run_und hu,hq,Result.andThen_ok]
    cases q <;> simp
  simp only [aOp] at h
  split at h
  · rename_i id sz0 p n e1
    split at h
    · rename_i sz1 old hg
      split at h
      · rename_i hok
        obtain ⟨hzl,e2,hpn⟩:=hok
        subst e2
        injection h with h; injection h with h1 h2; subst h1; subst h2
        refine ⟨?_,rfl⟩
        rw [e1] at rx
        obtain ⟨b,q,cap,r,hm,hqb,hqs,hoff,hrs,hle,hcap,hxv⟩ : ∃ b q cap r,m id = some b ∧ q.block = b ∧ q.spot = none ∧ (0 < cap → q.off = p * sz0) ∧ rowSize W b = some r ∧ (p + cap) * sz0 = r ∧ n ≤ cap ∧ a.eval x = .slice (some q) n cap:=by
          generalize a.eval x = w at rx
          cases rx with | ref _ _ _ _ b q cap s h1 h2 h3 h4 h5 h6 h7 => exact ⟨b,q,cap,s,h1,h2,h3,h4,h5,h6,h7,rfl⟩
        by_cases hn0 : n = 0
        · subst hn0
          simp only [List.replicate_zero,setRange_nil,set_same hg]
          exact empty _ _ hxv
        · have hF:=live_nF S hg hm rfl
          obtain ⟨cs,tt,hb,hz0,hl,h1,hrr⟩:=row_rel S hg hm (by simp)
          obtain ⟨zv,z1,z2,z3,z4,z5⟩:=run_zeroB (P:=P) (W:=W) (F:=F) hz
          have hzs : zv.cells.size = sz0:=by omega
          have hwl : (Builtin.zeroCells zv.cells n).toList.length = n * sz0:=by simp [Builtin.zeroCells,hzs]
          have hwk : ∀ k,k < n * sz0 → (Builtin.zeroCells zv.cells n).toList.getD k undef = zv.cells.getD (k % sz0) undef:=by
            intro k hk
            have hpos : 0 < sz0 := by rcases Nat.eq_zero_or_pos sz0 with h | h; · subst h; omega
                                      · exact h
            have hm:=Nat.mod_lt k hpos
            simp [List.getD_eq_getElem?_getD,Builtin.zeroCells,hzs,hk]
            rw [Array.getElem!_eq_getD]
            simp [show k % sz0 < zv.cells.size by omega]
          have how : ∀ w ∈ (Builtin.zeroCells zv.cells n).toList,w.oneCell' = true:=by
            intro w hw
            obtain ⟨k,hk,rfl⟩:=List.getElem_of_mem hw
            have hk2 : k < n * sz0:=by rw [← hwl]; exact hk
            have hpos : 0 < sz0 := by rcases Nat.eq_zero_or_pos sz0 with h | h; · subst h; omega
                                      · exact h
            have hm:=Nat.mod_lt k hpos
            have e3:=hwk k hk2
            rw [List.getD_eq_getElem?_getD,List.getElem?_eq_getElem hk] at e3
            simp only [Option.getD_some] at e3
            rw [e3]
            exact getD_one z4 (by omega)
          obtain ⟨k1,k2⟩:=rows_set (m:=m) (L:=L) (p:=p) (news:=List.replicate n z) (ws:=(Builtin.zeroCells zv.cells n).toList) hb hF S.R.hF hz0 hl h1 hrr (fun e he => by rw [(List.mem_replicate.1 he).2]; exact hzl) (by rw [hwl]; simp) how (fun i e j d hi hj => by
            have hil:=(List.getElem?_eq_some_iff.1 hi).1
            have hev:=List.mem_replicate.1 (List.mem_of_getElem? hi)
            obtain ⟨_,rfl⟩:=hev
            have hj' : j < sz0:=by rw [← hzl]; exact (List.getElem?_eq_some_iff.1 hj).1
            rw [List.length_replicate] at hil
            have hmi : (i + 1) * sz0 ≤ n * sz0:=Nat.mul_le_mul_right _ hil
            rw [Nat.succ_mul] at hmi
            rw [hwk _ (by omega),(div_of hj').2]
            exact z5 j d hj) (by rw [List.length_replicate]; exact hpn)
          have hst:=run_storeCells_at P b (p * sz0) tt (Builtin.zeroCells zv.cells n).toList 0 cs W hb (by omega) how
          simp only [Nat.add_zero] at hst
          have hq : q = ⟨b,p * sz0,none⟩:=by rw [addr_none hqs,hqb,hoff (by omega)]
          refine Ok.val (by rw [ho]; simp) (rb (w:=.tuple #[]) (W':=W.setRow b (cs.toList.take (p * sz0) ++ (Builtin.zeroCells zv.cells n).toList ++ cs.toList.drop (p * sz0 + (Builtin.zeroCells zv.cells n).toList.length)).toArray) ?_) (upd_post hX S hg rfl hm (tr_setRow hb (splice_size k1)) k2 rtup0)
          obtain ⟨n',rfl⟩:=Nat.exists_eq_succ_of_ne_zero hn0
          simp only [Builtin.clear_,List.getElem?_toArray,List.getElem?_cons_zero,Sem.run_bind,run_und hu,hxv,Result.andThen_ok,z1]
          rw [hq,hst]
          simp
      · cases h
    · cases h
  · rename_i e1
    injection h with h; injection h with h1 h2; subst h1; subst h2
    rw [e1] at rx
    refine ⟨empty none 0 ?_,rfl⟩
    generalize a.eval x = w at rx
    cases rx with | imm _ _ h => cases h; rfl
  · rename_i e1
    injection h with h; injection h with h1 h2; subst h1; subst h2
    rw [e1] at rx
    obtain ⟨q,hq⟩ : ∃ q : Option Addr,a.eval x = .slice q 0 0:=by
      generalize a.eval x = w at rx
      cases rx with | e0 _ q => exact ⟨some q,rfl⟩
    exact ⟨empty q 0 hq,rfl⟩
  · cases h
theorem findNow_set {k : Int} {v : D} {kd : IntKind} : ∀ {es : List (Int × D)} {l : List MapEntry} {i : Nat},l.length = es.length → (∀ (i : Nat) (q : Int) (d : D),es[i]? = some (q,d) → ∃ e : MapEntry,l[i]? = some e ∧ e.key = .int .i64 q) →
    (Instr.findNow (.int kd) (.int .i64 k) l i = some none ∧ mapSet es k v = es ++ [(k,v)]) ∨ ∃ j w old,Instr.findNow (.int kd) (.int .i64 k) l i = some (some (i + j,w)) ∧ l[j]? = some old ∧ old.key = .int .i64 k ∧ mapSet es k v = es.set j (k,v)
  | [],[],_,_,_ => .inl ⟨rfl,rfl⟩
  | [],_ :: _,_,h,_ => by simp at h
  | _ :: _,[],_,h,_ => by simp at h
  | (q,d) :: es,e :: l,i,hl,h => by
    obtain ⟨e',h1,h2⟩:=h 0 q d rfl
    simp at h1; subst h1
    have ih:=findNow_set (k:=k) (v:=v) (kd:=kd) (es:=es) (l:=l) (i:=i + 1) (by simpa using hl) (fun i q d hi => by simpa using h (i + 1) q d (by simpa using hi))
    simp only [Instr.findNow,h2,Instr.sameNow,if_true,mapSet]
    by_cases hq : q = k
    · subst hq
      exact .inr ⟨0,e.val,e,by simp,rfl,h2,by simp⟩
    · have e1 : (k == q) = false:=by simpa using fun h => hq h.symm
      rw [e1,if_neg hq]
      rcases ih with ⟨i1,i2⟩ | ⟨j,w,old,i1,i2,i3,i4⟩
      · exact .inl ⟨i1,by rw [i2]; rfl⟩
      · exact .inr ⟨j + 1,w,old,by rw [show i + (j + 1) = i + 1 + j by omega]; exact i1,by simpa using i2,i3,by rw [i4]; rfl⟩
theorem tr_setObj {b : Nat} {ob ob' : Obj} (hb : W.heap[b]? = some ob) (h : ∀ c t f,ob ≠ .cells c t f) : Tr (fun x => x = b) W { W with heap:=W.heap.setIfInBounds b ob' }:=by
  refine ⟨rfl,rfl,rfl,by simp,fun x _ hx => by rw [Array.getElem?_setIfInBounds]; rw [if_neg (Ne.symm hx)],fun x s hx => ?_⟩
  by_cases e : x = b
  · subst e
    unfold rowSize at hx
    rw [hb] at hx
    split at hx
    · rename_i c t e0
      injection e0 with e0
      exact absurd e0 (h c t (0,0))
    · cases hx
  · unfold rowSize at hx ⊢
    simp only
    rw [Array.getElem?_setIfInBounds,if_neg (Ne.symm e)]; exact hx
theorem setObj_get {b : Nat} {ob ob' : Obj} (hb : W.heap[b]? = some ob) : ({ W with heap:=W.heap.setIfInBounds b ob' } : World).heap[b]? = some ob':=by
  have:=(Array.getElem?_eq_some_iff.1 hb).1
  simp [this]
theorem run_keyStays {k : Int} : (Instr.keyThatStays (.int .i64 k) (.int .i64 k)).run P W = .ok (.int .i64 k) W:=by
  simp [Instr.keyThatStays,Instr.sameBits]
theorem s_mapup (hX : XMono X) {t kt e : TypeId} {kd : IntKind} {x y z : Operand} {x' y' z' : Opnd} {v : AV} {s s' : S} (hs0 : s.st = st) (hs1 : s.ext = ext) (ho : o.op = .mapUpdate t x y z) (hu : P.underlying t = some (.map kt e)) (hk : P.underlying kt = some (.int kd)) (hx : compO C x = some x') (hy : compO C y = some y') (hz : compO C z = some z')
    (S : St gb X m F L XO W st ext) (hr : OprOk C m F L W o a vars env) (h : aOp lo vars env s (.mapup x' y' z') = some (v,s')) :
    (Ok P ro o a W fun w W' => ∃ m' F' XO',Post gb X m F L XO W st v s'.st s'.ext w W' m' F' XO') ∧ s'.vars = s.vars:=by
  subst hs0; subst hs1
  have rx:=hr x x' (by rw [ho]; simp [Op.operands]) hx
  have ry:=hr y y' (by rw [ho]; simp [Op.operands]) hy
  have rz:=hr z z' (by rw [ho]; simp [Op.operands]) hz
  simp only [aOp] at h
  split at h
  · rename_i id k d e1 e2 e3
    split at h
    · rename_i es hg
      injection h with h; injection h with h1 h2; subst h1; subst h2
      refine ⟨?_,rfl⟩
      have hky : a.eval y = .int .i64 k:=by
        unfold keyI at e2
        split at e2
        · rename_i e; rw [e] at ry
          injection e2 with e2; subst e2
          exact imm_int ry
        · cases e2
      rw [e1] at rx
      rw [e3] at rz
      have hzv : RepD F W d (a.eval z):=by cases rz with | imm _ _ h => exact h
      obtain ⟨b,hm,hxv⟩ : ∃ b,m id = some b ∧ a.eval x = .map (some b):=by
        generalize a.eval x = w at rx
        cases rx with | map _ b h => exact ⟨b,h,rfl⟩
      have hF:=live_nF S hg hm rfl
      obtain ⟨ents,clock,hb,hl,hents⟩:=row_rel S hg hm (by simp)
      have hgo : (getObj b).run P W = .ok (.map ents clock) W:=by simp [getObj,Sem.run,hb]
      have hso : ∀ ob,(setObj b ob).run P W = .ok () { W with heap:=W.heap.setIfInBounds b ob }:=fun ob => by simp [setObj,Sem.run,hb]
      have hchk : (Instr.checkKey false 10000 kt (.int .i64 k)).run P W = .ok () W:=run_checkKey (d:=9999) hk
      have mono : ∀ {ob : Obj} {v : D} {w : Value},RepD F W v w → RepD F { W with heap:=W.heap.setIfInBounds b ob } v w:=fun {ob} _ _ h =>
        h.mono (fun _ h => h) (fun x hx => (tr_setObj (ob':=ob) hb (by simp)).keep x (S.R.hF x hx) fun e => hF (e ▸ hx))
      rcases findNow_set (k:=k) (v:=d) (kd:=kd) (es:=es) (l:=ents.toList) (i:=0) (by simpa using hl) (fun i q d hi => by obtain ⟨e,h1,h2,_⟩:=hents i q d hi; exact ⟨e,by simpa using h1,h2⟩) with ⟨h1,h2⟩ | ⟨j,w,old,h1,h2,h3,h4⟩
      · refine Ok.skip (W':={ W with heap:=W.heap.setIfInBounds b (.map (ents.push { key:=.int .i64 k,val:=a.eval z,born:=clock }) (clock + 1)) }) (by rw [ho]; simp) ?_ (upd_post hX S hg rfl hm (tr_setObj hb (by simp)) ?_ (.junk _))
        · simp [execOp,ho,hxv,hky,Instr.mapUpdate,run_und hu,hgo,hchk,Instr.findKey,run_und hk,h1,hso]
        · refine ⟨_,_,setObj_get hb,by rw [h2]; simp [hl],fun i q d' hi => ?_⟩
          rw [h2] at hi
          by_cases hlt : i < es.length
          · rw [List.getElem?_append_left hlt] at hi
            obtain ⟨e',p1,p2,p3⟩:=hents i q d' hi
            exact ⟨e',by rw [Array.getElem?_push_lt (by omega)]; rw [Array.getElem?_eq_getElem (by omega)] at p1; exact p1,p2,mono p3⟩
          · rw [List.getElem?_append_right (by omega)] at hi
            have hi0 : i - es.length = 0:=by have:=(List.getElem?_eq_some_iff.1 hi).1; simp at this; omega
            rw [hi0] at hi
            simp only [List.getElem?_cons_zero,Option.some.injEq,Prod.mk.injEq] at hi
            obtain ⟨rfl,rfl⟩:=hi
            have hie : i = ents.size:=by omega
            subst hie
            exact ⟨_,Array.getElem?_push_size,rfl,mono hzv⟩
      · rw [Nat.zero_add] at h1
        have hold : ents[j]? = some old:=by simpa using h2
        refine Ok.skip (W':={ W with heap:=W.heap.setIfInBounds b (.map (ents.modify j fun e => { e with key:=.int .i64 k,val:=a.eval z }) clock) }) (by rw [ho]; simp) ?_ (upd_post hX S hg rfl hm (tr_setObj hb (by simp)) ?_ (.junk _))
        · simp [execOp,ho,hxv,hky,Instr.mapUpdate,run_und hu,hgo,hchk,Instr.findKey,run_und hk,h1,hold,h3,run_keyStays,hso]
        · refine ⟨_,_,setObj_get hb,by rw [h4]; simp [hl],fun i q d' hi => ?_⟩
          rw [h4] at hi
          by_cases hij : i = j
          · subst hij
            have hlt : i < es.length:=by rw [← hl]; exact (Array.getElem?_eq_some_iff.1 hold).1
            rw [List.getElem?_set_self hlt] at hi
            simp only [Option.some.injEq,Prod.mk.injEq] at hi
            obtain ⟨rfl,rfl⟩:=hi
            exact ⟨{ old with key:=.int .i64 k,val:=a.eval z },by simp [Array.getElem?_modify,hold],rfl,mono hzv⟩
          · rw [List.getElem?_set_ne (Ne.symm hij)] at hi
            obtain ⟨e',p1,p2,p3⟩:=hents i q d' hi
            exact ⟨e',by rw [Array.getElem?_modify,if_neg (Ne.symm hij)]; exact p1,p2,mono p3⟩
    · cases h
  · cases h
theorem s_range (hX : XMono X) {t : TypeId} {x : Operand} {x' : Opnd} {v : AV} {s s' : S} (hs0 : s.st = st) (hs1 : s.ext = ext) (ho : o.op = .range t x) (hu : P.underlying t = some .string) (hx : compO C x = some x')
    (S : St gb X m F L XO W st ext) (hr : OprOk C m F L W o a vars env) (h : aOp lo vars env s (.range x') = some (v,s')) :
    (Ok P ro o a W fun w W' => ∃ m' F' XO',Post gb X m F L XO W st v s'.st s'.ext w W' m' F' XO') ∧ s'.vars = s.vars:=by
  subst hs0; subst hs1
  have rx:=hr x x' (by rw [ho]; simp [Op.operands]) hx
  simp only [aOp] at h
  split at h
  · rename_i b e1
    injection h with h; injection h with h1 h2; subst h1; subst h2
    refine ⟨?_,rfl⟩
    rw [e1] at rx
    have hxv : a.eval x = .string b:=by
      generalize a.eval x = w at rx
      cases rx with | imm _ _ h => cases h; rfl
    have hf : m s.st.length = none:=by
      cases h : m s.st.length with
      | none => rfl
      | some b => have:=S.up _ b h; omega
    refine Ok.val (v:=.pointer (some ⟨W.heap.size,0,none⟩)) (W':=pushO W (.stringIter b 0)) (by rw [ho]; simp) ?_ (QPost.post hX S (QPost.new S.R hf (push_new W _) (.ptr _ _ _ (by simp [addM]))))
    simp [execOp,ho,Instr.range,run_und hu,hxv,pushD]
  · cases h
theorem s_next (hX : XMono X) {x : Operand} {x' : Opnd} {v : AV} {s s' : S} (hs0 : s.st = st) (hs1 : s.ext = ext) (ho : o.op = .next x true) (hx : compO C x = some x')
    (S : St gb X m F L XO W st ext) (hr : OprOk C m F L W o a vars env) (h : aOp lo vars env s (.next x') = some (v,s')) :
    (Ok P ro o a W fun w W' => ∃ m' F' XO',Post gb X m F L XO W st v s'.st s'.ext w W' m' F' XO') ∧ s'.vars = s.vars:=by
  subst hs0; subst hs1
  have rx:=hr x x' (by rw [ho]; simp [Op.operands]) hx
  simp only [aOp] at h
  split at h
  · rename_i id e1
    rw [e1] at rx
    obtain ⟨b,hm,hxv⟩ : ∃ b,m id = some b ∧ a.eval x = .pointer (some ⟨b,0,none⟩):=by
      generalize a.eval x = w at rx
      cases rx with | ptr _ _ b h => exact ⟨b,h,rfl⟩
    split at h
    · rename_i str pos hg
      have hb : W.heap[b]? = some (.stringIter str pos):=row_rel S hg hm (by simp)
      have hgo : (getObj b).run P W = .ok (.stringIter str pos) W:=by simp [getObj,Sem.run,hb]
      have hso : ∀ ob,(setObj b ob).run P W = .ok () { W with heap:=W.heap.setIfInBounds b ob }:=fun ob => by simp [setObj,Sem.run,hb]
      split at h
      · rename_i hlt
        injection h with h; injection h with h1 h2; subst h1; subst h2
        refine ⟨?_,rfl⟩
        refine Ok.val (v:=.tuple #[.bool true,goInt pos,.int .i32 (Utf8.decode str pos).1]) (W':={ W with heap:=W.heap.setIfInBounds b (.stringIter str (pos + (Utf8.decode str pos).2)) }) (by rw [ho]; simp) ?_ (upd_post hX S hg rfl hm (tr_setObj hb (by simp)) (setObj_get hb) ?_)
        · simp [execOp,ho,hxv,Instr.next,hgo,hlt,hso]
        · refine .imm _ _ (.tup _ _ (by simp) fun j d hj => ?_)
          rcases j with _ | _ | _ | j
          · simp at hj; subst hj; exact .bool _
          · simp at hj; subst hj; exact .int _ _
          · simp at hj; subst hj; exact .int _ _
          · simp at hj
      · rename_i hlt
        injection h with h; injection h with h1 h2; subst h1; subst h2
        refine ⟨?_,rfl⟩
        refine Ok.val (v:=.tuple #[.bool false]) (W':=W) (by rw [ho]; simp) ?_ (keep_post hX S ?_)
        · simp [execOp,ho,hxv,Instr.next,hgo,hlt]
        · refine .imm _ _ (.tup _ _ (by simp) fun j d hj => ?_)
          rcases j with _ | j
          · simp at hj; subst hj; exact .bool _
          · simp at hj
    · cases h
  · cases h
end
end Go.Vm

/- Soundness: what is written no more from a call on. -/
namespace Go.Vm
open Go
section
variable {P : Program} {gb : Nat → Option (List D)} {X : XT} {C : Ctx} {o : Oper} {a : Act} {W W' : World} {m m2 : Nat → Option Nat} {F F1 F2 : Nat → Prop} {L : Option Nat} {XO : Nat → Prop} {st : List AO} {ext : Option Ext} {vars env : List AV} {nid : Nat} {ro : Option Nat} {lo : Lower}
structure Frz (gb : Nat → Option (List D)) (X : XT) (m : Nat → Option Nat) (F : Nat → Prop) (L : Option Nat) (XO : Nat → Prop) (W : World) (st : List AO) (ext : Option Ext) (l : List Nat) (st2 : List AO) (F1 : Nat → Prop) : Prop where
  hF : ∀ b,F b → F1 b
  nF : ∀ b,F1 b → F b ∨ own m (sto st) b
  ids : ∀ i ∈ l,∀ b,m i = some b → F1 b
  s : St gb X m F1 L XO W st2 ext
  ow : ∀ b,own m (sto st2) b → own m (sto st) b
  len : st2.length = st.length
theorem frz_step (hX : XMono X) {i : Nat} {ob : AO} (S : St gb X m F L XO W st ext) (h : frozenO (st.getD i .dead) = some ob) : ∃ F1,Frz gb X m F L XO W st ext [i] (st.set i ob) F1:=by
  have hst : sto st i = st.getD i .dead:=rfl
  have hne : sto st i ≠ .dead:=by rw [hst]; intro e; rw [e] at h; cases h
  have hlt:=sto_lt hne
  obtain ⟨b,hm,hO⟩:=S.R.hs i hne
  have hlvo : lv ob = false:=by
    unfold frozenO at h
    split at h
    · rw [Option.map_eq_some_iff] at h; obtain ⟨_,_,rfl⟩:=h; rfl
    · injection h with h; subst h; rfl
    · injection h with h; subst h; rfl
    · injection h with h; subst h; rfl
    · cases h
  have hob : ∀ F1 : Nat → Prop,(∀ b,F b → F1 b) → F1 b → RelO m F1 L W b ob:=by
    intro F1 hF hb
    have hO':=hO.mono (m':=m) (fun _ _ h => h) hF (fun _ _ => rfl) (fun _ _ h => h) rfl
    rw [hst] at hO'
    revert hO'
    generalize st.getD i .dead = x at h
    intro hO'
    unfold frozenO at h
    split at h
    · rename_i cs
      rw [Option.map_eq_some_iff] at h
      obtain ⟨ds,hds,rfl⟩:=h
      have:=dsOf_some hds
      subst this
      obtain ⟨c,t,h1,h2,h3,h4⟩:=hO'
      refine ⟨c,t,h1,by simpa using h2,by simpa using h3,hb,fun j d hj => ?_⟩
      have:=h4 j (.imm d) (by simp [hj])
      cases this with | imm _ _ h => exact h
    · injection h with h; subst h
      obtain ⟨c,t,h1,h2,h3,h4,h5⟩:=hO'
      exact ⟨c,t,h1,h2,h3,h4,hb,h5⟩
    · injection h with h; subst h; exact hO'
    · injection h with h; subst h; exact hO'
    · cases h
  cases hlv : lv (sto st i) with
  | true =>
    have hown : own m (sto st) b:=⟨i,hlv,hm⟩
    have hbF : ¬ F b:=S.R.nF i b hlv hm
    have hothne : ∀ j b',lv (sto (st.set i .dead) j) = true → m j = some b' → b' ≠ b:=by
      intro j b' hj h1 e
      subst e
      have hji : j ≠ i:=by
        intro e; rw [e,sto_set,if_pos ⟨rfl,hlt⟩] at hj; cases hj
      rw [sto_set,if_neg (fun h => hji h.1)] at hj
      exact hji (S.R.inj j i b' hj hlv h1 hm)
    have R1 : Rel gb m (fun x => F x ∨ x = b) L W (sto (st.set i .dead)) :=
      Rel.mono (m':=m) (F':=fun x => F x ∨ x = b) (rel_kill S.R i) (Tr.refl (fun _ => False) W) (fun _ _ h => h) S.R.hm (fun _ h => .inl h) (fun x hx => hx.elim (S.R.hF x) fun e => e ▸ S.R.hm i b hm) (fun _ _ _ _ h => h) (fun _ _ h => h)
        (fun j b' hj h1 hc => hc.elim ((rel_kill S.R i).nF j b' hj h1) fun e => hothne j b' hj h1 e)
    have R2:=rel_set R1 hlt hm (hob _ (fun _ h => .inl h) (.inr rfl)) (fun h => by rw [hlvo] at h; cases h) (fun j hj h => hothne j b hj h rfl)
    have howl : ∀ b',own m (sto (st.set i ob)) b' → own m (sto st) b':=by
      rintro b' ⟨j,h1,h2⟩
      rw [sto_set] at h1
      split at h1
      · rw [hlvo] at h1; cases h1
      · exact ⟨j,h1,h2⟩
    refine ⟨fun x => F x ∨ x = b,fun _ h => .inl h,fun x hx => hx.elim .inl fun e => .inr (e ▸ hown),fun j hj b' hb' => ?_,⟨R2,fun j b' h => by rw [List.length_set]; exact S.up j b' h,S.x.mono (m:=m) (m':=m) hX (O:=fun x => x = b) ⟨fun _ _ h => h,fun _ h => .inl h,fun x hx => hx.elim .inl fun e => .inr (.inl e),Tr.refl _ W⟩ (fun x hx => ⟨S.R.hF x hx,fun e => hbF (e ▸ hx)⟩) (fun x hx e => S.ap b hown (e ▸ hx)) R2.hF,fun b' hb => S.ap b' (howl b' hb)⟩,howl,by simp⟩
    simp at hj; subst hj
    rw [hm] at hb'; injection hb' with hb'; exact .inr hb'.symm
  | false =>
    have hFb : F b:=by
      cases hob2 : sto st i with
      | dead => exact absurd hob2 hne
      | fbox cs => rw [hob2] at hO; obtain ⟨_,_,_,_,_,h,_⟩:=hO; exact h
      | farr sz es => rw [hob2] at hO; obtain ⟨_,_,_,_,_,_,h,_⟩:=hO; exact h
      | _ => rw [hob2] at hlv; cases hlv
    have hsame : st.set i ob = st:=by
      refine set_same ?_
      have : st[i]? = some (sto st i):=by
        rw [List.getElem?_eq_getElem hlt]
        simp [sto,List.getD_eq_getElem?_getD,hlt]
      rw [this]
      rw [← hst] at h
      cases hob2 : sto st i with
      | fbox cs => rw [hob2] at h; exact h
      | farr sz es => rw [hob2] at h; exact h
      | dead => exact absurd hob2 hne
      | _ => rw [hob2] at hlv; cases hlv
    rw [hsame]
    refine ⟨F,fun _ h => h,fun _ h => .inl h,fun j hj b' hb' => ?_,S,fun _ h => h,rfl⟩
    simp at hj; subst hj
    rw [hm] at hb'; injection hb' with hb'; exact hb' ▸ hFb
theorem frz_all (hX : XMono X) : ∀ {l : List Nat} {st2 : List AO},St gb X m F L XO W st ext → freeze st l = some st2 → ∃ F1,Frz gb X m F L XO W st ext l st2 F1
  | [],st2,S,h => by
    simp only [freeze,Option.some.injEq] at h; subst h
    exact ⟨F,fun _ h => h,fun _ h => .inl h,by simp,S,fun _ h => h,rfl⟩
  | i :: r,st2,S,h => by
    unfold freeze at h
    split at h
    · rename_i st1 h1
      obtain ⟨F1,K⟩:=frz_all hX S h1
      split at h
      · rename_i ob hob
        injection h with h; subst h
        obtain ⟨F2,K2⟩:=frz_step hX K.s hob
        refine ⟨F2,fun b hb => K2.hF b (K.hF b hb),fun b hb => ?_,fun j hj b hb => ?_,K2.s,fun b hb => K.ow b (K2.ow b hb),K2.len.trans K.len⟩
        · rcases K2.nF b hb with h | h
          · exact K.nF b h
          · exact .inr (K.ow b h)
        · rcases List.mem_cons.1 hj with e | hj
          · exact K2.ids j (by simp [e]) b hb
          · exact K2.hF b (K.ids j hj b hb)
      · cases h
    · cases h
theorem Frz.post {l : List Nat} {st2 st' : List AO} {ext' : Option Ext} {v : AV} {w : Value} (K : Frz gb X m F L XO W st ext l st2 F1) (h : ∃ m' F' XO',Post gb X m F1 L XO W st2 v st' ext' w W' m' F' XO') : ∃ m' F' XO',Post gb X m F L XO W st v st' ext' w W' m' F' XO':=by
  obtain ⟨m',F',XO',p⟩:=h
  have hoA : ∀ b,ownA m st2 XO b → ownA m st XO b:=fun b hb => hb.imp (K.ow b) id
  refine ⟨m',F',XO',⟨p.gr.hm,fun b hb => p.gr.hF b (K.hF b hb),fun b hb => ?_,p.gr.tr.mono fun b _ h => hoA b h⟩,p.s,p.rv,fun b hb => (p.ow b hb).imp (K.ow b) id,p.xo,p.rg⟩
  rcases p.gr.nF b hb with h | h | h
  · exact (K.nF b h).imp id fun h => .inl (.inl h)
  · exact .inr (.inl (hoA b h))
  · exact .inr (.inr h)
theorem s_callP (H : LowerOk P gb X lo) {c : Call} {x : Operand} {x' : Opnd} {args' : List Opnd} {f : FuncId} {p q : List AV} {ds : List D} {d : D} {st2 : List AO} (ho : o.op = .call c) (hc : c.callee = .value x) (hx : compO C x = some x') (ha : compL C c.args.toList = some args')
    (S : St gb X m F L XO W st ext) (hr : OprOk C m F L W o a vars env) (hf : fnOf (opnd vars env x') = some (f,p,q)) (hd : deepL st (p ++ opnds vars env args' ++ q) = some ds) (hcall : callP lo f ds = some d) (hz : freeze st (idsL (p ++ opnds vars env args' ++ q)) = some st2) :
    Ok P ro o a W fun w W' => ∃ m' F' XO',Post gb X m F L XO W st (.imm d) st2 ext w W' m' F' XO':=by
  obtain ⟨vx,vy,e,h1,h2⟩:=call_args ho hc hx ha hr hf
  obtain ⟨F1,K⟩:=frz_all H.xm S hz
  obtain ⟨h3,h4⟩:=deep_reps (stL:=sto st) (st:=st) S.R (F':=F1) K.hF _ _ ds hd h2 (fun _ _ _ => rfl) K.ids
  refine Ok.enter (by rw [ho]; simp) (run_callV ho hc e (callP_ent H hcall)) (callP_core H hcall K.s.R (fun _ h => h) K.s.R.hF (by omega) h4) fun en w ⟨r,F2,e1,T,k1,k2,k3,k4⟩ => ⟨r,e1,K.post ?_⟩
  have:=QPost.post (v:=.imm d) (news:=[]) (w:=r) (W':=w) H.xm K.s ⟨m,F2,⟨fun _ _ h => h,k1,fun b hb => (k2 b hb).elim .inl fun h => .inr (.inr h),T⟩,?_,.imm _ _ k4,fun _ _ h => .inl h⟩
  · rwa [List.append_nil] at this
  · rw [put_nil]
    exact Rel.mono K.s.R T (fun _ _ h => h) (fun i b hi => by have:=S.R.hm i b hi; have:=T.size; omega) k1 k3 (fun _ _ _ _ h => h) (fun _ _ h => h) fun i b hl hi hcc => by
      rcases k2 b hcc with h | h
      · exact K.s.R.nF i b hl hi h
      · have:=S.R.hm i b hi; omega
theorem s_callI (H : LowerOk P gb X lo) {c : Call} {x : Operand} {x' : Opnd} {args' : List Opnd} {f : FuncId} {p q : List AV} {ds : List D} {v : AV} {news st2 : List AO} (ho : o.op = .call c) (hc : c.callee = .value x) (hx : compO C x = some x') (ha : compL C c.args.toList = some args')
    (S : St gb X m F L XO W st ext) (hr : OprOk C m F L W o a vars env) (hf : fnOf (opnd vars env x') = some (f,p,q)) (hd : deepL st (p ++ opnds vars env args' ++ q) = some ds) (hcall : callI lo f ds = some (v,news)) (hz : freeze st (idsL (p ++ opnds vars env args' ++ q)) = some st2) :
    Ok P ro o a W fun w W' => ∃ m' F' XO',Post gb X m F L XO W st (ren (shiftM st.length) v) (st2 ++ news.map (renO (shiftM st.length))) ext w W' m' F' XO':=by
  obtain ⟨vx,vy,e,h1,h2⟩:=call_args ho hc hx ha hr hf
  obtain ⟨F1,K⟩:=frz_all H.xm S hz
  obtain ⟨h3,h4⟩:=deep_reps (stL:=sto st) (st:=st) S.R (F':=F1) K.hF _ _ ds hd h2 (fun _ _ _ => rfl) K.ids
  refine Ok.enter (by rw [ho]; simp) (run_callV ho hc e (callI_ent H hcall)) (callI_core H hcall K.s.R (fun _ h => h) K.s.R.hF (by omega) h4) fun en w ⟨r,m2,F2,e1,T,k1,k2,k3,k4,k5⟩ => ⟨r,e1,K.post ?_⟩
  have q:=QPost.put (nid:=st2.length) K.s.R T k1 k2 k3 k4 k5 (fun i hi _ => by
    cases h : m i with
    | none => rfl
    | some b => have:=K.s.up i b h; omega)
  have:=QPost.post H.xm K.s q
  rwa [K.len] at this
end
end Go.Vm

/- Soundness: a call of yield; a call that shares blocks. -/
namespace Go.Vm
open Go
section
variable {P : Program} {gb : Nat → Option (List D)} {X : XT} {C : Ctx} {o : Oper} {a : Act} {W W' : World} {m m2 : Nat → Option Nat} {F F1 F2 : Nat → Prop} {L : Option Nat} {XO : Nat → Prop} {st : List AO} {ext : Option Ext} {vars env : List AV} {nid : Nat} {ro : Option Nat} {lo : Lower}
theorem St.notO (S : St gb X m F L XO W st ext) {O : Nat → Prop} (hO : ∀ b,own m (sto st) b → ¬ O b) (hF : ∀ b,F b → ¬ O b) : ∀ i b,sto st i ≠ .dead → m i = some b → ¬ O b:=by
  intro i b hi h1
  cases hlv : lv (sto st i) with
  | true => exact hO b ⟨i,hlv,h1⟩
  | false =>
    obtain ⟨b2,h2,h3⟩:=S.R.hs i hi
    rw [h1] at h2; injection h2 with h2; subst h2
    cases hob : sto st i with
    | dead => exact absurd hob hi
    | fbox cs => rw [hob] at h3; obtain ⟨_,_,_,_,_,h,_⟩:=h3; exact hF b h
    | farr sz es => rw [hob] at h3; obtain ⟨_,_,_,_,_,_,h,_⟩:=h3; exact hF b h
    | _ => rw [hob] at hlv; cases hlv
theorem St.frzF (S : St gb X m F L XO W st ext) {i b : Nat} (hi : sto st i ≠ .dead) (hlv : lv (sto st i) = false) (h1 : m i = some b) : F b:=by
  obtain ⟨b2,h2,h3⟩:=S.R.hs i hi
  rw [h1] at h2; injection h2 with h2; subst h2
  cases hob : sto st i with
  | dead => exact absurd hob hi
  | fbox cs => rw [hob] at h3; obtain ⟨_,_,_,_,_,h,_⟩:=h3; exact h
  | farr sz es => rw [hob] at h3; obtain ⟨_,_,_,_,_,_,h,_⟩:=h3; exact h
  | _ => rw [hob] at hlv; cases hlv
theorem dsOf_get {vs : List AV} {ds : List D} (h : dsOf vs = some ds) {j : Nat} {d : D} (hj : ds[j]? = some d) : vs[j]? = some (.imm d):=by
  rw [dsOf_some h]; simp [hj]
theorem s_yield (H : LowerOk P gb X lo) {c : Call} {x : Operand} {x' : Opnd} {args' : List Opnd} {ds : List D} {e e' : Ext} {b : Bool} (ho : o.op = .call c) (hc : c.callee = .value x) (hx : compO C x = some x') (ha : compL C c.args.toList = some args')
    (S : St gb X m F L XO W st (some e)) (hr : OprOk C m F L W o a vars env) (hf : opnd vars env x' = .yield) (hd : dsOf (opnds vars env args') = some ds) (hcall : lo.round e ds = some (e',b)) :
    Ok P ro o a W fun w W' => ∃ m' F' XO',Post gb X m F L XO W st (.imm (.bool b)) st (some e') w W' m' F' XO':=by
  have rx:=hr x x' (by rw [ho]; simp [Op.operands,Call.operands,hc]) hx
  rw [hf] at rx
  obtain ⟨l,hL,hxv⟩ : ∃ l,L = some l ∧ a.eval x = .func (.yield l) #[] #[]:=by
    generalize a.eval x = w at rx
    cases rx with | yield l h => exact ⟨l,h,rfl⟩
  subst hL
  obtain ⟨h3,h4⟩:=rep_opnds (a:=a) (m:=m) (F:=F) (L:=some l) (W:=W) (vars:=vars) (env:=env) ha fun z z' hz hcz => hr z z' (by rw [ho]; simp only [Op.operands,Call.operands,hc,Array.mem_append]; exact .inr (by simpa using hz)) hcz
  have hsz : (c.args.map a.eval).size = ds.length:=by rw [h3,dsOf_some hd]; simp
  obtain ⟨hX,hXO⟩:=S.x
  obtain ⟨fn,tmps,asg,body,hy,hround⟩:=H.round hcall hX hXO S.R.hF hsz fun j d hj => by
    have:=h4 j _ (dsOf_get hd hj)
    cases this with | imm _ _ h => exact h
  have hexec : (execOp a.eval o).run P W = .ok (.round l fn tmps asg body) W:=by
    simp only [execOp,ho,resolve,hc,Deferred.ofValue,hxv,pure_bind,invoke,Array.empty_append]
    exact hy
  intro next Q hn
  refine ⟨fun f _ => fen_fn ro f,?_⟩
  rw [Oper.semAt_eq _ _ _ (by rw [ho]; simp),hexec]
  refine ⟨fun hs => by rw [fen_depth] at hs; simp at hs,?_⟩
  have hr2 : ∀ {R : Ending → World → Prop},RoundIn Fence.wide 0 P l fn tmps asg body W R → RoundIn (fen ro) 0 P l fn tmps asg body W R:=by
    intro R h
    cases ro with
    | none => exact h
    | some r => exact h
  refine (hr2 hround).mono fun en w hen => ?_
  obtain ⟨F',XO',rfl,G,k1,k2,k3,k4⟩:=hen
  refine hn (.bool b) w ⟨m,F',XO',?_⟩
  have R' : Rel gb m F' (some l) w (sto st):=Rel.mono S.R G.tr (fun _ _ h => h) (fun i b hi => by have:=S.R.hm i b hi; have:=G.tr.size; omega) G.hF k3 (S.notO S.ap fun b hb hc => (hXO b hc).2 hb) (fun b hb hc => (hXO b hc).2 hb) fun i b hl hi hcc => by
    rcases G.nF b hcc with h | h | h
    · exact S.R.nF i b hl hi h
    · exact S.ap b ⟨i,hl,hi⟩ h
    · have:=S.R.hm i b hi; omega
  refine ⟨⟨fun _ _ h => h,G.hF,fun b hb => (G.nF b hb).imp id (Or.imp .inr id),G.tr.mono fun b _ h => .inr h⟩,⟨R',S.up,⟨k1,k2⟩,fun b hb hx => ?_⟩,rbool b,fun b hb => .inl hb,k4,fun i b hi => .inl ⟨i,hi⟩⟩
  rcases k4 b hx with h | h
  · exact S.ap b hb h
  · obtain ⟨i,_,hi⟩:=hb
    have:=S.R.hm i b hi; omega
def backM (l : List Nat) (n : Nat) (j : Nat) : Option Nat:=if j < l.length then l[j]? else some (n + (j - l.length))
theorem sh_post {l : List Nat} {v : AV} {st2 : List AO} {w : Value} {mc : Nat → Option Nat} (S : St gb X m F none XO W st none) (hn : l.Nodup) (hlt : ∀ i ∈ l,i < st.length)
    (T : Tr (own (fun j : Nat => (l[j]?).bind m) (sto (pickSt (idx l) l st))) W W') (hm2 : ∀ (j b : Nat),(l[j]?).bind m = some b → mc j = some b) (hF : ∀ b,F b → F2 b) (hF2 : ∀ b,F2 b → F b ∨ own (fun j : Nat => (l[j]?).bind m) (sto (pickSt (idx l) l st)) b ∨ W.heap.size ≤ b)
    (R2 : Rel gb mc F2 none W' (sto st2)) (hlen : l.length ≤ st2.length) (hup : ∀ i b,mc i = some b → i < st2.length) (hv : RepA mc F2 none W' v w)
    (how : ∀ b,own mc (sto st2) b → own (fun j : Nat => (l[j]?).bind m) (sto (pickSt (idx l) l st)) b ∨ W.heap.size ≤ b) (hrg : ∀ (i b : Nat),mc i = some b → (∃ j : Nat,(l[j]?).bind m = some b) ∨ W.heap.size ≤ b) :
    ∃ m' F' XO',Post gb X m F none XO W st (ren (backM l st.length) v) (((List.range st.length).map fun i => match idx l i with
      | some j => renO (backM l st.length) (st2.getD j .dead)
      | none => st.getD i .dead) ++ (st2.drop l.length).map (renO (backM l st.length))) none w W' m' F' XO':=by
  have ownc : ∀ b,own (fun j : Nat => (l[j]?).bind m) (sto (pickSt (idx l) l st)) b → ∃ i ∈ l,lv (sto st i) = true ∧ m i = some b:=by
    rintro b ⟨j,h1,h2⟩
    rw [sto_pick] at h1
    cases hj : l[j]? with
    | none => rw [hj] at h1; cases h1
    | some i =>
      rw [hj] at h1
      simp only [lv_renO] at h1
      simp only [hj,Option.bind_some] at h2
      exact ⟨i,List.mem_of_getElem? hj,h1,h2⟩
  have ownm : ∀ b,own (fun j : Nat => (l[j]?).bind m) (sto (pickSt (idx l) l st)) b → own m (sto st) b:=fun b hb => let ⟨i,_,h1,h2⟩:=ownc b hb; ⟨i,h1,h2⟩
  have mem : ∀ i,idx l i = none ↔ i ∉ l:=by
    intro i
    constructor
    · intro h hi
      obtain ⟨j,hj,e⟩:=List.getElem_of_mem hi
      have:=idx_of hn (j:=j) (i:=i) (by rw [List.getElem?_eq_getElem hj,e])
      rw [h] at this; cases this
    · intro h
      cases h2 : idx l i with
      | none => rfl
      | some j => exact absurd (List.mem_of_getElem? (idx_get h2)) h
  obtain ⟨m',hm'⟩ : ∃ m' : Nat → Option Nat,m' = fun i => if i < st.length then (match idx l i with | some j => mc j | none => m i) else mc (l.length + (i - st.length)):=⟨_,rfl⟩
  have m'in : ∀ i j,idx l i = some j → m' i = mc j:=fun i j h => by
    have:=hlt i (List.mem_of_getElem? (idx_get h))
    rw [hm']; simp only [this,if_true,h]
  have m'out : ∀ i,i < st.length → idx l i = none → m' i = m i:=fun i h1 h2 => by rw [hm']; simp only [h1,if_true,h2]
  have m'new : ∀ k,m' (st.length + k) = mc (l.length + k):=fun k => by rw [hm']; simp only [show ¬ (st.length + k < st.length) by omega,if_false,Nat.add_sub_cancel_left]
  have back : ∀ j i b,backM l st.length j = some i → mc j = some b → m' i = some b:=by
    intro j i b h1 h2
    unfold backM at h1
    split at h1
    · rw [m'in i j (idx_of hn h1)]; exact h2
    · rename_i hj
      injection h1 with h1; subst h1
      rw [m'new]
      rw [show l.length + (j - l.length) = j by omega]; exact h2
  obtain ⟨stF,hstF⟩ : ∃ stF : List AO,stF = (((List.range st.length).map fun i => match idx l i with
      | some j => renO (backM l st.length) (st2.getD j .dead)
      | none => st.getD i .dead) ++ (st2.drop l.length).map (renO (backM l st.length))):=⟨_,rfl⟩
  rw [← hstF]
  have lenF : stF.length = st.length + (st2.length - l.length):=by rw [hstF]; simp
  have gin : ∀ i j,idx l i = some j → sto stF i = renO (backM l st.length) (sto st2 j):=by
    intro i j h
    have hi:=hlt i (List.mem_of_getElem? (idx_get h))
    rw [hstF]
    unfold sto
    rw [List.getD_eq_getElem?_getD,List.getElem?_append_left (by simpa using hi),List.getElem?_map,List.getElem?_range hi]
    simp only [Option.map_some,h,Option.getD_some]
  have gout : ∀ i,i < st.length → idx l i = none → sto stF i = sto st i:=by
    intro i hi h
    rw [hstF]
    unfold sto
    rw [List.getD_eq_getElem?_getD,List.getElem?_append_left (by simpa using hi),List.getElem?_map,List.getElem?_range hi]
    simp only [Option.map_some,h,Option.getD_some]
  have gnew : ∀ k,sto stF (st.length + k) = renO (backM l st.length) (sto st2 (l.length + k)):=by
    intro k
    rw [hstF]
    unfold sto
    simp only [List.getD_eq_getElem?_getD]
    rw [List.getElem?_append_right (by simp),List.getElem?_map,List.getElem?_drop]
    simp only [List.length_map,List.length_range,Nat.add_sub_cancel_left]
    cases st2[l.length + k]? <;> rfl
  -- each name is one of three kinds
  have kinds : ∀ i,(∃ j,j < l.length ∧ idx l i = some j) ∨ (i < st.length ∧ idx l i = none) ∨ ∃ k,i = st.length + k:=by
    intro i
    by_cases hi : i < st.length
    · cases h : idx l i with
      | none => exact .inr (.inl ⟨hi,rfl⟩)
      | some j => exact .inl ⟨j,(List.getElem?_eq_some_iff.1 (idx_get h)).1,rfl⟩
    · exact .inr (.inr ⟨i - st.length,by omega⟩)
  -- names that come from the callee,with its own number
  have fromC : ∀ i,¬ (i < st.length ∧ idx l i = none) → ∃ j,m' i = mc j ∧ sto stF i = renO (backM l st.length) (sto st2 j) ∧ backM l st.length j = some i:=by
    intro i hi
    rcases kinds i with ⟨j,hj,h⟩ | h | ⟨k,rfl⟩
    · exact ⟨j,m'in i j h,gin i j h,by unfold backM; rw [if_pos hj]; exact idx_get h⟩
    · exact absurd h hi
    · exact ⟨l.length + k,m'new k,gnew k,by unfold backM; rw [if_neg (by omega)]; congr 1; omega⟩
  have hext : ∀ i b,m i = some b → m' i = some b:=by
    intro i b hi
    have hi':=S.up i b hi
    cases h : idx l i with
    | none => rw [m'out i hi' h]; exact hi
    | some j => rw [m'in i j h]; exact hm2 j b (by simp [idx_get h,hi])
  have hm'lt : ∀ i b,m' i = some b → b < W'.heap.size:=by
    intro i b hi
    by_cases hk : i < st.length ∧ idx l i = none
    · rw [m'out i hk.1 hk.2] at hi
      have:=S.R.hm i b hi; have:=T.size; omega
    · obtain ⟨j,h1,_,_⟩:=fromC i hk
      rw [h1] at hi
      exact R2.hm j b hi
  -- the callee owns nothing of what was not handed over
  have apart : ∀ i b,i < st.length → idx l i = none → lv (sto st i) = true → m i = some b → ¬ own (fun j : Nat => (l[j]?).bind m) (sto (pickSt (idx l) l st)) b:=by
    intro i b hi h hlv hm hc
    obtain ⟨i2,h1,h2,h3⟩:=ownc b hc
    have:=S.R.inj i i2 b hlv h2 hm h3
    subst this
    exact (mem i).1 h h1
  have hFo : ∀ b,F b → ¬ own (fun j : Nat => (l[j]?).bind m) (sto (pickSt (idx l) l st)) b:=fun b hb hc => (S.ownF b hb).2 (ownm b hc)
  have hown' : ∀ b,own m' (sto stF) b → own m (sto st) b ∨ W.heap.size ≤ b:=by
    rintro b ⟨i,h1,h2⟩
    by_cases hk : i < st.length ∧ idx l i = none
    · rw [gout i hk.1 hk.2] at h1
      rw [m'out i hk.1 hk.2] at h2
      exact .inl ⟨i,h1,h2⟩
    · obtain ⟨j,k1,k2,_⟩:=fromC i hk
      rw [k2,lv_renO] at h1
      rw [k1] at h2
      exact (how b ⟨j,h1,h2⟩).imp (ownm b) id
  have RF : Rel gb m' F2 none W' (sto stF):=by
    refine ⟨fun g cs h => (S.R.gl g cs h).mono hF fun b hb => T.keep b (S.R.hF b hb) (hFo b hb),fun i hi => ?_,fun i j b hi hj h1 h2 => ?_,fun i b hi h1 => ?_,R2.hF,hm'lt⟩
    · by_cases hk : i < st.length ∧ idx l i = none
      · rw [gout i hk.1 hk.2] at hi ⊢
        obtain ⟨b,h1,h2⟩:=S.R.hs i hi
        refine ⟨b,by rw [m'out i hk.1 hk.2]; exact h1,h2.mono hext hF (fun x hx => T.keep x (S.R.hF x hx) (hFo x hx)) T.rows (T.keep b (S.R.hm i b h1) ?_)⟩
        cases hlv : lv (sto st i) with
        | true => exact apart i b hk.1 hk.2 hlv h1
        | false => exact hFo b (S.frzF hi hlv h1)
      · obtain ⟨j,k1,k2,k3⟩:=fromC i hk
        rw [k2] at hi ⊢
        obtain ⟨b,h1,h2⟩:=R2.hs j (fun h => hi (renO_dead.2 h))
        exact ⟨b,by rw [k1]; exact h1,renO_rel (fun p q c e1 e2 => back p q c e1 e2) h2⟩
    · have two : ∀ i j b,lv (sto stF i) = true → lv (sto stF j) = true → m' i = some b → m' j = some b → (i < st.length ∧ idx l i = none) → ¬ (j < st.length ∧ idx l j = none) → False:=by
        intro i j b hi hj h1 h2 hk hk2
        rw [gout i hk.1 hk.2] at hi
        rw [m'out i hk.1 hk.2] at h1
        obtain ⟨q,k1,k2,_⟩:=fromC j hk2
        rw [k2,lv_renO] at hj
        rw [k1] at h2
        rcases how b ⟨q,hj,h2⟩ with h | h
        · exact apart i b hk.1 hk.2 hi h1 h
        · have:=S.R.hm i b h1; omega
      by_cases hk : i < st.length ∧ idx l i = none
      · by_cases hk2 : j < st.length ∧ idx l j = none
        · rw [gout i hk.1 hk.2] at hi
          rw [m'out i hk.1 hk.2] at h1
          rw [gout j hk2.1 hk2.2] at hj
          rw [m'out j hk2.1 hk2.2] at h2
          exact S.R.inj i j b hi hj h1 h2
        · exact (two i j b hi hj h1 h2 hk hk2).elim
      · by_cases hk2 : j < st.length ∧ idx l j = none
        · exact (two j i b hj hi h2 h1 hk2 hk).elim
        · obtain ⟨q,k1,k2,k3⟩:=fromC i hk
          obtain ⟨q',k1',k2',k3'⟩:=fromC j hk2
          rw [k2,lv_renO] at hi
          rw [k1] at h1
          rw [k2',lv_renO] at hj
          rw [k1'] at h2
          have:=R2.inj q q' b hi hj h1 h2
          subst this
          rw [k3] at k3'
          exact Option.some.inj k3'
    · by_cases hk : i < st.length ∧ idx l i = none
      · rw [gout i hk.1 hk.2] at hi
        rw [m'out i hk.1 hk.2] at h1
        intro hc
        rcases hF2 b hc with h | h | h
        · exact S.R.nF i b hi h1 h
        · exact apart i b hk.1 hk.2 hi h1 h
        · have:=S.R.hm i b h1; omega
      · obtain ⟨j,k1,k2,_⟩:=fromC i hk
        rw [k2,lv_renO] at hi
        rw [k1] at h1
        exact R2.nF j b hi h1
  refine ⟨m',F2,XO,⟨hext,hF,fun b hb => (hF2 b hb).imp id (Or.imp (fun h => .inl (ownm b h)) id),T.mono fun b _ h => .inl (ownm b h)⟩,⟨RF,fun i b hi => ?_,S.x,fun b hb hx => S.x b hx⟩,ren_rep (fun p q c e1 e2 => back p q c e1 e2) hv,hown',fun b h => .inl h,fun i b hi => ?_⟩
  · by_cases hk : i < st.length ∧ idx l i = none
    · rw [lenF]; omega
    · rcases kinds i with ⟨j,hj,h⟩ | h | ⟨k,rfl⟩
      · have:=hlt i (List.mem_of_getElem? (idx_get h)); rw [lenF]; omega
      · exact absurd h hk
      · rw [m'new] at hi
        have:=hup _ b hi; rw [lenF]; omega
  · by_cases hk : i < st.length ∧ idx l i = none
    · rw [m'out i hk.1 hk.2] at hi; exact .inl ⟨i,hi⟩
    · obtain ⟨j,k1,_,_⟩:=fromC i hk
      rw [k1] at hi
      rcases hrg j b hi with ⟨j2,h⟩ | h
      · cases hj : l[j2]? with
        | none => simp [hj] at h
        | some i2 => simp only [hj,Option.bind_some] at h; exact .inl ⟨i2,h⟩
      · exact .inr h
theorem own_pick {l : List Nat} {s : List AO} {b : Nat} (h : own (fun j : Nat => (l[j]?).bind m) (sto (pickSt (idx l) l s)) b) : own m (sto s) b:=by
  obtain ⟨j,h1,h2⟩:=h
  rw [sto_pick] at h1
  cases hj : l[j]? with
  | none => rw [hj] at h1; cases h1
  | some i =>
    rw [hj] at h1
    simp only [lv_renO] at h1
    simp only [hj,Option.bind_some] at h2
    exact ⟨i,h1,h2⟩
theorem s_sh (H : LowerOk P gb X lo) {c : Call} {x : Operand} {x' : Opnd} {args' : List Opnd} {f : FuncId} {p q : List AV} {l : List Nat} {r : AV × List AO} (ho : o.op = .call c) (hc : c.callee = .value x) (hx : compO C x = some x') (ha : compL C c.args.toList = some args')
    (S : St gb X m F L XO W st ext) (hr : OprOk C m F L W o a vars env) (hf : fnOf (opnd vars env x') = some (f,p,q)) (hl : l = reach st 1000 [] (idsL (p ++ opnds vars env args' ++ q))) (hext : ext = none) (hlt : ∀ i ∈ l,i < st.length)
    (hcall : callS lo f (renL (idx l) (p ++ opnds vars env args' ++ q)) (pickSt (idx l) l st) = some r) :
    Ok P ro o a W fun w W' => ∃ m' F' XO',Post gb X m F L XO W st (ren (backM l st.length) r.1) (((List.range st.length).map fun i => match idx l i with
      | some j => renO (backM l st.length) (r.2.getD j .dead)
      | none => st.getD i .dead) ++ (r.2.drop l.length).map (renO (backM l st.length))) ext w W' m' F' XO':=by
  subst hext
  have hL : L = none:=by
    cases L with
    | none => rfl
    | some l => exact S.x.elim
  subst hL
  have hn : l.Nodup:=by rw [hl]; exact reach_nodup st _ _ _ (by simp)
  obtain ⟨vx,vy,e,h1,h2⟩:=call_args ho hc hx ha hr hf
  have hpl : (pickSt (idx l) l st).length = l.length:=by simp [pickSt]
  unfold callS at hcall
  split at hcall
  · rename_i v st' hlo
    injection hcall with hcall; subst hcall
    have Sc : St gb X (fun j : Nat => (l[j]?).bind m) F none (fun _ => False) W (pickSt (idx l) l st) none:=by
      refine ⟨pick_rel S.R hn,fun i b hi => ?_,fun _ h => h,fun _ _ h => h⟩
      rw [hpl]
      cases hj : l[i]? with
      | none => simp [hj] at hi
      | some j => exact (List.getElem?_eq_some_iff.1 hj).1
    refine Ok.enter (by rw [ho]; simp) (run_callV ho hc e (H.ent hlo)) (H.call hlo Sc (by rw [h1,renL_map]; simp) fun j d hj => ?_) fun en w hen => ?_
    · rw [renL_map,List.getElem?_map,Option.map_eq_some_iff] at hj
      obtain ⟨d0,h0,rfl⟩:=hj
      exact pick_rep (h2 j d0 h0)
    · obtain ⟨r,m3,F3,XO3,rfl,p3⟩:=hen
      refine ⟨r,rfl,?_⟩
      have hn2:=keep_nodup (pickSt (idx l) l st).length (idsL [v]) st'
      have hoA : ∀ b,ownA (fun j : Nat => (l[j]?).bind m) (pickSt (idx l) l st) (fun _ => False) b → own (fun j : Nat => (l[j]?).bind m) (sto (pickSt (idx l) l st)) b:=fun b hb => hb.elim id fun h => h.elim
      have hgc : (gc (pickSt (idx l) l st).length [v] st').1.headD .junk = ren (idx (keepIds (pickSt (idx l) l st).length (idsL [v]) st')) v:=by
        simp only [gc,renL_map,List.map_cons,List.map_nil,List.headD_cons]
      simp only
      rw [hgc]
      simp only [gc]
      refine sh_post (F2:=F3) (mc:=fun j : Nat => ((keepIds (pickSt (idx l) l st).length (idsL [v]) st')[j]?).bind m3) S hn hlt (p3.gr.tr.mono fun b _ h => hoA b h) (fun j b h => ?_) p3.gr.hF (fun b hb => (p3.gr.nF b hb).imp id (Or.imp (hoA b) id)) (pick_rel p3.s.R hn2) ?_ (fun i b hi => ?_) (pick_rep p3.rv)
        (fun b hb => p3.ow b (own_pick hb)) (fun i b hi => ?_)
      · have hj : j < (pickSt (idx l) l st).length:=by
          rw [hpl]
          cases hj : l[j]? with
          | none => simp [hj] at h
          | some i => exact (List.getElem?_eq_some_iff.1 hj).1
        simp only [keep_get hj,Option.bind_some]
        exact p3.gr.hm j b h
      · have:=keep_len (nb:=(pickSt (idx l) l st).length) (roots:=idsL [v]) (st:=st')
        simp only [pickSt,List.length_map] at this ⊢
        exact this
      · cases hj : (keepIds (pickSt (idx l) l st).length (idsL [v]) st')[i]? with
        | none => simp [hj] at hi
        | some j => have:=(List.getElem?_eq_some_iff.1 hj).1; simpa [pickSt] using this
      · cases hj : (keepIds (pickSt (idx l) l st).length (idsL [v]) st')[i]? with
        | none => simp [hj] at hi
        | some j => simp only [hj,Option.bind_some] at hi; exact p3.rg j b hi
  · cases hcall
end
end Go.Vm

/- Soundness: every operation,one after the other. -/
namespace Go.Vm
open Go
def isQ : IOp → Bool
  | .store _ _ _ | .append _ _ _ _ | .mapup _ _ _ | .copy _ _ _ | .clear _ _ | .range _ | .next _ | .call _ _ _ | .bslice _ _ _ _ _ => false
  | _ => true
def spec : Op → Bool
  | .store _ _ _ | .mapUpdate _ _ _ _ | .range _ _ | .next _ _ | .call _ | .buildSlice _ _ _ => true
  | _ => false
section
variable {P : Program} {gb : Nat → Option (List D)} {X : XT} {C : Ctx} {o : Oper} {a : Act} {W W' : World} {m m2 : Nat → Option Nat} {F F1 F2 : Nat → Prop} {L : Option Nat} {XO : Nat → Prop} {st : List AO} {ext : Option Ext} {vars env : List AV} {nid : Nat} {ro : Option Nat} {lo : Lower}
theorem quiet_of {op : IOp} (hc : compOp P C o = some op) (hs : spec o.op = false) : isQ op = true:=by
  unfold compOp at hc
  split at hc
  all_goals (try (rename_i ho; rw [ho] at hs; simp [spec] at hs; done))
  all_goals (repeat' first | (cases hc; done) | (subst hc; rfl) | (obtain ⟨_,_,hc⟩:=hc) | (simp only [bind,Option.bind_eq_some_iff,Option.map_eq_some_iff,Option.some.injEq] at hc; done) | (simp only [bind,Option.bind_eq_some_iff,Option.map_eq_some_iff,Option.some.injEq] at hc) | split at hc)
  all_goals rfl
theorem aOp_quiet {s : S} {op : IOp} (h : isQ op = true) : aOp lo vars env s op = match aQ lo vars env s.st s.st.length op with
    | some (v,news) => some (v,{ s with st:=s.st ++ news })
    | none => none:=by
  cases op <;> first | rfl | cases h
theorem opnd_map {f : AV → AV} (h0 : f .junk = .junk) (h1 : ∀ d,f (.imm d) = .imm d) (vars env : List AV) (x : Opnd) : opnd (vars.map f) (env.map f) x = f (opnd vars env x):=by
  have key : ∀ (l : List AV) (i : Nat),(l.map f).getD i .junk = f (l.getD i .junk):=by
    intro l i
    simp only [List.getD_eq_getElem?_getD,List.getElem?_map]
    cases l[i]? with
    | none => simp [h0]
    | some v => simp
  cases x with
  | var i => exact key vars i
  | loc i => exact key env i
  | k d => exact (h1 d).symm
theorem fz_rep {F1 : Nat → Prop} {st2 : List AO} (R : Rel gb m F1 L W (sto st2)) {v : AV} {w : Value} (h : RepA m F1 L W v w) : RepA m F1 L W (fz st2 v) w:=by
  unfold fz
  split
  · rename_i hz
    split
    · rename_i d hd
      exact .imm _ _ (deep_rep (stL:=sto st2) (st:=st2) R (fun _ h => h) v w d hd h (fun _ _ _ => rfl) (frz_in R hz fun _ _ _ => rfl))
    · exact h
  · exact h
theorem s_bslice (H : LowerOk P gb X lo) {s s' : S} {op : IOp} {own : Bool} {sz n : Nat} {z : List D} {ps : List (Nat × Opnd)} {v : AV} (hop : op = .bslice own sz z n ps) (hc : compOp P C o = some op) (S : St gb X m F L XO W s.st s.ext) (hr : OprOk C m F L W o a vars env) (h : aOp lo vars env s op = some (v,s')) :
    (Ok P ro o a W fun w W' => ∃ m' F' XO',Post gb X m F L XO W s.st v s'.st s'.ext w W' m' F' XO') ∧ s'.vars = s.vars:=by
  subst hop
  simp only [aOp] at h
  split at h
  · rename_i st2 hz
    split at h
    · rename_i v' news hv
      simp only [Option.some.injEq,Prod.mk.injEq] at h
      obtain ⟨rfl,rfl⟩:=h
      refine ⟨?_,rfl⟩
      obtain ⟨F1,K⟩:=frz_all H.xm S hz
      have e0 : fz st2 .junk = .junk:=by simp [fz,ids,isFrz,deep]
      have e1 : ∀ d,fz st2 (.imm d) = .imm d:=by intro d; simp [fz,ids,isFrz,deep]
      have hq : aQ lo (vars.map (fz st2)) (env.map (fz st2)) st2 st2.length (.bslice own sz z n ps) = some (v',news):=by
        simp only [aQ,opnd_map e0 e1]
        exact hv
      have freeN : ∀ i,st2.length ≤ i → i < st2.length + news.length → m i = none:=fun i hi _ => by
        cases hmi : m i with
        | none => rfl
        | some b => have:=K.s.up i b hmi; omega
      have hr' : OprOk C m F1 L W o a (vars.map (fz st2)) (env.map (fz st2)):=by
        intro x x' hmem hx
        rw [opnd_map e0 e1]
        exact fz_rep K.s.R ((hr x x' hmem hx).mono (fun _ _ h => h) K.hF (fun _ _ => rfl) (fun _ _ h => h))
      exact (aQ_sound H hc K.s.R freeN hr' (fun _ _ _ => rfl) hq).mono fun w W' hp => K.post (QPost.post H.xm K.s hp)
    · cases h
  · cases h
theorem aCall_sound (H : LowerOk P gb X lo) {s s' : S} {md : Mode} {c : Call} {x : Operand} {x' : Opnd} {args' : List Opnd} {v : AV} (ho : o.op = .call c) (hcv : c.callee = .value x) (hx : compO C x = some x') (ha : compL C c.args.toList = some args') (S : St gb X m F L XO W s.st s.ext) (hr : OprOk C m F L W o a vars env)
    (h : aCall lo vars env s md x' args' = some (v,s')) : (Ok P ro o a W fun w W' => ∃ m' F' XO',Post gb X m F L XO W s.st v s'.st s'.ext w W' m' F' XO') ∧ s'.vars = s.vars:=by
  have freeN : ∀ i,s.st.length ≤ i → m i = none:=fun i hi => by
    cases hmi : m i with
    | none => rfl
    | some b => have:=S.up i b hmi; omega
  unfold aCall at h
  simp only at h
  split at h
  · rename_i hy
    split at h
    · rename_i e ds hext hd
      split at h
      · rename_i e' b hround
        simp only [Option.some.injEq,Prod.mk.injEq] at h
        obtain ⟨rfl,rfl⟩:=h
        refine ⟨?_,rfl⟩
        rw [hext] at S
        exact s_yield H ho hcv hx ha S hr hy hd hround
      · cases h
    · cases h
  · split at h
    · cases h
    · rename_i f p q hf
      split at h
      · split at h
        · cases h
        · rename_i ds hd
          split at h
          · cases h
          · rename_i d hcall
            split at h
            · rename_i hok
              simp only [Option.some.injEq,Prod.mk.injEq] at h
              obtain ⟨rfl,rfl⟩:=h
              refine ⟨?_,rfl⟩
              have:=q_callP (ro:=ro) (nid:=s.st.length) (stL:=sto s.st) (st:=s.st) H ho hcv hx ha S.R hr (fun _ _ _ => rfl) hf hd hcall (by simpa using hok)
              refine this.mono fun w W' hq => ?_
              have:=QPost.post H.xm S hq
              rwa [List.append_nil] at this
            · split at h
              · rename_i st2 hz
                simp only [Option.some.injEq,Prod.mk.injEq] at h
                obtain ⟨rfl,rfl⟩:=h
                exact ⟨s_callP H ho hcv hx ha S hr hf hd hcall hz,rfl⟩
              · cases h
      · split at h
        · cases h
        · rename_i ds hd
          split at h
          · cases h
          · rename_i r hcall
            obtain ⟨r1,r2⟩:=r
            split at h
            · rename_i hok
              simp only [Option.some.injEq,Prod.mk.injEq] at h
              obtain ⟨rfl,rfl⟩:=h
              refine ⟨?_,rfl⟩
              have:=q_callI (ro:=ro) (nid:=s.st.length) (stL:=sto s.st) (st:=s.st) H ho hcv hx ha S.R hr (fun _ _ _ => rfl) hf hd hcall (fun i hi _ => freeN i hi) (by simpa using hok)
              exact this.mono fun w W' hq => QPost.post H.xm S hq
            · split at h
              · rename_i st2 hz
                simp only [Option.some.injEq,Prod.mk.injEq] at h
                obtain ⟨rfl,rfl⟩:=h
                exact ⟨s_callI H ho hcv hx ha S hr hf hd hcall hz,rfl⟩
              · cases h
      · split at h
        · cases h
        · rename_i ds hd
          split at h
          · cases h
          · rename_i r hcall
            obtain ⟨r1,r2⟩:=r
            split at h
            · rename_i hok
              split at h
              · rename_i d hdp
                simp only [Option.some.injEq,Prod.mk.injEq] at h
                obtain ⟨rfl,rfl⟩:=h
                refine ⟨?_,rfl⟩
                have:=q_callF (ro:=ro) (nid:=s.st.length) (stL:=sto s.st) (st:=s.st) H ho hcv hx ha S.R hr (fun _ _ _ => rfl) hf hd hcall hdp (by simpa using hok)
                have:=this.mono fun w W' hq => QPost.post H.xm S hq
                rwa [List.append_nil] at this
              · cases h
            · cases h
      · split at h
        · cases h
        · rename_i hok
          split at h
          · rename_i r hcall
            simp only [Option.some.injEq,Prod.mk.injEq] at h
            obtain ⟨rfl,rfl⟩:=h
            simp only [Bool.or_eq_true,Bool.not_eq_true',not_or,Bool.not_eq_true,Option.isSome_eq_false_iff,Option.isNone_iff_eq_none,Bool.not_eq_false] at hok
            exact ⟨s_sh H ho hcv hx ha S hr hf rfl hok.1 (fun i hi => by simpa using List.all_eq_true.1 hok.2 i hi) hcall,rfl⟩
          · cases h
theorem aOp_sound (H : LowerOk P gb X lo) {s s' : S} {op : IOp} {v : AV} (hc : compOp P C o = some op) (S : St gb X m F L XO W s.st s.ext) (hr : OprOk C m F L W o a vars env) (h : aOp lo vars env s op = some (v,s')) :
    (Ok P ro o a W fun w W' => ∃ m' F' XO',Post gb X m F L XO W s.st v s'.st s'.ext w W' m' F' XO') ∧ s'.vars = s.vars:=by
  have freeN : ∀ i,s.st.length ≤ i → m i = none:=fun i hi => by
    cases hmi : m i with
    | none => rfl
    | some b => have:=S.up i b hmi; omega
  have quiet : isQ op = true → (Ok P ro o a W fun w W' => ∃ m' F' XO',Post gb X m F L XO W s.st v s'.st s'.ext w W' m' F' XO') ∧ s'.vars = s.vars:=by
    intro hq
    rw [aOp_quiet hq] at h
    split at h
    · rename_i v' news hv
      simp only [Option.some.injEq,Prod.mk.injEq] at h
      obtain ⟨rfl,rfl⟩:=h
      exact ⟨(aQ_sound H hc S.R (fun i hi _ => freeN i hi) hr (fun _ _ _ => rfl) hv).mono fun w W' hq => QPost.post H.xm S hq,rfl⟩
    · cases h
  cases ho : o.op with
  | store t x y =>
    simp only [compOp,ho,bind,Option.bind_eq_some_iff,Option.some.injEq] at hc
    obtain ⟨n,hn,x',hx,y',hy,rfl⟩:=hc
    simp only [aOp] at h
    split at h
    · rename_i st2 hst
      simp only [Option.some.injEq,Prod.mk.injEq] at h
      obtain ⟨rfl,rfl⟩:=h
      exact ⟨s_store H.xm ho hn hx hy S hr hst,rfl⟩
    · cases h
  | mapUpdate t x y z =>
    simp only [compOp,ho] at hc
    split at hc
    · rename_i kt e hu
      split at hc
      · rename_i kd hk
        simp only [bind,Option.bind_eq_some_iff,Option.some.injEq] at hc
        obtain ⟨x',hx,y',hy,z',hz,rfl⟩:=hc
        exact s_mapup H.xm rfl rfl ho hu hk hx hy hz S hr h
      · cases hc
    · cases hc
  | buildSlice t n ps =>
    have hc0:=hc
    simp only [compOp,ho] at hc
    split at hc
    · simp only [bind,Option.bind_eq_some_iff,Option.some.injEq] at hc
      obtain ⟨sz,hsz,z,hz,qs,hq,rfl⟩:=hc
      exact s_bslice H rfl hc0 S hr h
    · cases hc
  | range t x =>
    simp only [compOp,ho] at hc
    split at hc
    · rename_i hu
      simp only [Option.map_eq_some_iff] at hc
      obtain ⟨x',hx,rfl⟩:=hc
      exact s_range H.xm rfl rfl ho hu hx S hr h
    · cases hc
  | next x b =>
    cases b with
    | false => simp [compOp,ho] at hc
    | true =>
      simp only [compOp,ho,Option.map_eq_some_iff] at hc
      obtain ⟨x',hx,rfl⟩:=hc
      exact s_next H.xm rfl rfl ho hx S hr h
  | call c =>
    obtain ⟨callee,args,argTypes⟩:=c
    cases callee with
    | invoke r n => simp [compOp,ho] at hc
    | value x =>
      simp only [compOp,ho,bind,Option.bind_eq_some_iff,Option.some.injEq] at hc
      obtain ⟨x',hx,args',ha,rfl⟩:=hc
      exact aCall_sound H ho rfl hx ha S hr h
    | builtin b =>
      have hc0:=hc
      simp only [compOp,ho] at hc
      split at hc
      · rename_i x t hargs htys
        refine quiet ?_
        split at hc <;> simp only [Option.map_eq_some_iff,reduceCtorEq] at hc
        all_goals (obtain ⟨x',hx,rfl⟩:=hc; rfl)
      · rename_i x y t u hargs htys
        split at hc
        · rename_i e e2 hu hu2
          simp only [bind,Option.bind_eq_some_iff,Option.some.injEq] at hc
          obtain ⟨z,hz,sz,hsz,by0,hby,x',hx,y',hy,rfl⟩:=hc
          simp only [aOp] at h
          split at h
          · rename_i v' news' happ
            simp only [Option.some.injEq,Prod.mk.injEq] at h
            obtain ⟨rfl,rfl⟩:=h
            refine ⟨?_,rfl⟩
            have:=q_append (ro:=ro) (nid:=s.st.length) (stL:=sto s.st) (st:=s.st) ho rfl hargs htys hu hu2 hsz hby hz hx hy S.R (fun _ => freeN _ (Nat.le_refl _)) hr (fun _ _ _ => rfl) happ
            exact this.mono fun w W' hq => QPost.post H.xm S hq
          · rename_i v' id news' happ
            simp only [Option.some.injEq,Prod.mk.injEq] at h
            obtain ⟨rfl,rfl⟩:=h
            exact ⟨s_append H.xm ho rfl hargs htys hu hu2 hsz hby hz hx hy S hr happ,rfl⟩
          · cases h
        · cases hc
      · rename_i x y hargs
        simp only [bind,Option.bind_eq_some_iff,Option.some.injEq] at hc
        obtain ⟨x',hx,y',hy,rfl⟩:=hc
        exact quiet rfl
      · rename_i x y hargs
        simp only [bind,Option.bind_eq_some_iff,Option.some.injEq] at hc
        obtain ⟨x',hx,y',hy,rfl⟩:=hc
        exact quiet rfl
      · rename_i x y t u hargs htys
        split at hc
        · rename_i e hu
          simp only [bind,Option.bind_eq_some_iff,Option.some.injEq] at hc
          obtain ⟨sz,hsz,x',hx,y',hy,rfl⟩:=hc
          exact s_copy H.xm rfl rfl ho rfl hargs htys hu hsz hx hy S hr h
        · cases hc
      · rename_i x t hargs htys
        split at hc
        · rename_i e hu
          simp only [bind,Option.bind_eq_some_iff,Option.some.injEq] at hc
          obtain ⟨z,hz,x',hx,rfl⟩:=hc
          exact s_clear H.xm rfl rfl ho rfl hargs htys hu hz hx S hr h
        · cases hc
      · cases hc
  | _ => exact quiet (quiet_of hc (by rw [ho]; rfl))
end
end Go.Vm
