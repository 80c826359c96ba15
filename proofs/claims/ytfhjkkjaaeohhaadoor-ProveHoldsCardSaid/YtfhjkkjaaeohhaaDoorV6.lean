/- A part of the proof that the law answers true for every input; the conditions are those of the card: the listed variable reads as the program lays it. -/
import Derived.Test.YtfhjkkjaaeohhaaDoorV5
set_option linter.unusedSimpArgs false
set_option linter.unusedVariables false
/- Chapter 12, plain laws: a decided claim has a right proof; a right proof is one of a claim that no point refutes. -/
set_option maxRecDepth 100000
set_option maxHeartbeats 2000000
namespace Go.Vm.P12
open Go Go.Vm
theorem clErr_good {c : Cl} (hf : c.Fit) (h : clErr c = 0) : Good c := by
  have h1 : clE0 c.sp c.gv = 0 := by
    unfold clErr at h
    split at h
    · assumption
    · exact h
  have h2 : fnz ((c.gv ++ [c.go]).map fun l => lnErr l c.sp.length) = 0 := by
    unfold clErr at h
    rw [if_pos h1] at h
    exact h
  have a1 : spErr c.sp = 0 := fz0 _ h1 _ (by simp)
  have a2 := fz0 _ h1 (if decide ((12 : Int) < c.gv.length) then 5 else 0) (by simp)
  have n6 : c.sp.length ≤ 6 := by
    unfold spErr at a1
    by_cases h6 : 6 < c.sp.length
    · simp [h6] at a1
    · omega
  have n12 : c.gv.length ≤ 12 := by
    by_cases h12 : (12 : Int) < c.gv.length
    · simp [h12] at a2
    · omega
  have key : ∀ x ∈ c.gv ++ [c.go], LnOk x := by
    intro x hx
    have hl : lnErr x c.sp.length = 0 := fz0 _ h2 _ (List.mem_map_of_mem hx)
    have h3 := fz0 _ hl (if x.co.any (fun c => offB c (-1048576) 1048576) || offB x.c (-1099511627776) 1099511627776 then 3 else 0) (by simp)
    have h4 : (x.co.any (fun c => offB c (-1048576) 1048576) || offB x.c (-1099511627776) 1099511627776) = false := by
      cases h5 : (x.co.any (fun c => offB c (-1048576) 1048576) || offB x.c (-1099511627776) 1099511627776)
      · rfl
      · rw [h5] at h3; simp at h3
    rw [Bool.or_eq_false_iff] at h4
    exact ⟨lnErr_co hl, (off_f h4.2).1, (off_f h4.2).2⟩
  exact ⟨clErr_even hf h, spErr_ok a1, n6, fun g hg => key g (List.mem_append_left _ hg), n12, key c.go (List.mem_append_right _ (by simp))⟩
theorem any_f {l : List Int} {lo hi : Int} (h : l.any (fun x => offB x lo hi) = false) : ∀ a ∈ l, lo ≤ a ∧ a ≤ hi := fun a ha =>
  off_f (by simpa using List.any_eq_false.1 h a ha)
theorem any_t {l : List Int} {lo hi : Int} (h : ∀ a ∈ l, lo ≤ a ∧ a ≤ hi) : l.any (fun x => offB x lo hi) = false := by
  rw [List.any_eq_false]
  intro a ha
  have := h a ha
  simp only [offB, Bool.or_eq_true, decide_eq_true_eq]
  omega
theorem lf_fac {y : Stp} {c : Cl} (h : lfErr y c = 0) : Fac y c := by
  have h2 := fz0 _ h (if lf2 y then 3 else 0) (by simp)
  have h3 : lf2 y = false := by
    cases h5 : lf2 y
    · rfl
    · rw [h5] at h2; simp at h2
  simp only [lf2, Bool.or_eq_false_iff] at h3
  have h1 := lf1_f h
  exact ⟨off_f h3.1.1.1, any_f h3.1.1.2, any_f h3.1.2, any_f h3.2, h1.2.1, h1.2.2⟩
theorem lf_len {y : Stp} {c d : Cl} (h1 : c.sp.length = d.sp.length) (h2 : c.gv.length = d.gv.length) : lfErr y c = lfErr y d := by
  unfold lfErr lf1
  rw [h1, h2]
theorem ins_b : ∀ {pt : List Int} {sp : List Sp} {v : Nat} {p : Int} {s : Sp}, ins pt sp = true → pt[v]? = some p → sp[v]? = some s → s.lo ≤ p ∧ p ≤ s.hi
  | [], _, v, p, s, _, h, _ => by simp at h
  | _ :: _, [], v, p, s, _, _, h => by simp at h
  | q :: pt, t :: sp, 0, p, s, hi, h1, h2 => by
    simp only [List.getElem?_cons_zero, Option.some.injEq] at h1 h2
    subst h1 h2
    exact ⟨(ins_c hi).1, (ins_c hi).2.1⟩
  | q :: pt, t :: sp, v + 1, p, s, hi, h1, h2 => by
    simp only [List.getElem?_cons_succ] at h1 h2
    exact ins_b (ins_c hi).2.2 h1 h2
theorem ck_sound {L : List Stp} {C : Cl} (hw : Wf L C.sp.length C.gv.length) (hl : ∀ (i : Nat) y, L[i]? = some y → y.leaf = true → lfErr y C = 0) : ∀ (F k : Nat) (c : Cl), k < F → k < L.length → Good c → c.sp.length = C.sp.length → c.gv.length = C.gv.length →
    (ck L F c k).2 = 0 → ∀ pt : List Int, pt.length = c.sp.length → ins pt c.sp = true → (∀ g ∈ c.gv, 0 ≤ V g pt) → 0 ≤ V c.go pt
  | 0, k, c, hk, _, _, _, _, _, pt, _, _, _ => by omega
  | F + 1, k, c, hk, hkl, hc, e1, e2, h, pt, hp, hi, hg => by
    obtain ⟨y, hy⟩ : ∃ y, L[k]? = some y := ⟨_, List.getElem?_eq_getElem hkl⟩
    simp only [ck, hy] at h
    by_cases hlf : y.leaf = true
    · simp only [hlf, if_true] at h
      have hle : lfErr y c = 0 := by rw [lf_len e1 e2]; exact hl k y hy hlf
      by_cases hpv : prv y c = true
      · exact leaf_sound hc (lf_fac hle) hpv hp hi hg
      · simp [hpv] at h
    · obtain ⟨w1, w2, w3, w4, w5, w6⟩ := hw.split k y hy (by simpa using hlf)
      simp only [hlf, Bool.false_eq_true, if_false] at h
      obtain ⟨v, hv⟩ : ∃ v : Nat, y.va = v := ⟨y.va.toNat, by omega⟩
      have hvl : v < c.sp.length := by omega
      obtain ⟨s, hsv⟩ : ∃ s, c.sp[v]? = some s := ⟨_, List.getElem?_eq_getElem hvl⟩
      obtain ⟨p, hpv⟩ : ∃ p, pt[v]? = some p := ⟨_, List.getElem?_eq_getElem (show v < pt.length by omega)⟩
      have hgd : c.sp.getD v ⟨0, 0⟩ = s := by rw [List.getD_eq_getElem?_getD, hsv]; rfl
      obtain ⟨o1, o2, o3⟩ := hc.sp s (List.mem_of_getElem? hsv)
      rw [hv, Int.toNat_natCast, hgd] at h
      cases ho : offB y.bo s.lo (sb s.hi 1)
      · have hs1 : sb s.hi 1 = s.hi - 1 := by unfold sb; exact wrp_ok (by omega)
        rw [hs1] at ho
        have hb := off_f ho
        have ea : ad y.bo 1 = y.bo + 1 := by unfold ad; exact wrp_ok (by omega)
        rw [hs1, ho, ea] at h
        simp only [Bool.false_eq_true, if_false] at h
        have G0 : Good (nar c v ⟨s.lo, y.bo⟩) := good_nar hc (by simp only; omega)
        have G1 : Good (nar c v ⟨y.bo + 1, s.hi⟩) := good_nar hc (by simp only; omega)
        have n0 : (nar c v ⟨s.lo, y.bo⟩).sp.length = C.sp.length := by simpa [nar] using e1
        have n1 : (nar c v ⟨y.bo + 1, s.hi⟩).sp.length = C.sp.length := by simpa [nar] using e1
        have hb0 := ins_b hi hpv hsv
        by_cases h0 : (ck L F (nar c v ⟨s.lo, y.bo⟩) y.k0.toNat).2 = 0
        · rw [if_pos h0] at h
          by_cases hpb : p ≤ y.bo
          · exact ck_sound hw hl F y.k0.toNat _ (by omega) (by omega) G0 n0 e2 h0 pt (by rw [n0]; omega) (ins_set pt c.sp v p _ hpv hb0.1 hpb hi) hg
          · exact ck_sound hw hl F y.k1.toNat _ (by omega) (by omega) G1 n1 e2 h pt (by rw [n1]; omega) (ins_set pt c.sp v p _ hpv (by simp only; omega) hb0.2 hi) hg
        · rw [if_neg h0] at h
          exact absurd h h0
      · rw [ho] at h
        simp at h
inductive PT : Cl → Nat → List Stp → Prop
  | leaf (c : Cl) (a : Nat) (s : Stp) : s.leaf = true → lfErr s c = 0 → prv s c = true → PT c a [s]
  | split (c : Cl) (a v : Nat) (b : Int) (s : Sp) (z1 z2 : List Stp) : c.sp[v]? = some s → s.lo ≤ b → b < s.hi → PT (nar c v ⟨s.lo, b⟩) a z1 → PT (nar c v ⟨ad b 1, s.hi⟩) (a + z1.length) z2 →
      PT c a (z1 ++ z2 ++ [splitOf v b (((a + z1.length : Nat) : Int) - 1) (((a + z1.length + z2.length : Nat) : Int) - 1)])
theorem pt_len {c : Cl} {a : Nat} {z : List Stp} (h : PT c a z) : 0 < z.length := by
  cases h <;> simp only [List.length_append, List.length_singleton] <;> omega
theorem leafOf_lf {c : Cl} (hc : Good c) {goal : Int} {gs : List Int} (h1 : 0 ≤ goal ∧ goal ≤ 1000) (h2 : ∀ a ∈ gs, 0 ≤ a ∧ a ≤ 1000) (h3 : gs.length = c.gv.length) : lfErr (leafOf c goal gs) c = 0 := by
  obtain ⟨v1, v2, v3⟩ := left_V (y := ⟨true, goal, false, gs, true, [], true, [], 0, 0, 0, 0⟩) hc h1 h2
  have a1 : lf1 (leafOf c goal gs) c = false := by
    simp only [lf1, leafOf, List.length_map, v3, h3]; simp
  have b1 : (leafOf c goal gs).lw.any (fun x => offB x 0 34359738368) = false := any_t (fun a ha => by
    simp only [leafOf] at ha
    obtain ⟨x, hx, rfl⟩ := List.mem_map.1 ha
    have := v2.1 x hx
    omega)
  have b2 : (leafOf c goal gs).hg.any (fun x => offB x 0 34359738368) = false := any_t (fun a ha => by
    simp only [leafOf] at ha
    obtain ⟨x, hx, rfl⟩ := List.mem_map.1 ha
    have := v2.1 x hx
    have e : ng x = -x := by unfold ng; rw [wrp_ok (by omega)]; omega
    rw [e]
    omega)
  have b3 : (leafOf c goal gs).gv.any (fun x => offB x 0 1000) = false := any_t h2
  have b4 : offB (leafOf c goal gs).goal 0 1000 = false := by
    rw [show (leafOf c goal gs).goal = goal from rfl]
    simp only [offB, Bool.or_eq_false_iff, decide_eq_false_iff_not]; omega
  have a2 : lf2 (leafOf c goal gs) = false := by
    unfold lf2
    rw [b1, b2, b3, b4]; rfl
  unfold lfErr
  rw [a1, a2]
  rfl
theorem leaves_lf {c : Cl} (hc : Good c) : ∀ s ∈ leaves c, s.leaf = true ∧ lfErr s c = 0 := by
  have hz : ∀ n, ∀ a ∈ List.replicate n (0 : Int), 0 ≤ a ∧ a ≤ 1000 := fun n a ha => by
    have := List.eq_of_mem_replicate ha; omega
  have hs : ∀ (g : Int), 0 ≤ g ∧ g ≤ 1000 → ∀ (i k m : Nat), m + k ≤ 4 → ∀ s ∈ lfs c g i m k, s.leaf = true ∧ lfErr s c = 0 := by
    intro g hg i k
    induction k with
    | zero => intro m _ s h; cases h
    | succ k ih =>
      intro m hm s h
      rcases List.mem_cons.1 h with rfl | h
      · exact ⟨rfl, leafOf_lf hc hg (fun a ha => by
          rcases List.mem_or_eq_of_mem_set ha with ha | rfl
          · exact hz _ a ha
          · omega) (by simp)⟩
      · exact ih (m + 1) (by omega) s h
  have hg : ∀ (g : Int), 0 ≤ g ∧ g ≤ 1000 → ∀ (M : Nat), M ≤ 4 → ∀ (r i : Nat), ∀ s ∈ lfg c g M i r, s.leaf = true ∧ lfErr s c = 0 := by
    intro g hg M hM r
    induction r with
    | zero => intro i s h; cases h
    | succ r ih =>
      intro i s h
      rcases List.mem_append.1 h with h | h
      · exact hs g hg i M 0 (by omega) s h
      · exact ih _ s h
  intro s h
  simp only [leaves, List.mem_append, List.mem_cons] at h
  rcases h with h | rfl | h
  · exact hg 0 (by omega) 1 (by omega) _ _ s h
  · exact ⟨rfl, leafOf_lf hc (by omega) (hz _) (by simp)⟩
  · exact hg 1 (by omega) 4 (by omega) _ _ s h
theorem dec_yes : ∀ (f t : Nat) (c : Cl) (st : List Stp), Good c → st.length + t < 1000000000 → (dec f t c st).ok = true → (dec f t c st).e = 0 ∧ ∃ z, (dec f t c st).st = st ++ z ∧ PT c st.length z
  | 0, t, c, st, hc, hb, h => by simp [dec] at h
  | f + 1, 0, c, st, hc, hb, h => by simp [dec] at h
  | f + 1, t + 1, c, st, hc, hb, h => by
    cases hd : dir c with
    | some s =>
      simp only [dec, hd]
      obtain ⟨l1, l2⟩ := leaves_lf hc s (List.mem_of_find?_eq_some hd)
      exact ⟨trivial, [s], rfl, .leaf c _ s l1 l2 (List.find?_some (p := fun s => prv s c) hd)⟩
    | none =>
      cases hw : (wid c.sp).2
      · simp only [dec, hd, hw] at h; cases h
      · obtain ⟨s, hs1, hs2⟩ := wid_gt hw
        have hgd : c.sp.getD (wid c.sp).1 ⟨0, 0⟩ = s := by rw [List.getD_eq_getElem?_getD, hs1]; rfl
        obtain ⟨o1, o2, o3⟩ := hc.sp s (List.mem_of_getElem? hs1)
        obtain ⟨m1, m2, m3⟩ := mid_ok o1 hs2 o3
        have G1 : Good (nar c (wid c.sp).1 ⟨s.lo, shr1 (ad s.lo s.hi)⟩) := good_nar hc (by simp only; omega)
        have G2 : Good (nar c (wid c.sp).1 ⟨ad (shr1 (ad s.lo s.hi)) 1, s.hi⟩) := good_nar hc (by simp only; omega)
        simp only [dec, hd, hw, hgd] at h ⊢
        have i1 := dec_yes f t (nar c (wid c.sp).1 ⟨s.lo, shr1 (ad s.lo s.hi)⟩) st G1 (by omega)
        have v1 := dec_inv f t (nar c (wid c.sp).1 ⟨s.lo, shr1 (ad s.lo s.hi)⟩) st
        generalize dec f t (nar c (wid c.sp).1 ⟨s.lo, shr1 (ad s.lo s.hi)⟩) st = r1 at h i1 v1 ⊢
        cases h1 : r1.ok
        · simp only [h1] at h; cases h
        · simp only [h1] at h ⊢
          obtain ⟨_, z1, q1, p1⟩ := i1 h1
          have i2 := dec_yes f r1.t (nar c (wid c.sp).1 ⟨ad (shr1 (ad s.lo s.hi)) 1, s.hi⟩) r1.st G2 (by omega)
          have v2 := dec_inv f r1.t (nar c (wid c.sp).1 ⟨ad (shr1 (ad s.lo s.hi)) 1, s.hi⟩) r1.st
          generalize dec f r1.t (nar c (wid c.sp).1 ⟨ad (shr1 (ad s.lo s.hi)) 1, s.hi⟩) r1.st = r2 at h i2 v2 ⊢
          cases h2 : r2.ok
          · simp only [h2] at h; cases h
          · simp only
            obtain ⟨_, z2, q2, p2⟩ := i2 h2
            have L1 : r1.st.length = st.length + z1.length := by rw [q1, List.length_append]
            have L2 : r2.st.length = st.length + z1.length + z2.length := by rw [q2, List.length_append, L1]
            refine ⟨trivial, z1 ++ z2 ++ [splitOf (wid c.sp).1 (shr1 (ad s.lo s.hi)) (((st.length + z1.length : Nat) : Int) - 1) (((st.length + z1.length + z2.length : Nat) : Int) - 1)], ?_, ?_⟩
            · rw [sbn (m := r1.st.length) (by omega), sbn (m := r2.st.length) (by omega), L1, L2, q2, q1, List.append_assoc, List.append_assoc, List.append_assoc]
            · rw [L1] at p2
              exact .split c _ _ _ s z1 z2 hs1 m1 m2 p1 p2
theorem ck_pt {c : Cl} {a : Nat} {z : List Stp} (h : PT c a z) : Good c → ∀ (pre w : List Stp) (F : Nat), pre.length = a → a + z.length ≤ F → ck (pre ++ z ++ w) F c (a + z.length - 1) = (0, 0) := by
  induction h with
  | leaf c a s h1 h2 h3 =>
    intro hc pre w F hp hF
    obtain ⟨F, rfl⟩ : ∃ G, F = G + 1 := ⟨F - 1, by simp at hF; omega⟩
    have hg : (pre ++ [s] ++ w)[a + [s].length - 1]? = some s := by
      rw [List.append_assoc, List.getElem?_append_right (by simp; omega)]
      simp [hp]
    simp only [ck, hg, h1, h3, if_true]
  | split c a v b s z1 z2 hs h1 h2 p1 p2 i1 i2 =>
    intro hc pre w F hp hF
    have n1 := pt_len p1
    have n2 := pt_len p2
    obtain ⟨o1, o2, o3⟩ := hc.sp s (List.mem_of_getElem? hs)
    have ea : ad b 1 = b + 1 := by unfold ad; exact wrp_ok (by omega)
    have G1 : Good (nar c v ⟨s.lo, b⟩) := good_nar hc (by simp only; omega)
    have G2 : Good (nar c v ⟨ad b 1, s.hi⟩) := good_nar hc (by simp only [ea]; omega)
    generalize hq : splitOf v b (((a + z1.length : Nat) : Int) - 1) (((a + z1.length + z2.length : Nat) : Int) - 1) = q at *
    simp only [List.length_append, List.length_singleton] at hF ⊢
    obtain ⟨F, rfl⟩ : ∃ G, F = G + 1 := ⟨F - 1, by omega⟩
    have hg : (pre ++ (z1 ++ z2 ++ [q]) ++ w)[a + (z1.length + z2.length + 1) - 1]? = some q := by
      rw [List.append_assoc, List.getElem?_append_right (by omega), List.getElem?_append_left (by simp; omega), List.getElem?_append_right (by simp; omega)]
      have : a + (z1.length + z2.length + 1) - 1 - pre.length - (z1 ++ z2).length = 0 := by simp; omega
      rw [this]; rfl
    have e1 := i1 G1 pre (z2 ++ [q] ++ w) F hp (by omega)
    have e2 := i2 G2 (pre ++ z1) ([q] ++ w) F (by simp [hp]) (by omega)
    have l1 : pre ++ z1 ++ (z2 ++ [q] ++ w) = pre ++ (z1 ++ z2 ++ [q]) ++ w := by simp only [List.append_assoc]
    have l2 : pre ++ z1 ++ z2 ++ ([q] ++ w) = pre ++ (z1 ++ z2 ++ [q]) ++ w := by simp only [List.append_assoc]
    rw [l1] at e1
    rw [l2] at e2
    have hgd : c.sp.getD v ⟨0, 0⟩ = s := by rw [List.getD_eq_getElem?_getD, hs]; rfl
    have ho : offB b s.lo (sb s.hi 1) = false := by
      have : sb s.hi 1 = s.hi - 1 := by unfold sb; exact wrp_ok (by omega)
      simp only [this, offB, Bool.or_eq_false_iff, decide_eq_false_iff_not]; omega
    have f1 : q.leaf = false := by rw [← hq]; rfl
    have f2 : q.va.toNat = v := by rw [← hq]; simp [splitOf]
    have f3 : q.bo = b := by rw [← hq]; rfl
    have f4 : q.k0.toNat = a + z1.length - 1 := by rw [← hq]; simp only [splitOf]; omega
    have f5 : q.k1.toNat = a + z1.length + z2.length - 1 := by rw [← hq]; simp only [splitOf]; omega
    simp only [ck, hg, f1, f2, f3, f4, f5, hgd, ho, Bool.false_eq_true, if_false, e1, e2, if_true]
theorem cf_pt {C : Cl} (hC : C.sp.length < 1000000000) {c : Cl} {a : Nat} {z : List Stp} (h : PT c a z) : Good c → c.sp.length = C.sp.length → c.gv.length = C.gv.length → ∀ (r : List Stp) (ks : List Int), (∀ x ∈ ks, x < (a : Int)) → a + z.length < 1000000000 →
    ∃ zs : List Int, cf C (z ++ r) a ks = cf C r (a + z.length) (ks ++ zs) ∧ zs.length + 1 = z.length ∧ ∀ x ∈ zs, (a : Int) ≤ x ∧ x < (a + z.length : Nat) - 1 := by
  induction h with
  | leaf c a s h1 h2 h3 =>
    intro hc e1 e2 r ks hk hb
    have hl : lfErr s C = 0 := by rw [← lf_len e1 e2]; exact h2
    exact ⟨[], by simp only [List.cons_append, List.nil_append, cf, h1, hl, if_true, List.append_nil, List.length_singleton], rfl, by simp⟩
  | split c a v b s z1 z2 hs h1 h2 p1 p2 i1 i2 =>
    intro hc e1 e2 r ks hk hb
    have n1 := pt_len p1
    have n2 := pt_len p2
    obtain ⟨o1, o2, o3⟩ := hc.sp s (List.mem_of_getElem? hs)
    have hvl := (List.getElem?_eq_some_iff.1 hs).1
    have ea : ad b 1 = b + 1 := by unfold ad; exact wrp_ok (by omega)
    have G1 : Good (nar c v ⟨s.lo, b⟩) := good_nar hc (by simp only; omega)
    have G2 : Good (nar c v ⟨ad b 1, s.hi⟩) := good_nar hc (by simp only [ea]; omega)
    simp only [List.length_append, List.length_singleton] at hb ⊢
    generalize hq : splitOf v b (((a + z1.length : Nat) : Int) - 1) (((a + z1.length + z2.length : Nat) : Int) - 1) = q at *
    obtain ⟨zs1, c1, l1, m1⟩ := i1 G1 (by simpa [nar] using e1) e2 (z2 ++ ([q] ++ r)) ks hk (by omega)
    obtain ⟨zs2, c2, l2, m2⟩ := i2 G2 (by simpa [nar] using e1) e2 ([q] ++ r) (ks ++ zs1) (fun x hx => by
      rcases List.mem_append.1 hx with hx | hx
      · have := hk x hx; omega
      · have := m1 x hx; omega) (by omega)
    have ez : z1 ++ z2 ++ [q] ++ r = z1 ++ (z2 ++ ([q] ++ r)) := by simp only [List.append_assoc]
    have f1 : q.leaf = false := by rw [← hq]; rfl
    have f2 : q.va = v := by rw [← hq]; rfl
    have f3 : q.bo = b := by rw [← hq]; rfl
    have f4 : q.k0 = ((a + z1.length : Nat) : Int) - 1 := by rw [← hq]; rfl
    have f5 : q.k1 = ((a + z1.length + z2.length : Nat) : Int) - 1 := by rw [← hq]; rfl
    have hE : spE (sp1 q) q C ((a + z1.length + z2.length : Nat) : Int) = 0 := by
      have g1 : sp1 q = false := by
        rw [← hq]
        simp only [sp1, splitOf, List.length_nil]
        rfl
      have g2 : offB q.va 0 (sb C.sp.length 1) = false := by
        rw [f2, sbn hC]
        simp only [offB, Bool.or_eq_false_iff, decide_eq_false_iff_not]; omega
      have g3 : offB q.bo (-1048576) 1048576 = false := by
        rw [f3]
        simp only [offB, Bool.or_eq_false_iff, decide_eq_false_iff_not]; omega
      have g4 : sp2 q ((a + z1.length + z2.length : Nat) : Int) = false := by
        unfold sp2
        rw [sbn (by omega), f4, f5]
        simp only [offB, Bool.or_eq_false_iff, decide_eq_false_iff_not]; omega
      unfold spE
      rw [g1, g2, g3, g4]; rfl
    have hn0 : (ks ++ zs1 ++ zs2).contains q.k0 = false := by
      rw [List.contains_eq_any_beq, List.any_eq_false]
      intro x hx
      have : x ≠ q.k0 := by
        rw [f4]
        rcases List.mem_append.1 hx with hx | hx
        · rcases List.mem_append.1 hx with hx | hx
          · have := hk x hx; omega
          · have := m1 x hx; omega
        · have := m2 x hx; omega
      simpa using fun h : q.k0 = x => this h.symm
    have hn1 : (ks ++ zs1 ++ zs2 ++ [q.k0]).contains q.k1 = false := by
      rw [List.contains_eq_any_beq, List.any_eq_false]
      intro x hx
      have : x ≠ q.k1 := by
        rw [f5]
        rcases List.mem_append.1 hx with hx | hx
        · rcases List.mem_append.1 hx with hx | hx
          · rcases List.mem_append.1 hx with hx | hx
            · have := hk x hx; omega
            · have := m1 x hx; omega
          · have := m2 x hx; omega
        · simp only [List.mem_singleton] at hx
          rw [hx, f4]; omega
      simpa using fun h : q.k1 = x => this h.symm
    have hspl : spl q C ((a + z1.length + z2.length : Nat) : Int) (ks ++ zs1 ++ zs2) = (0, ks ++ zs1 ++ zs2 ++ [q.k0] ++ [q.k1]) := by
      unfold spl
      rw [if_pos hE, hn0, hn1]; rfl
    refine ⟨zs1 ++ zs2 ++ [q.k0] ++ [q.k1], ?_, by simp; omega, ?_⟩
    · rw [ez, c1, c2]
      rw [List.cons_append, List.nil_append, cf]
      simp only [f1, Bool.false_eq_true, if_false]
      rw [hspl]
      simp only [if_true, List.append_assoc]
      rw [show a + (z1.length + z2.length + 1) = a + z1.length + z2.length + 1 by omega]
    · intro x hx
      rcases List.mem_append.1 hx with hx | hx
      · rcases List.mem_append.1 hx with hx | hx
        · rcases List.mem_append.1 hx with hx | hx
          · have := m1 x hx; omega
          · have := m2 x hx; omega
        · simp only [List.mem_singleton] at hx
          rw [hx, f4]; omega
      · simp only [List.mem_singleton] at hx
        rw [hx, f5]; omega
theorem made_ok {c : Cl} (hf : c.Fit) (h : clErr c = 0) {t : Nat} (ht : t ≤ 400) (hok : (dec t t c []).ok = true) : (dec t t c []).e = 0 ∧ (dec t t c []).st ≠ [] ∧ (dec t t c []).st.length ≤ 400 ∧ chk c (dec t t c []).st = .tup [.int .i64 0, .int .i64 0] := by
  have G := clErr_good hf h
  obtain ⟨e0, z, hz, hp⟩ := dec_yes t t c [] G (by simp; omega) hok
  obtain ⟨_, i2, _, _⟩ := dec_inv t t c []
  simp only [List.nil_append] at hz
  simp only [List.length_nil] at i2 hp
  rw [hz] at i2 ⊢
  have n0 := pt_len hp
  have hlen : z.length ≤ 400 := by omega
  refine ⟨e0, List.length_pos_iff.1 n0, hlen, ?_⟩
  obtain ⟨zs, c1, c2, c3⟩ := cf_pt hf.sp hp G rfl rfl [] [] (by simp) (by omega)
  simp only [List.append_nil, List.nil_append, Nat.zero_add] at c1
  have hE : cfE c z = 0 := by
    unfold cfE
    have g1 : ¬ ((z.length : Int) = 0) := by omega
    have g2 : ¬ ((400 : Int) < z.length) := by omega
    simp [fnz, h, g2, List.length_pos_iff.1 n0]
  have hform : cform c z = 0 := by
    unfold cform
    rw [if_pos hE, c1]
    simp only [cf, if_true]
    rw [sbn (by omega)]
    have : ((zs.length : Nat) : Int) = (z.length : Int) - 1 := by omega
    simp [this]
  have hck : chkR c z = (0, 0) := by
    have := ck_pt hp G [] [] z.length rfl (by omega)
    simp only [List.append_nil, List.nil_append, Nat.zero_add] at this
    exact this
  unfold chk
  rw [hform, hck]
  rfl
theorem right_sound {c : Cl} {l : List Stp} (hf : c.Fit) (h1 : cform c l = 0) (h2 : (chkR c l).2 = 0) {pt : List Int} (hp : pt.length = c.sp.length) (hi : ins pt c.sp = true) (hg : ∀ g ∈ c.gv, 0 ≤ V g pt) : 0 ≤ V c.go pt := by
  obtain ⟨f0, f1⟩ := cform_cf h1
  obtain ⟨c1, c2, c3⟩ := cfE_f f0
  have G := clErr_good hf c1
  refine ck_sound (C := c) (cform_wf hf h1) (fun i y hy hl => ?_) l.length (l.length - 1) c (by omega) (by omega) G rfl rfl h2 pt hp hi hg
  have := (cf_ok c l 0 [] f1 i y hy).1 hl
  exact this
end Go.Vm.P12

/- Chapter 12, the laws: ProveHolds, the points of a box. -/
set_option maxRecDepth 100000
set_option maxHeartbeats 4000000
namespace Go.Vm.P12
open Go Go.Vm
def rngI (lo : Int) : Nat → List Int
  | 0 => []
  | k + 1 => lo :: rngI (lo + 1) k
def ep (x : List Int) : List D := [.sl 1 (x.map ic)]
def ext1 (x : List Int) (lo : Int) (k : Nat) : List (List Int) := (rngI lo k).map fun n => x ++ [n]
def vS (r : Bool) (k : Nat) (ps : List (List Int)) : AV := match r with
  | false => .imm (.sl 1 (ps.map ep))
  | true => .ref k 1 0 ps.length
def oS (r : Bool) (ps : List (List Int)) : List AO := match r with
  | false => []
  | true => [.arr 1 (ps.map ep)]
def n1 (acc : List (List Int)) : Nat := match acc with | [] => 3 | _ => 4
theorem l4_0 {lo : Lower} {c : Cl} {bp : Bool} {pr : List Stp} {s : Sp} {r : Bool} {ps : List (List Int)} {i j : Int} {x : List Int} (hs : -1048576 ≤ s.lo ∧ s.hi ≤ 1048576) (hx : x.length < 100) : ∀ (k : Nat) (n : Int) (acc : List (List Int)), s.lo ≤ n → n + k = s.hi + 1 → acc.length + k < 10000 →
    outC ⟨0, false⟩ [0, 0, 0, 1, 1, 0, 1, 1, 0, 0, 0, 0, 0, 0, 0, 0, 0, 0, 0, 0, 0, 0, 0, 0, 0, 0, 0, 0, 0, 1, 1, 1, 0, 0, 1, 1, 1, 0, 0, 0, 0, 0, 0, 0, 0, 0, 0, 0, 0, 0, 0, 0]
      (rnd (aCode lo ⟨0, false⟩ b4_0) (head ⟨0, false⟩ [0, 0, 0, 1, 1, 0, 1, 1, 1, 1, 0, 0, 0, 0, 0, 0, 0, 0, 0, 0, 0, 0, 0, 0, 0, 0, 0, 0, 0, 1, 1, 1, 0, 0, 1, 1, 1, 0, 0, 0, 0, 0, 0, 0, 0, 0, 0, 0, 0, 0, 0, 0])
      ⟨[.junk, .junk, .junk, .ptr 0 0, .ptr 1 0, .junk, .ptr 2 0, vK 3 1 (acc.map ep), .imm (.sl 1 (x.map ic)), .imm (.int .i64 n), .junk, .junk, .junk, .junk, .junk, .junk, .junk, .junk, .junk, .junk, .junk, .junk, .junk, .junk, .junk, .junk, .junk, .junk, .junk, .imm (slD c.sn 2 (c.sp.map enS)), .imm (.int .i64 c.sp.length), .imm (.int .i64 i), .junk, .junk, vS r (n1 acc) ps, .imm (.int .i64 ps.length), .imm (.int .i64 j), .junk, .junk, .junk, .junk, .junk, .junk, .junk, .junk, .junk, .junk, .junk, .junk, .junk, .junk, .junk],
       [.box ((enC c).map .imm), .box [.imm (slD bp 9 (pr.map enT))], .box [.imm (.int .i64 s.lo), .imm (.int .i64 s.hi)]] ++ oK 1 (acc.map ep) ++ oS r ps, none⟩) =
      some (.exit 4, ⟨[.junk, .junk, .junk, .ptr 0 0, .ptr 1 0, .junk, .ptr 2 0, vK 3 1 ((acc ++ ext1 x n k).map ep), .junk, .junk, .junk, .junk, .junk, .junk, .junk, .junk, .junk, .junk, .junk, .junk, .junk, .junk, .junk, .junk, .junk, .junk, .junk, .junk, .junk, .imm (slD c.sn 2 (c.sp.map enS)), .imm (.int .i64 c.sp.length), .imm (.int .i64 i), .junk, .junk, vS r (n1 (acc ++ ext1 x n k)) ps, .imm (.int .i64 ps.length), .imm (.int .i64 j), .junk, .junk, .junk, .junk, .junk, .junk, .junk, .junk, .junk, .junk, .junk, .junk, .junk, .junk, .junk],
       [.box ((enC c).map .imm), .box [.imm (slD bp 9 (pr.map enT))], .box [.imm (.int .i64 s.lo), .imm (.int .i64 s.hi)]] ++ oK 1 ((acc ++ ext1 x n k).map ep) ++ oS r ps, none⟩)
  | 0, n, acc, h1, h2, h3 => by
    have e : ¬ n ≤ s.hi := by omega
    rw [rnd_eq]
    cases acc <;> cases r <;> simp only [go_sem, Nat.reduceAdd, Nat.reduceSub, Nat.reduceMul, Nat.reduceDiv, Nat.reduceMod, Nat.reduceLeDiff, Nat.reduceLT, Nat.reduceBEq, Int.reduceToNat, Int.reduceLT, Int.reduceLE, Int.reduceEq, vK, oK, vS, oS, n1, ext1, rngI, e]
  | k + 1, n, acc, h1, h2, h3 => by
    have e : n ≤ s.hi := by omega
    have h6 : wrp .i64 (n + 1) = n + 1 := wrp_ok (by omega)
    have h5 : (x.length + 1) * 9 ≤ 70368744177664 := by omega
    have h50 : x.length * 9 ≤ 70368744177664 := by omega
    have h5' : (acc.length + 1) * 25 ≤ 70368744177664 := by omega
    have IH := l4_0 (lo := lo) (c := c) (bp := bp) (pr := pr) (s := s) (r := r) (ps := ps) (i := i) (j := j) (x := x) hs hx k (n + 1) (acc ++ [x ++ [n]]) (by omega) (by omega) (by simp; omega)
    have ee : ext1 x n (k + 1) = [x ++ [n]] ++ ext1 x (n + 1) k := rfl
    rw [rnd_eq]
    rcases acc with _ | ⟨a0, acc⟩
    · simp only [List.length_nil, Nat.zero_add] at h5'
      rcases x with _ | ⟨x0, x⟩ <;> cases r <;> (try simp only [List.length_cons] at h5 h50) <;>
        simp only [go_sem, Nat.reduceAdd, Nat.reduceSub, Nat.reduceMul, Nat.reduceDiv, Nat.reduceMod, Nat.reduceLeDiff, Nat.reduceLT, Nat.reduceBEq, Int.reduceToNat, Int.reduceLT, Int.reduceLE, Int.reduceEq, vK, oK, vS, oS, n1, ep] at IH <;>
        simp only [go_sem, Nat.reduceAdd, Nat.reduceSub, Nat.reduceMul, Nat.reduceDiv, Nat.reduceMod, Nat.reduceLeDiff, Nat.reduceLT, Nat.reduceBEq, Int.reduceToNat, Int.reduceLT, Int.reduceLE, Int.reduceEq, vK, oK, vS, oS, n1, e, h6, ee, h5, h50, h5', ep] <;>
        exact IH
    · simp only [List.length_cons] at h5' h3
      have e7 : acc.length + ((ext1 x (n + 1) k).length + 1) + 1 = acc.length + 1 + (ext1 x (n + 1) k).length + 1 := by omega
      have e8 : ∀ (L : List (List D)) (y : List D), List.map ep acc ++ y :: L = List.map ep acc ++ [y] ++ L := fun L y => by simp
      rcases x with _ | ⟨x0, x⟩ <;> cases r <;> (try simp only [List.length_cons] at h5 h50) <;>
        simp only [go_sem, Nat.reduceAdd, Nat.reduceSub, Nat.reduceMul, Nat.reduceDiv, Nat.reduceMod, Nat.reduceLeDiff, Nat.reduceLT, Nat.reduceBEq, Int.reduceToNat, Int.reduceLT, Int.reduceLE, Int.reduceEq, vK, oK, vS, oS, n1, ep] at IH <;>
        simp only [go_sem, Nat.reduceAdd, Nat.reduceSub, Nat.reduceMul, Nat.reduceDiv, Nat.reduceMod, Nat.reduceLeDiff, Nat.reduceLT, Nat.reduceBEq, Int.reduceToNat, Int.reduceLT, Int.reduceLE, Int.reduceEq, vK, oK, vS, oS, n1, e, h6, ee, h5, h50, h5', ep, e7, e8 (List.map ep (ext1 _ (n + 1) k))] <;>
        exact IH
end Go.Vm.P12

/- Chapter 12, the laws: ProveHolds, the points of a box, end. -/
set_option maxRecDepth 100000
set_option maxHeartbeats 4000000
namespace Go.Vm.P12
open Go Go.Vm
def exts (lo : Int) (k : Nat) (ps : List (List Int)) : List (List Int) := ps.flatMap fun x => ext1 x lo k
theorem rng_len : ∀ (k : Nat) (lo : Int), (rngI lo k).length = k
  | 0, _ => rfl
  | k + 1, lo => by rw [rngI, List.length_cons, rng_len k]
theorem ext1_len (x : List Int) (lo : Int) (k : Nat) : (ext1 x lo k).length = k := by rw [ext1, List.length_map, rng_len]
theorem l4_1 {lo : Lower} {c : Cl} {bp : Bool} {pr : List Stp} {s : Sp} {r : Bool} {ps : List (List Int)} {i : Int} {k : Nat} (hs : -1048576 ≤ s.lo ∧ s.hi ≤ 1048576) (hk : s.lo + (k + 1 : Nat) = s.hi + 1) (hps : ∀ x ∈ ps, x.length < 100) (hpl : ps.length < 10000) : ∀ (q : List (List Int)) (j : Nat) (acc : List (List Int)), ps.drop j = q → acc.length + q.length * (k + 1) < 10000 →
    outC ⟨0, false⟩ [0, 0, 0, 1, 1, 0, 0, 1, 0, 0, 0, 0, 0, 0, 0, 0, 0, 0, 0, 0, 0, 0, 0, 0, 0, 0, 0, 0, 0, 1, 1, 1, 0, 0, 0, 0, 0, 0, 0, 0, 0, 0, 0, 0, 0, 0, 0, 0, 0, 0, 0, 0]
      (rnd (aCode lo ⟨0, false⟩ b4_1) (head ⟨0, false⟩ [0, 0, 0, 1, 1, 0, 1, 1, 0, 0, 0, 0, 0, 0, 0, 0, 0, 0, 0, 0, 0, 0, 0, 0, 0, 0, 0, 0, 0, 1, 1, 1, 0, 0, 1, 1, 1, 0, 0, 0, 0, 0, 0, 0, 0, 0, 0, 0, 0, 0, 0, 0])
      ⟨[.junk, .junk, .junk, .ptr 0 0, .ptr 1 0, .junk, .ptr 2 0, vK 3 1 (acc.map ep), .junk, .junk, .junk, .junk, .junk, .junk, .junk, .junk, .junk, .junk, .junk, .junk, .junk, .junk, .junk, .junk, .junk, .junk, .junk, .junk, .junk, .imm (slD c.sn 2 (c.sp.map enS)), .imm (.int .i64 c.sp.length), .imm (.int .i64 i), .junk, .junk, vS r (n1 acc) ps, .imm (.int .i64 ps.length), .imm (.int .i64 j), .junk, .junk, .junk, .junk, .junk, .junk, .junk, .junk, .junk, .junk, .junk, .junk, .junk, .junk, .junk],
       [.box ((enC c).map .imm), .box [.imm (slD bp 9 (pr.map enT))], .box [.imm (.int .i64 s.lo), .imm (.int .i64 s.hi)]] ++ oK 1 (acc.map ep) ++ oS r ps, none⟩) =
      some (.exit 2, ⟨[.junk, .junk, .junk, .ptr 0 0, .ptr 1 0, .junk, .junk, vK 2 1 ((acc ++ exts s.lo (k + 1) q).map ep), .junk, .junk, .junk, .junk, .junk, .junk, .junk, .junk, .junk, .junk, .junk, .junk, .junk, .junk, .junk, .junk, .junk, .junk, .junk, .junk, .junk, .imm (slD c.sn 2 (c.sp.map enS)), .imm (.int .i64 c.sp.length), .imm (.int .i64 i), .junk, .junk, .junk, .junk, .junk, .junk, .junk, .junk, .junk, .junk, .junk, .junk, .junk, .junk, .junk, .junk, .junk, .junk, .junk, .junk],
       [.box ((enC c).map .imm), .box [.imm (slD bp 9 (pr.map enT))]] ++ oK 1 ((acc ++ exts s.lo (k + 1) q).map ep), none⟩)
  | [], j, acc, h, h3 => by
    have e := lt_f (drop_n h)
    rw [rnd_eq]
    cases acc <;> cases r <;> simp only [go_sem, Nat.reduceAdd, Nat.reduceSub, Nat.reduceMul, Nat.reduceDiv, Nat.reduceMod, Nat.reduceLeDiff, Nat.reduceLT, Nat.reduceBEq, Int.reduceToNat, Int.reduceLT, Int.reduceLE, Int.reduceEq, vK, oK, vS, oS, n1, exts, List.flatMap_nil, e, List.length_map]
  | x :: q, j, acc, h, h3 => by
    obtain ⟨h1, h2, hd⟩ := drop_c h
    have h6 := wrpS (i := j) (by omega)
    have h2i : (j : Int) < ((ps.length : Nat) : Int) := by omega
    simp only [List.length_cons, Nat.add_mul, Nat.one_mul] at h3
    have hi := l4_0 (lo := lo) (c := c) (bp := bp) (pr := pr) (s := s) (r := r) (ps := ps) (i := i) (j := j) (x := x) hs (hps x (List.mem_of_getElem? h1)) (k + 1) s.lo acc (by omega) (by omega) (by omega)
    have IH := l4_1 (lo := lo) (c := c) (bp := bp) (pr := pr) (s := s) (r := r) (ps := ps) (i := i) (k := k) hs hk hps hpl q (j + 1) (acc ++ ext1 x s.lo (k + 1)) hd (by rw [List.length_append, ext1_len]; omega)
    have ee : exts s.lo (k + 1) (x :: q) = ext1 x s.lo (k + 1) ++ exts s.lo (k + 1) q := rfl
    have e1 : ext1 x s.lo (k + 1) = [x ++ [s.lo]] ++ ext1 x (s.lo + 1) k := rfl
    rw [rnd_eq]
    have e9 : ∀ A B C : Nat, A + (B + 1) + C + 1 = A + (B + C + 1) + 1 := fun A B C => by omega
    rcases acc with _ | ⟨a0, acc⟩ <;> cases r <;>
      simp only [go_sem, Nat.reduceAdd, Nat.reduceSub, Nat.reduceMul, Nat.reduceDiv, Nat.reduceMod, Nat.reduceLeDiff, Nat.reduceLT, Nat.reduceBEq, Int.reduceToNat, Int.reduceLT, Int.reduceLE, Int.reduceEq, vK, oK, vS, oS, n1, e1, ep] at IH hi <;>
      simp only [go_sem, Nat.reduceAdd, Nat.reduceSub, Nat.reduceMul, Nat.reduceDiv, Nat.reduceMod, Nat.reduceLeDiff, Nat.reduceLT, Nat.reduceBEq, Int.reduceToNat, Int.reduceLT, Int.reduceLE, Int.reduceEq, vK, oK, vS, oS, n1, lt_t h2, h1, h6, ee, e1, ep, hi, List.append_assoc, h2i, Int.natCast_nonneg, Nat.mul_one, Nat.mod_one, Nat.div_one] <;>
      (try simp only [go_sem, Nat.reduceAdd, Nat.reduceSub, Nat.reduceMul, Nat.reduceDiv, Nat.reduceMod, Nat.reduceLeDiff, Nat.reduceLT, Nat.reduceBEq, Int.reduceToNat, Int.reduceLT, Int.reduceLE, Int.reduceEq, List.append_assoc, e9] at IH) <;>
      exact IH
end Go.Vm.P12

/- Chapter 12, the laws: ProveHolds, the points of a box, whole. -/
set_option maxRecDepth 100000
set_option maxHeartbeats 4000000
namespace Go.Vm.P12
open Go Go.Vm
def wdN (s : Sp) : Nat := (s.hi - s.lo).toNat
def ptsR : Bool → List Sp → List (List Int) → Bool × Bool × List (List Int)
  | r, [], ps => (true, r, ps)
  | r, s :: t, ps => if 8 < s.hi - s.lo then (false, r, ps) else ptsR true t (exts s.lo (wdN s + 1) ps)
def x42 (c : Cl) (bp : Bool) (pr : List Stp) (z : Bool × Bool × List (List Int)) : AExit × S := match z.1 with
  | true => (.exit 0, ⟨[.junk, .junk, .junk, .ptr 0 0, .ptr 1 0, vS z.2.1 2 z.2.2, .junk, .junk, .junk, .junk, .junk, .junk, .junk, .junk, .junk, .junk, .junk, .junk, .junk, .junk, .junk, .junk, .junk, .junk, .junk, .junk, .junk, .junk, .junk, .junk, .junk, .junk, .junk, .junk, .junk, .junk, .junk, .junk, .junk, .junk, .junk, .junk, .junk, .junk, .junk, .junk, .junk, .junk, .junk, .junk, .junk, .junk], [.box ((enC c).map .imm), .box [.imm (slD bp 9 (pr.map enT))]] ++ oS z.2.1 z.2.2, none⟩)
  | false => (.ret, ⟨[.junk, .junk, .imm (.bool true), .ptr 0 0, .ptr 1 0, vS z.2.1 2 z.2.2, .junk, .junk, .junk, .junk, .junk, .junk, .junk, .junk, .junk, .junk, .junk, .junk, .junk, .junk, .junk, .junk, .junk, .junk, .junk, .junk, .junk, .junk, .junk, .junk, .junk, .junk, .junk, .junk, .junk, .junk, .junk, .junk, .junk, .junk, .junk, .junk, .junk, .junk, .junk, .junk, .junk, .junk, .junk, .junk, .junk, .junk], [.box ((enC c).map .imm), .box [.imm (slD bp 9 (pr.map enT))]] ++ oS z.2.1 z.2.2, none⟩)
theorem exts_len {lo : Int} {k : Nat} : ∀ ps : List (List Int), (exts lo k ps).length = ps.length * k
  | [] => by simp [exts]
  | x :: ps => by
    have IH := exts_len (lo := lo) (k := k) ps
    unfold exts at IH ⊢
    rw [List.flatMap_cons, List.length_append, IH, ext1_len, List.length_cons, Nat.add_mul]; omega
theorem exts_mem {lo : Int} {k : Nat} {ps : List (List Int)} {y : List Int} (h : y ∈ exts lo k ps) : ∃ x ∈ ps, ∃ n ∈ rngI lo k, y = x ++ [n] := by
  obtain ⟨x, hx, hy⟩ := List.mem_flatMap.1 h
  obtain ⟨n, hn, rfl⟩ := List.mem_map.1 hy
  exact ⟨x, hx, n, hn, rfl⟩
theorem exts_cons {lo : Int} {k : Nat} {ps : List (List Int)} (h : ps ≠ []) : ∃ a q, exts lo (k + 1) ps = a :: q := by
  cases ps with
  | nil => exact absurd rfl h
  | cons x ps => exact ⟨x ++ [lo], ext1 x (lo + 1) k ++ exts lo (k + 1) ps, rfl⟩
theorem l4_2 {lo : Lower} {c : Cl} {bp : Bool} {pr : List Stp} (ho : SpOk c.sp) (h3 : c.sp.length ≤ 3) : ∀ (t : List Sp) (i : Nat) (r : Bool) (ps : List (List Int)), c.sp.drop i = t → (∀ x ∈ ps, x.length < 50 + i) → ps ≠ [] → ps.length * 9 ^ t.length ≤ 729 →
    outC ⟨0, false⟩ [0, 0, 1, 1, 1, 1, 0, 0, 0, 0, 0, 0, 0, 0, 0, 0, 0, 0, 0, 0, 0, 0, 0, 0, 0, 0, 0, 0, 0, 0, 0, 0, 0, 0, 0, 0, 0, 0, 0, 0, 0, 0, 0, 0, 0, 0, 0, 0, 0, 0, 0, 0]
      (rnd (aCode lo ⟨0, false⟩ b4_2) (head ⟨0, false⟩ [0, 0, 0, 1, 1, 1, 0, 0, 0, 0, 0, 0, 0, 0, 0, 0, 0, 0, 0, 0, 0, 0, 0, 0, 0, 0, 0, 0, 0, 1, 1, 1, 0, 0, 0, 0, 0, 0, 0, 0, 0, 0, 0, 0, 0, 0, 0, 0, 0, 0, 0, 0])
      ⟨[.junk, .junk, .junk, .ptr 0 0, .ptr 1 0, vS r 2 ps, .junk, .junk, .junk, .junk, .junk, .junk, .junk, .junk, .junk, .junk, .junk, .junk, .junk, .junk, .junk, .junk, .junk, .junk, .junk, .junk, .junk, .junk, .junk, .imm (slD c.sn 2 (c.sp.map enS)), .imm (.int .i64 c.sp.length), .imm (.int .i64 i), .junk, .junk, .junk, .junk, .junk, .junk, .junk, .junk, .junk, .junk, .junk, .junk, .junk, .junk, .junk, .junk, .junk, .junk, .junk, .junk],
       [.box ((enC c).map .imm), .box [.imm (slD bp 9 (pr.map enT))]] ++ oS r ps, none⟩) = some (x42 c bp pr (ptsR r t ps))
  | [], i, r, ps, h, hx, hn, hl => by
    have e := lt_f (drop_n h)
    rw [rnd_eq]
    cases r <;> simp only [go_sem, Nat.reduceAdd, Nat.reduceSub, Nat.reduceMul, Nat.reduceDiv, Nat.reduceMod, Nat.reduceLeDiff, Nat.reduceLT, Nat.reduceBEq, Int.reduceToNat, Int.reduceLT, Int.reduceLE, Int.reduceEq, vS, oS, ptsR, x42, e]
  | s :: t, i, r, ps, h, hx, hn, hl => by
    obtain ⟨h1, h2, hd⟩ := drop_c h
    have h6 := wrpS (i := i) (by omega)
    obtain ⟨s1, s2, s3⟩ := ho s (List.mem_of_getElem? h1)
    have hw : wrp .i64 (s.hi - s.lo) = s.hi - s.lo := wrp_ok (by omega)
    have hpl : ps.length ≤ 729 := by
      have : 1 ≤ 9 ^ (s :: t).length := Nat.pow_pos (by decide)
      calc ps.length = ps.length * 1 := (Nat.mul_one _).symm
        _ ≤ ps.length * 9 ^ (s :: t).length := Nat.mul_le_mul_left _ this
        _ ≤ 729 := hl
    rw [rnd_eq]
    by_cases hb : 8 < s.hi - s.lo
    · simp only [ptsR, hb, if_true, x42]
      cases r <;> simp only [go_sem, Nat.reduceAdd, Nat.reduceSub, Nat.reduceMul, Nat.reduceDiv, Nat.reduceMod, Nat.reduceLeDiff, Nat.reduceLT, Nat.reduceBEq, Int.reduceToNat, Int.reduceLT, Int.reduceLE, Int.reduceEq, vS, oS, lt_t h2, h1, h6, hw, hb]
    · have hk : wdN s ≤ 8 := by unfold wdN; omega
      have hkk : s.lo + (wdN s + 1 : Nat) = s.hi + 1 := by unfold wdN; omega
      have hq := l4_1 (lo := lo) (c := c) (bp := bp) (pr := pr) (s := s) (r := r) (ps := ps) (i := i) (k := wdN s) ⟨s1, s3⟩ hkk (fun x hxx => by have := hx x hxx; omega) (by omega) ps 0 [] rfl (by
        simp only [List.length_nil, Nat.zero_add]
        calc ps.length * (wdN s + 1) ≤ 729 * 9 := Nat.mul_le_mul hpl (by omega)
          _ < 10000 := by decide)
      have IH := l4_2 (lo := lo) (c := c) (bp := bp) (pr := pr) ho h3 t (i + 1) true (exts s.lo (wdN s + 1) ps) hd (fun y hy => by
        obtain ⟨x, hxx, n, _, rfl⟩ := exts_mem hy
        have := hx x hxx
        simp; omega) (by
        obtain ⟨a, q, e⟩ := exts_cons (lo := s.lo) (k := wdN s) hn
        rw [e]; simp) (by
        rw [exts_len]
        refine Nat.le_trans ?_ hl
        rw [Nat.mul_assoc, List.length_cons, Nat.pow_succ]
        apply Nat.mul_le_mul_left
        rw [Nat.mul_comm]
        apply Nat.mul_le_mul_left
        omega)
      simp only [ptsR, hb, if_false]
      obtain ⟨a, q, e⟩ := exts_cons (lo := s.lo) (k := wdN s) hn
      rw [e] at hq IH ⊢
      rw [cast0] at hq
      generalize ptsR true t (a :: q) = z at IH
      cases r
      · simp only [go_sem, Nat.reduceAdd, Nat.reduceSub, Nat.reduceMul, Nat.reduceDiv, Nat.reduceMod, Nat.reduceLeDiff, Nat.reduceLT, Nat.reduceBEq, Int.reduceToNat, Int.reduceLT, Int.reduceLE, Int.reduceEq, vK, oK, vS, oS, n1] at hq IH
        simp only [go_sem, Nat.reduceAdd, Nat.reduceSub, Nat.reduceMul, Nat.reduceDiv, Nat.reduceMod, Nat.reduceLeDiff, Nat.reduceLT, Nat.reduceBEq, Int.reduceToNat, Int.reduceLT, Int.reduceLE, Int.reduceEq, vK, oK, vS, oS, n1, lt_t h2, h1, h6, hw, hb, hq]
        exact IH
      · simp only [go_sem, Nat.reduceAdd, Nat.reduceSub, Nat.reduceMul, Nat.reduceDiv, Nat.reduceMod, Nat.reduceLeDiff, Nat.reduceLT, Nat.reduceBEq, Int.reduceToNat, Int.reduceLT, Int.reduceLE, Int.reduceEq, vK, oK, vS, oS, n1] at hq IH
        simp only [go_sem, Nat.reduceAdd, Nat.reduceSub, Nat.reduceMul, Nat.reduceDiv, Nat.reduceMod, Nat.reduceLeDiff, Nat.reduceLT, Nat.reduceBEq, Int.reduceToNat, Int.reduceLT, Int.reduceLE, Int.reduceEq, vK, oK, vS, oS, n1, lt_t h2, h1, h6, hw, hb, hq]
        exact IH
end Go.Vm.P12

/- Chapter 12, the laws: ProveValues, end. -/
set_option maxRecDepth 100000
set_option maxHeartbeats 8000000
namespace Go.Vm.P12
open Go Go.Vm
def lsV (g : Bool) (x : Ln) (sp : List Sp) : Int := if bxErr x sp = 0 then exs g x.co sp x.c else 0
def vlV (x : Ln) (pt : List Int) : Int := if vlE x pt = 0 then vl x.co pt x.c else 0
def rfV (c : Cl) (pt : List Int) : Bool := if rfE c pt = 0 then rfB c pt else false
theorem refutes_tup (c : Cl) (pt : List Int) : refutes c pt = .tup [.bool (rfV c pt), .int .i64 (rfE c pt)] := by
  unfold refutes rfV
  by_cases h : rfE c pt = 0 <;> simp [h]
theorem cpy_rfE (c : Cl) (pt : List Int) : rfE (cpy c) pt = rfE c pt := by
  unfold rfE
  rw [cpy_err]
  rfl
theorem cpy_rfB (c : Cl) (pt : List Int) : rfB (cpy c) pt = rfB c pt := by
  unfold rfB
  have e : (cpy c).gv.any (neg1 pt) = c.gv.any (neg1 pt) := by
    simp only [cpy, List.any_map]
    rfl
  rw [e]
  rfl
theorem cpy_rfV (c : Cl) (pt : List Int) : rfV (cpy c) pt = rfV c pt := by
  unfold rfV
  rw [cpy_rfE, cpy_rfB]
section
variable {cx : Cx} {v0 v1 v2 v9 v10 v11 v12 v13 v14 v15 v16 v17 v18 v19 v20 v21 v22 : AV} {st : List AO}
@[go_sem high] theorem r6_6 {n : Nat} {c : Cl} (hc : c.Fit) :
    aCode (level E (n + 1)) cx (.region [
  ⟨none, none, .mv (.var 5)⟩,
  ⟨none, none, .mv (.var 8)⟩,
  ⟨none, none, .bin .neq (.loc 0) (.loc 1)⟩,
  ⟨none, none, .mv (.loc 2)⟩,
  ⟨none, some (3, false), .mv (.var 7)⟩,
  ⟨none, some (3, false), .mv (.var 8)⟩,
  ⟨none, some (3, false), .bin .neq (.loc 4) (.loc 5)⟩,
  ⟨none, none, .pick (.loc 3) (.k (.bool true)) (.loc 6)⟩,
  ⟨none, none, .mv (.loc 7)⟩,
  ⟨none, some (8, false), .mv (.var 8)⟩,
  ⟨none, some (8, false), .bin .eql (.loc 9) (.k (.int .i64 0))⟩,
  ⟨none, some (8, false), .mv (.loc 10)⟩,
  ⟨none, some (11, true), .mv (.var 4)⟩,
  ⟨none, some (11, true), .faddr 2 (.var 3)⟩,
  ⟨none, some (11, true), .load true 2 (.loc 13)⟩,
  ⟨none, some (11, true), .faddr 0 (.var 3)⟩,
  ⟨none, some (11, true), .load false 1 (.loc 15)⟩,
  ⟨none, some (11, true), .call .pure (.k (.fn 40 [] [])) [(.loc 14), (.loc 16)]⟩,
  ⟨none, some (11, true), .bin .neq (.loc 12) (.loc 17)⟩,
  ⟨none, some (11, true), .mv (.loc 18)⟩,
  ⟨none, some (19, false), .mv (.var 6)⟩,
  ⟨none, some (19, false), .faddr 2 (.var 3)⟩,
  ⟨none, some (19, false), .load true 2 (.loc 21)⟩,
  ⟨none, some (19, false), .faddr 0 (.var 3)⟩,
  ⟨none, some (19, false), .load false 1 (.loc 23)⟩,
  ⟨none, some (19, false), .call .pure (.k (.fn 41 [] [])) [(.loc 22), (.loc 24)]⟩,
  ⟨none, some (19, false), .bin .neq (.loc 20) (.loc 25)⟩,
  ⟨none, some (11, true), .pick (.loc 19) (.k (.bool true)) (.loc 26)⟩,
  ⟨none, some (8, false), .pick (.loc 11) (.loc 27) (.k (.bool false))⟩,
  ⟨none, none, .pick (.loc 8) (.k (.bool true)) (.loc 28)⟩,
  ⟨none, none, .mv (.loc 29)⟩,
  ⟨none, some (30, false), .mv (.var 8)⟩,
  ⟨none, some (30, false), .bin .neq (.loc 31) (.k (.int .i64 0))⟩,
  ⟨none, some (30, false), .mv (.loc 32)⟩,
  ⟨none, some (33, true), .mv (.var 4)⟩,
  ⟨none, some (33, true), .bin .neq (.loc 34) (.k (.int .i64 0))⟩,
  ⟨none, some (33, true), .mv (.loc 35)⟩,
  ⟨none, some (36, false), .mv (.var 6)⟩,
  ⟨none, some (36, false), .bin .neq (.loc 37) (.k (.int .i64 0))⟩,
  ⟨none, some (33, true), .pick (.loc 36) (.k (.bool true)) (.loc 38)⟩,
  ⟨none, some (30, false), .pick (.loc 33) (.loc 39) (.k (.bool false))⟩,
  ⟨(some 15), none, .pick (.loc 30) (.k (.bool true)) (.loc 40)⟩] none) ⟨[v0, v1, v2, .ptr 0 0, .imm (.int .i64 (lsV false c.go c.sp)), .imm (.int .i64 (bxErr c.go c.sp)), .imm (.int .i64 (lsV true c.go c.sp)), .imm (.int .i64 (bxErr c.go c.sp)), .imm (.int .i64 (bxErr c.go c.sp)), v9, v10, v11, v12, v13, v14, v15, v16, v17, v18, v19, v20, v21, v22],
      .box [.imm (slD c.sn 2 (c.sp.map enS)), .imm (slD c.gn 2 (c.gv.map enL)), .imm (slD c.go.nl 1 (c.go.co.map ic)), .imm (.int .i64 c.go.c)] :: st, none⟩ =
      some (.normal, ⟨[v0, v1, v2, .ptr 0 0, .imm (.int .i64 (lsV false c.go c.sp)), .imm (.int .i64 (bxErr c.go c.sp)), .imm (.int .i64 (lsV true c.go c.sp)), .imm (.int .i64 (bxErr c.go c.sp)), .imm (.int .i64 (bxErr c.go c.sp)), v9, v10, v11, v12, v13, v14, .imm (.bool false), v16, v17, v18, v19, v20, v21, v22],
      .box [.imm (slD c.sn 2 (c.sp.map enS)), .imm (slD c.gn 2 (c.gv.map enL)), .imm (slD c.go.nl 1 (c.go.co.map ic)), .imm (.int .i64 c.go.c)] :: st, none⟩) := by
  by_cases h0 : bxErr c.go c.sp = 0
  · have hl := bxErr0 h0
    have f := fz0 _ h0
    have h40 := ok40 n c.go c.sn c.sp (by omega) hc.sp
    have h41 := ok41 n c.go c.sn c.sp (by omega) hc.sp
    have q1 := lnErr_co (f _ (List.mem_cons_self))
    have q2 : SpOk c.sp := spErr_ok (f (spErr c.sp) (by simp))
    have e1 : lsV false c.go c.sp = rex false c.go.co c.sp c.go.c := by rw [lsV, if_pos h0, ex_eq _ _ _ _ q1 q2]
    have e2 : lsV true c.go c.sp = rex true c.go.co c.sp c.go.c := by rw [lsV, if_pos h0, ex_eq _ _ _ _ q1 q2]
    rw [e1, e2]
    simp only [go_sem, Nat.reduceAdd, Nat.reduceSub, Nat.reduceMul, Nat.reduceDiv, Nat.reduceMod, Nat.reduceLeDiff, Nat.reduceLT, Nat.reduceBEq, Int.reduceToNat, Int.reduceLT, Int.reduceLE, Int.reduceEq] at h40 h41
    simp only [go_sem, Nat.reduceAdd, Nat.reduceSub, Nat.reduceMul, Nat.reduceDiv, Nat.reduceMod, Nat.reduceLeDiff, Nat.reduceLT, Nat.reduceBEq, Int.reduceToNat, Int.reduceLT, Int.reduceLE, Int.reduceEq, h0, h40, h41, ne_eq, not_true_eq_false]
  · have e1 : lsV false c.go c.sp = 0 := by rw [lsV, if_neg h0]
    have e2 : lsV true c.go c.sp = 0 := by rw [lsV, if_neg h0]
    rw [e1, e2]
    simp only [go_sem, Nat.reduceAdd, Nat.reduceSub, Nat.reduceMul, Nat.reduceDiv, Nat.reduceMod, Nat.reduceLeDiff, Nat.reduceLT, Nat.reduceBEq, Int.reduceToNat, Int.reduceLT, Int.reduceLE, Int.reduceEq, h0, ne_eq, not_true_eq_false, not_false_eq_true]
theorem r6_13 {n : Nat} {c : Cl} {b : Bool} {pt : List Int} {v4 v5 v6 v7 : AV} (hp : pt.length < 1000000000) :
    aCode (level E (n + 1)) cx (.region [
  ⟨none, none, .mv (.var 10)⟩,
  ⟨none, none, .mv (.var 8)⟩,
  ⟨none, none, .bin .neq (.loc 0) (.loc 1)⟩,
  ⟨none, none, .mv (.loc 2)⟩,
  ⟨none, some (3, false), .mv (.var 8)⟩,
  ⟨none, some (3, false), .bin .eql (.loc 4) (.k (.int .i64 0))⟩,
  ⟨none, some (3, false), .mv (.loc 5)⟩,
  ⟨none, some (6, true), .mv (.var 9)⟩,
  ⟨none, some (6, true), .faddr 2 (.var 3)⟩,
  ⟨none, some (6, true), .load true 2 (.loc 8)⟩,
  ⟨none, some (6, true), .mv (.var 1)⟩,
  ⟨none, some (6, true), .call .pure (.k (.fn 43 [] [])) [(.loc 9), (.loc 10)]⟩,
  ⟨none, some (6, true), .bin .neq (.loc 7) (.loc 11)⟩,
  ⟨none, some (3, false), .pick (.loc 6) (.loc 12) (.k (.bool false))⟩,
  ⟨none, none, .pick (.loc 3) (.k (.bool true)) (.loc 13)⟩,
  ⟨none, none, .mv (.loc 14)⟩,
  ⟨none, some (15, false), .mv (.var 8)⟩,
  ⟨none, some (15, false), .bin .neq (.loc 16) (.k (.int .i64 0))⟩,
  ⟨none, some (15, false), .mv (.loc 17)⟩,
  ⟨none, some (18, true), .mv (.var 9)⟩,
  ⟨none, some (18, true), .bin .neq (.loc 19) (.k (.int .i64 0))⟩,
  ⟨none, some (15, false), .pick (.loc 18) (.loc 20) (.k (.bool false))⟩,
  ⟨(some 22), none, .pick (.loc 15) (.k (.bool true)) (.loc 21)⟩] none) ⟨[v0, .imm (slD b 1 (pt.map ic)), v2, .ptr 0 0, v4, v5, v6, v7, .imm (.int .i64 (vlE c.go pt)), .imm (.int .i64 (vlV c.go pt)), .imm (.int .i64 (vlE c.go pt)), v11, v12, v13, v14, v15, v16, v17, v18, v19, v20, v21, v22],
      .box [.imm (slD c.sn 2 (c.sp.map enS)), .imm (slD c.gn 2 (c.gv.map enL)), .imm (slD c.go.nl 1 (c.go.co.map ic)), .imm (.int .i64 c.go.c)] :: st, none⟩ =
      some (.normal, ⟨[v0, .imm (slD b 1 (pt.map ic)), v2, .ptr 0 0, v4, v5, v6, v7, .imm (.int .i64 (vlE c.go pt)), .imm (.int .i64 (vlV c.go pt)), .imm (.int .i64 (vlE c.go pt)), v11, v12, v13, v14, v15, v16, v17, v18, v19, v20, v21, .imm (.bool false)],
      .box [.imm (slD c.sn 2 (c.sp.map enS)), .imm (slD c.gn 2 (c.gv.map enL)), .imm (slD c.go.nl 1 (c.go.co.map ic)), .imm (.int .i64 c.go.c)] :: st, none⟩) := by
  by_cases h0 : vlE c.go pt = 0
  · have h43 := ok43 n c.go b pt (Nat.le_of_eq (vlE_len h0).symm) hp
    have e1 : vlV c.go pt = vl c.go.co pt c.go.c := by rw [vlV, if_pos h0]
    rw [e1]
    simp only [go_sem, Nat.reduceAdd, Nat.reduceSub, Nat.reduceMul, Nat.reduceDiv, Nat.reduceMod, Nat.reduceLeDiff, Nat.reduceLT, Nat.reduceBEq, Int.reduceToNat, Int.reduceLT, Int.reduceLE, Int.reduceEq] at h43
    simp only [go_sem, Nat.reduceAdd, Nat.reduceSub, Nat.reduceMul, Nat.reduceDiv, Nat.reduceMod, Nat.reduceLeDiff, Nat.reduceLT, Nat.reduceBEq, Int.reduceToNat, Int.reduceLT, Int.reduceLE, Int.reduceEq, h0, h43, ne_eq, not_true_eq_false]
  · have e1 : vlV c.go pt = 0 := by rw [vlV, if_neg h0]
    rw [e1]
    simp only [go_sem, Nat.reduceAdd, Nat.reduceSub, Nat.reduceMul, Nat.reduceDiv, Nat.reduceMod, Nat.reduceLeDiff, Nat.reduceLT, Nat.reduceBEq, Int.reduceToNat, Int.reduceLT, Int.reduceLE, Int.reduceEq, h0, ne_eq, not_true_eq_false, not_false_eq_true]
@[go_sem high] theorem r6_13n {n : Nat} {c : Cl} {b : Bool}  {v4 v5 v6 v7 : AV}  :
    aCode (level E (n + 1)) cx (.region [
  ⟨none, none, .mv (.var 10)⟩,
  ⟨none, none, .mv (.var 8)⟩,
  ⟨none, none, .bin .neq (.loc 0) (.loc 1)⟩,
  ⟨none, none, .mv (.loc 2)⟩,
  ⟨none, some (3, false), .mv (.var 8)⟩,
  ⟨none, some (3, false), .bin .eql (.loc 4) (.k (.int .i64 0))⟩,
  ⟨none, some (3, false), .mv (.loc 5)⟩,
  ⟨none, some (6, true), .mv (.var 9)⟩,
  ⟨none, some (6, true), .faddr 2 (.var 3)⟩,
  ⟨none, some (6, true), .load true 2 (.loc 8)⟩,
  ⟨none, some (6, true), .mv (.var 1)⟩,
  ⟨none, some (6, true), .call .pure (.k (.fn 43 [] [])) [(.loc 9), (.loc 10)]⟩,
  ⟨none, some (6, true), .bin .neq (.loc 7) (.loc 11)⟩,
  ⟨none, some (3, false), .pick (.loc 6) (.loc 12) (.k (.bool false))⟩,
  ⟨none, none, .pick (.loc 3) (.k (.bool true)) (.loc 13)⟩,
  ⟨none, none, .mv (.loc 14)⟩,
  ⟨none, some (15, false), .mv (.var 8)⟩,
  ⟨none, some (15, false), .bin .neq (.loc 16) (.k (.int .i64 0))⟩,
  ⟨none, some (15, false), .mv (.loc 17)⟩,
  ⟨none, some (18, true), .mv (.var 9)⟩,
  ⟨none, some (18, true), .bin .neq (.loc 19) (.k (.int .i64 0))⟩,
  ⟨none, some (15, false), .pick (.loc 18) (.loc 20) (.k (.bool false))⟩,
  ⟨(some 22), none, .pick (.loc 15) (.k (.bool true)) (.loc 21)⟩] none) ⟨[v0, .imm (slD b 1 []), v2, .ptr 0 0, v4, v5, v6, v7, .imm (.int .i64 (vlE c.go [])), .imm (.int .i64 (vlV c.go [])), .imm (.int .i64 (vlE c.go [])), v11, v12, v13, v14, v15, v16, v17, v18, v19, v20, v21, v22],
      .box [.imm (slD c.sn 2 (c.sp.map enS)), .imm (slD c.gn 2 (c.gv.map enL)), .imm (slD c.go.nl 1 (c.go.co.map ic)), .imm (.int .i64 c.go.c)] :: st, none⟩ =
      some (.normal, ⟨[v0, .imm (slD b 1 []), v2, .ptr 0 0, v4, v5, v6, v7, .imm (.int .i64 (vlE c.go [])), .imm (.int .i64 (vlV c.go [])), .imm (.int .i64 (vlE c.go [])), v11, v12, v13, v14, v15, v16, v17, v18, v19, v20, v21, .imm (.bool false)],
      .box [.imm (slD c.sn 2 (c.sp.map enS)), .imm (slD c.gn 2 (c.gv.map enL)), .imm (slD c.go.nl 1 (c.go.co.map ic)), .imm (.int .i64 c.go.c)] :: st, none⟩) := r6_13 (pt := []) (by simp)
@[go_sem high] theorem r6_13c {n : Nat} {c : Cl} {p0 : Int} {pt : List Int} {v4 v5 v6 v7 : AV} (hp : (p0 :: pt).length < 1000000000) :
    aCode (level E (n + 1)) cx (.region [
  ⟨none, none, .mv (.var 10)⟩,
  ⟨none, none, .mv (.var 8)⟩,
  ⟨none, none, .bin .neq (.loc 0) (.loc 1)⟩,
  ⟨none, none, .mv (.loc 2)⟩,
  ⟨none, some (3, false), .mv (.var 8)⟩,
  ⟨none, some (3, false), .bin .eql (.loc 4) (.k (.int .i64 0))⟩,
  ⟨none, some (3, false), .mv (.loc 5)⟩,
  ⟨none, some (6, true), .mv (.var 9)⟩,
  ⟨none, some (6, true), .faddr 2 (.var 3)⟩,
  ⟨none, some (6, true), .load true 2 (.loc 8)⟩,
  ⟨none, some (6, true), .mv (.var 1)⟩,
  ⟨none, some (6, true), .call .pure (.k (.fn 43 [] [])) [(.loc 9), (.loc 10)]⟩,
  ⟨none, some (6, true), .bin .neq (.loc 7) (.loc 11)⟩,
  ⟨none, some (3, false), .pick (.loc 6) (.loc 12) (.k (.bool false))⟩,
  ⟨none, none, .pick (.loc 3) (.k (.bool true)) (.loc 13)⟩,
  ⟨none, none, .mv (.loc 14)⟩,
  ⟨none, some (15, false), .mv (.var 8)⟩,
  ⟨none, some (15, false), .bin .neq (.loc 16) (.k (.int .i64 0))⟩,
  ⟨none, some (15, false), .mv (.loc 17)⟩,
  ⟨none, some (18, true), .mv (.var 9)⟩,
  ⟨none, some (18, true), .bin .neq (.loc 19) (.k (.int .i64 0))⟩,
  ⟨none, some (15, false), .pick (.loc 18) (.loc 20) (.k (.bool false))⟩,
  ⟨(some 22), none, .pick (.loc 15) (.k (.bool true)) (.loc 21)⟩] none) ⟨[v0, .imm (.sl 1 ([.int .i64 p0] :: pt.map ic)), v2, .ptr 0 0, v4, v5, v6, v7, .imm (.int .i64 (vlE c.go (p0 :: pt))), .imm (.int .i64 (vlV c.go (p0 :: pt))), .imm (.int .i64 (vlE c.go (p0 :: pt))), v11, v12, v13, v14, v15, v16, v17, v18, v19, v20, v21, v22],
      .box [.imm (slD c.sn 2 (c.sp.map enS)), .imm (slD c.gn 2 (c.gv.map enL)), .imm (slD c.go.nl 1 (c.go.co.map ic)), .imm (.int .i64 c.go.c)] :: st, none⟩ =
      some (.normal, ⟨[v0, .imm (.sl 1 ([.int .i64 p0] :: pt.map ic)), v2, .ptr 0 0, v4, v5, v6, v7, .imm (.int .i64 (vlE c.go (p0 :: pt))), .imm (.int .i64 (vlV c.go (p0 :: pt))), .imm (.int .i64 (vlE c.go (p0 :: pt))), v11, v12, v13, v14, v15, v16, v17, v18, v19, v20, v21, .imm (.bool false)],
      .box [.imm (slD c.sn 2 (c.sp.map enS)), .imm (slD c.gn 2 (c.gv.map enL)), .imm (slD c.go.nl 1 (c.go.co.map ic)), .imm (.int .i64 c.go.c)] :: st, none⟩) := r6_13 (b := false) (pt := p0 :: pt) hp
theorem r6_17 {n : Nat} {c : Cl} {b : Bool} {pt : List Int} {v4 v5 v6 v7 : AV} (hc : c.Fit) (hp : pt.length < 1000000000) :
    aCode (level E (n + 2)) cx (.region [
  ⟨none, none, .mv (.var 13)⟩,
  ⟨none, none, .mv (.var 8)⟩,
  ⟨none, none, .bin .eql (.loc 0) (.loc 1)⟩,
  ⟨none, none, .mv (.loc 2)⟩,
  ⟨none, some (3, true), .mv (.var 12)⟩,
  ⟨none, some (3, true), .mv (.var 8)⟩,
  ⟨none, some (3, true), .bin .eql (.loc 5) (.k (.int .i64 0))⟩,
  ⟨none, some (3, true), .mv (.loc 6)⟩,
  ⟨none, some (7, true), .load true 4 (.var 3)⟩,
  ⟨none, some (7, true), .mv (.var 1)⟩,
  ⟨none, some (7, true), .call .pure (.k (.fn 44 [] [])) [(.loc 8), (.loc 9)]⟩,
  ⟨none, some (3, true), .pick (.loc 7) (.loc 10) (.k (.bool false))⟩,
  ⟨none, some (3, true), .eqs false .bool (.loc 4) (.loc 11)⟩,
  ⟨none, none, .pick (.loc 3) (.loc 12) (.k (.bool false))⟩,
  ⟨(some 2), none, .mv (.loc 13)⟩] none) ⟨[v0, .imm (slD b 1 (pt.map ic)), v2, .ptr 0 0, v4, v5, v6, v7, .imm (.int .i64 (rfE c pt)), v9, v10, v11, .imm (.bool (rfV c pt)), .imm (.int .i64 (rfE c pt)), v14, v15, v16, v17, v18, v19, v20, v21, v22],
      .box [.imm (slD c.sn 2 (c.sp.map enS)), .imm (slD c.gn 2 (c.gv.map enL)), .imm (slD c.go.nl 1 (c.go.co.map ic)), .imm (.int .i64 c.go.c)] :: st, none⟩ =
      some (.normal, ⟨[v0, .imm (slD b 1 (pt.map ic)), .imm (.bool true), .ptr 0 0, v4, v5, v6, v7, .imm (.int .i64 (rfE c pt)), v9, v10, v11, .imm (.bool (rfV c pt)), .imm (.int .i64 (rfE c pt)), v14, v15, v16, v17, v18, v19, v20, v21, v22],
      .box [.imm (slD c.sn 2 (c.sp.map enS)), .imm (slD c.gn 2 (c.gv.map enL)), .imm (slD c.go.nl 1 (c.go.co.map ic)), .imm (.int .i64 c.go.c)] :: st, none⟩) := by
  by_cases h0 : rfE c pt = 0
  · have f := fz0 _ h0
    have q1 : clErr c = 0 := f _ (List.mem_cons_self)
    have q2 := f (if decide (pt.length ≠ c.sp.length) then 2 else 0) (by simp)
    have q3 : pt.length = c.sp.length := by
      by_cases h : pt.length = c.sp.length
      · exact h
      · simp [h] at q2
    have hg := hc.gv
    have h44 := ok44 n c b pt (clErr_even hc q1) q3 (by omega) hp
    have e1 : rfV c pt = rfB c pt := by rw [rfV, if_pos h0]
    rw [e1]
    simp only [go_sem, Nat.reduceAdd, Nat.reduceSub, Nat.reduceMul, Nat.reduceDiv, Nat.reduceMod, Nat.reduceLeDiff, Nat.reduceLT, Nat.reduceBEq, Int.reduceToNat, Int.reduceLT, Int.reduceLE, Int.reduceEq] at h44
    cases hr : rfB c pt <;> rw [hr] at h44 <;> simp only [go_sem, Nat.reduceAdd, Nat.reduceSub, Nat.reduceMul, Nat.reduceDiv, Nat.reduceMod, Nat.reduceLeDiff, Nat.reduceLT, Nat.reduceBEq, Int.reduceToNat, Int.reduceLT, Int.reduceLE, Int.reduceEq, h0, h44, b00, b11]
  · have e1 : rfV c pt = false := by rw [rfV, if_neg h0]
    rw [e1]
    simp only [go_sem, Nat.reduceAdd, Nat.reduceSub, Nat.reduceMul, Nat.reduceDiv, Nat.reduceMod, Nat.reduceLeDiff, Nat.reduceLT, Nat.reduceBEq, Int.reduceToNat, Int.reduceLT, Int.reduceLE, Int.reduceEq, h0, b00]
@[go_sem high] theorem r6_17n {n : Nat} {c : Cl} {b : Bool}  {v4 v5 v6 v7 : AV} (hc : c.Fit)  :
    aCode (level E (n + 2)) cx (.region [
  ⟨none, none, .mv (.var 13)⟩,
  ⟨none, none, .mv (.var 8)⟩,
  ⟨none, none, .bin .eql (.loc 0) (.loc 1)⟩,
  ⟨none, none, .mv (.loc 2)⟩,
  ⟨none, some (3, true), .mv (.var 12)⟩,
  ⟨none, some (3, true), .mv (.var 8)⟩,
  ⟨none, some (3, true), .bin .eql (.loc 5) (.k (.int .i64 0))⟩,
  ⟨none, some (3, true), .mv (.loc 6)⟩,
  ⟨none, some (7, true), .load true 4 (.var 3)⟩,
  ⟨none, some (7, true), .mv (.var 1)⟩,
  ⟨none, some (7, true), .call .pure (.k (.fn 44 [] [])) [(.loc 8), (.loc 9)]⟩,
  ⟨none, some (3, true), .pick (.loc 7) (.loc 10) (.k (.bool false))⟩,
  ⟨none, some (3, true), .eqs false .bool (.loc 4) (.loc 11)⟩,
  ⟨none, none, .pick (.loc 3) (.loc 12) (.k (.bool false))⟩,
  ⟨(some 2), none, .mv (.loc 13)⟩] none) ⟨[v0, .imm (slD b 1 []), v2, .ptr 0 0, v4, v5, v6, v7, .imm (.int .i64 (rfE c [])), v9, v10, v11, .imm (.bool (rfV c [])), .imm (.int .i64 (rfE c [])), v14, v15, v16, v17, v18, v19, v20, v21, v22],
      .box [.imm (slD c.sn 2 (c.sp.map enS)), .imm (slD c.gn 2 (c.gv.map enL)), .imm (slD c.go.nl 1 (c.go.co.map ic)), .imm (.int .i64 c.go.c)] :: st, none⟩ =
      some (.normal, ⟨[v0, .imm (slD b 1 []), .imm (.bool true), .ptr 0 0, v4, v5, v6, v7, .imm (.int .i64 (rfE c [])), v9, v10, v11, .imm (.bool (rfV c [])), .imm (.int .i64 (rfE c [])), v14, v15, v16, v17, v18, v19, v20, v21, v22],
      .box [.imm (slD c.sn 2 (c.sp.map enS)), .imm (slD c.gn 2 (c.gv.map enL)), .imm (slD c.go.nl 1 (c.go.co.map ic)), .imm (.int .i64 c.go.c)] :: st, none⟩) := r6_17 (pt := []) hc (by simp)
@[go_sem high] theorem r6_17c {n : Nat} {c : Cl} {p0 : Int} {pt : List Int} {v4 v5 v6 v7 : AV} (hc : c.Fit) (hp : (p0 :: pt).length < 1000000000) :
    aCode (level E (n + 2)) cx (.region [
  ⟨none, none, .mv (.var 13)⟩,
  ⟨none, none, .mv (.var 8)⟩,
  ⟨none, none, .bin .eql (.loc 0) (.loc 1)⟩,
  ⟨none, none, .mv (.loc 2)⟩,
  ⟨none, some (3, true), .mv (.var 12)⟩,
  ⟨none, some (3, true), .mv (.var 8)⟩,
  ⟨none, some (3, true), .bin .eql (.loc 5) (.k (.int .i64 0))⟩,
  ⟨none, some (3, true), .mv (.loc 6)⟩,
  ⟨none, some (7, true), .load true 4 (.var 3)⟩,
  ⟨none, some (7, true), .mv (.var 1)⟩,
  ⟨none, some (7, true), .call .pure (.k (.fn 44 [] [])) [(.loc 8), (.loc 9)]⟩,
  ⟨none, some (3, true), .pick (.loc 7) (.loc 10) (.k (.bool false))⟩,
  ⟨none, some (3, true), .eqs false .bool (.loc 4) (.loc 11)⟩,
  ⟨none, none, .pick (.loc 3) (.loc 12) (.k (.bool false))⟩,
  ⟨(some 2), none, .mv (.loc 13)⟩] none) ⟨[v0, .imm (.sl 1 ([.int .i64 p0] :: pt.map ic)), v2, .ptr 0 0, v4, v5, v6, v7, .imm (.int .i64 (rfE c (p0 :: pt))), v9, v10, v11, .imm (.bool (rfV c (p0 :: pt))), .imm (.int .i64 (rfE c (p0 :: pt))), v14, v15, v16, v17, v18, v19, v20, v21, v22],
      .box [.imm (slD c.sn 2 (c.sp.map enS)), .imm (slD c.gn 2 (c.gv.map enL)), .imm (slD c.go.nl 1 (c.go.co.map ic)), .imm (.int .i64 c.go.c)] :: st, none⟩ =
      some (.normal, ⟨[v0, .imm (.sl 1 ([.int .i64 p0] :: pt.map ic)), .imm (.bool true), .ptr 0 0, v4, v5, v6, v7, .imm (.int .i64 (rfE c (p0 :: pt))), v9, v10, v11, .imm (.bool (rfV c (p0 :: pt))), .imm (.int .i64 (rfE c (p0 :: pt))), v14, v15, v16, v17, v18, v19, v20, v21, v22],
      .box [.imm (slD c.sn 2 (c.sp.map enS)), .imm (slD c.gn 2 (c.gv.map enL)), .imm (slD c.go.nl 1 (c.go.co.map ic)), .imm (.int .i64 c.go.c)] :: st, none⟩) := r6_17 (b := false) (pt := p0 :: pt) hc hp
end
end Go.Vm.P12

/- Chapter 12, plain laws: the points of a box, and what is said of them. -/
set_option maxRecDepth 100000
set_option maxHeartbeats 2000000
namespace Go.Vm.P12
open Go Go.Vm
theorem rng_mem : ∀ (k : Nat) (lo n : Int), n ∈ rngI lo k ↔ lo ≤ n ∧ n < lo + k
  | 0, lo, n => by simp only [rngI, List.not_mem_nil, false_iff]; omega
  | k + 1, lo, n => by
    rw [rngI, List.mem_cons, rng_mem k]
    omega
theorem mem_exts {lo : Int} {k : Nat} {ps : List (List Int)} {y : List Int} : y ∈ exts lo k ps ↔ ∃ x ∈ ps, ∃ n, (lo ≤ n ∧ n < lo + k) ∧ y = x ++ [n] := by
  constructor
  · intro h
    obtain ⟨x, hx, n, hn, e⟩ := exts_mem h
    exact ⟨x, hx, n, (rng_mem k lo n).1 hn, e⟩
  · rintro ⟨x, hx, n, hn, rfl⟩
    exact List.mem_flatMap.2 ⟨x, hx, List.mem_map.2 ⟨n, (rng_mem k lo n).2 hn, rfl⟩⟩
theorem mem_pts : ∀ (t : List Sp) (r : Bool) (ps : List (List Int)), (∀ s ∈ t, s.lo ≤ s.hi) → (ptsR r t ps).1 = true → ∀ x, x ∈ (ptsR r t ps).2.2 ↔ ∃ y ∈ ps, ∃ w, x = y ++ w ∧ w.length = t.length ∧ ins w t = true
  | [], r, ps, _, h, x => by
    simp only [ptsR]
    constructor
    · intro hx; exact ⟨x, hx, [], by simp, rfl, rfl⟩
    · rintro ⟨y, hy, w, rfl, hw, _⟩
      rw [List.length_eq_zero_iff.1 hw, List.append_nil]; exact hy
  | s :: t, r, ps, ho, h, x => by
    by_cases hb : 8 < s.hi - s.lo
    · simp [ptsR, hb] at h
    · simp only [ptsR, hb, if_false] at h ⊢
      rw [mem_pts t true _ (fun y hy => ho y (List.mem_cons_of_mem _ hy)) h x]
      constructor
      · rintro ⟨y, hy, w, rfl, hw, hi⟩
        obtain ⟨z, hz, n, hn, rfl⟩ := mem_exts.1 hy
        refine ⟨z, hz, n :: w, by simp, by simp [hw], ?_⟩
        have e : offB n s.lo s.hi = false := by
          simp only [offB, Bool.or_eq_false_iff, decide_eq_false_iff_not]
          have hs := ho s (List.mem_cons_self)
          unfold wdN at hn; omega
        simp only [ins, e, hi]; rfl
      · rintro ⟨y, hy, w, rfl, hw, hi⟩
        cases w with
        | nil => simp at hw
        | cons n w =>
          obtain ⟨b1, b2, b3⟩ := ins_c hi
          have hn : s.lo ≤ n ∧ n < s.lo + ((wdN s + 1 : Nat) : Int) := by unfold wdN; omega
          exact ⟨y ++ [n], mem_exts.2 ⟨y, hy, n, hn, rfl⟩, w, by simp, by simpa using hw, b3⟩
theorem pts_len : ∀ (t : List Sp) (r : Bool) (ps : List (List Int)), ps.length * 9 ^ t.length ≤ 729 → (∀ s ∈ t, s.lo ≤ s.hi) → (ptsR r t ps).1 = true → (ptsR r t ps).2.2.length ≤ 729
  | [], r, ps, h, _, _ => by simpa [ptsR] using h
  | s :: t, r, ps, h, ho, hk => by
    by_cases hb : 8 < s.hi - s.lo
    · simp [ptsR, hb] at hk
    · simp only [ptsR, hb, if_false] at hk ⊢
      refine pts_len t true _ ?_ (fun y hy => ho y (List.mem_cons_of_mem _ hy)) hk
      rw [exts_len]
      refine Nat.le_trans ?_ h
      rw [Nat.mul_assoc, List.length_cons, Nat.pow_succ]
      apply Nat.mul_le_mul_left
      rw [Nat.mul_comm]
      apply Nat.mul_le_mul_left
      unfold wdN; omega
theorem ins_co : ∀ {pt : List Int} {sp : List Sp}, ins pt sp = true → pt.length = sp.length → SpOk sp → CoOk pt
  | [], _, _, _, _, a, ha => by cases ha
  | p :: pt, [], _, h, _, _, _ => by simp at h
  | p :: pt, s :: sp, h, hl, ho, a, ha => by
    obtain ⟨b1, b2, b3⟩ := ins_c h
    obtain ⟨s1, s2, s3⟩ := ho s (List.mem_cons_self)
    rcases List.mem_cons.1 ha with rfl | ha
    · omega
    · exact ins_co b3 (by simpa using hl) (fun y hy => ho y (List.mem_cons_of_mem _ hy)) a ha
def gvs (c : Cl) (x : List Int) : Bool := c.gv.all fun g => decide (0 ≤ V g x)
def rfx (c : Cl) (x : List Int) : Bool := gvs c x && decide (V c.go x < 0)
theorem clErr_ln {c : Cl} (h : clErr c = 0) : ∀ x, x ∈ c.gv ∨ x = c.go → lnErr x c.sp.length = 0 := by
  have h2 : fnz ((c.gv ++ [c.go]).map fun l => lnErr l c.sp.length) = 0 := by
    unfold clErr at h
    by_cases h1 : clE0 c.sp c.gv = 0
    · rw [if_pos h1] at h; exact h
    · rw [if_neg h1] at h; exact absurd h h1
  intro x hx
  exact fz0 _ h2 _ (List.mem_map_of_mem (by rcases hx with h | h <;> simp [h]))
theorem val_V {c : Cl} (G : Good c) (h : clErr c = 0) {x : List Int} (hl : x.length = c.sp.length) (hco : CoOk x) {g : Ln} (hg : g ∈ c.gv ∨ g = c.go) : value (lnc g) x = .tup [.int .i64 (V g x), .int .i64 0] := by
  have h1 := clErr_ln h g hg
  have n6 := G.n6
  have hok : LnOk g := by
    rcases hg with hg | rfl
    · exact G.gv g hg
    · exact G.go
  have hgl : g.co.length = c.sp.length := by
    rcases hg with hg | rfl
    · exact G.ev.gv g hg
    · exact G.ev.go
  have hE : vlE (lnc g) x = 0 := by
    have e1 : lnErr (lnc g) x.length = 0 := by rw [hl]; exact h1
    have e2 : ptB x = false := any_t hco
    have e3 : ¬ (6 : Int) < x.length := by omega
    unfold vlE
    rw [e1, e2]
    simp [fnz, e3]
  have hv : vl g.co x g.c = V g x := vl_V hok hco (by omega)
  have hv' : vl (lnc g).co x (lnc g).c = V g x := hv
  unfold value
  rw [if_pos hE, hv']
theorem neg_V {c : Cl} (G : Good c) {x : List Int} (hco : CoOk x) {g : Ln} (hg : g ∈ c.gv ∨ g = c.go) : neg1 x g = decide (V g x < 0) := by
  have n6 := G.n6
  have hok : LnOk g := by
    rcases hg with hg | rfl
    · exact G.gv g hg
    · exact G.go
  have hgl : g.co.length = c.sp.length := by
    rcases hg with hg | rfl
    · exact G.ev.gv g hg
    · exact G.ev.go
  unfold neg1
  rw [vl_V hok hco (by omega)]
theorem rfB_V {c : Cl} (G : Good c) {x : List Int} (hi : ins x c.sp = true) (hl : x.length = c.sp.length) : rfB c x = rfx c x := by
  have hco := ins_co hi hl G.sp
  unfold rfB rfx gvs
  rw [hi, neg_V G hco (.inr rfl), Bool.true_and]
  congr 1
  rw [Bool.eq_iff_iff]
  simp only [Bool.not_eq_true', List.any_eq_false, List.all_eq_true, decide_eq_true_eq]
  constructor
  · intro h g hg
    have := h g hg
    rw [neg_V G hco (.inl hg)] at this
    simp only [decide_eq_true_eq] at this
    omega
  · intro h g hg
    have := h g hg
    rw [neg_V G hco (.inl hg)]
    simp only [decide_eq_true_eq]
    omega
theorem refutes_V {c : Cl} (hf : c.Fit) (h : clErr c = 0) {x : List Int} (hi : ins x c.sp = true) (hl : x.length = c.sp.length) : refutes (cpy c) x = .tup [.bool (rfx c x), .int .i64 0] := by
  have G := clErr_good hf h
  have hE : rfE c x = 0 := by
    unfold rfE
    simp [fnz, h, hl]
  rw [refutes_tup, cpy_rfV, cpy_rfE, hE]
  unfold rfV
  rw [if_pos hE, rfB_V G hi hl]
theorem ref_cpy {c : Cl} {pt : List Int} (h : Ref (cpy c) pt) : Ref c pt := by
  obtain ⟨h1, h2, h3, h4⟩ := h
  refine ⟨h1, h2, fun g hg => ?_, h4⟩
  exact h3 (lnc g) (List.mem_map_of_mem hg)
theorem ref_rfx {c : Cl} {pt : List Int} (h : Ref c pt) : rfx c pt = true := by
  obtain ⟨h1, h2, h3, h4⟩ := h
  unfold rfx gvs
  rw [Bool.and_eq_true, decide_eq_true_eq, List.all_eq_true]
  exact ⟨fun g hg => decide_eq_true (h3 g hg), h4⟩
theorem dec_three {c : Cl} (hf : c.Fit) (h : clErr c = 0) (h13 : c.gv.length ≤ 13) (h8 : c.sp.length ≤ 8) {t : Nat} (h1 : 1 ≤ t) (ht : t ≤ 400) :
    (∃ p : List Int, dcD (cpy c) t = .tup [.agg [.nil], slD true 1 (p.map ic), .bool false, .int .i64 30]) ∨
    (∃ st : List Stp, dcD (cpy c) t = .tup [.agg [slD false 9 (st.map enT)], .nil, .bool true, .int .i64 0] ∧ chk (cpy c) st = .tup [.int .i64 0, .int .i64 0] ∧ (∀ s ∈ st, s.Fits) ∧ st.length ≤ 400 ∧
      ∀ x : List Int, x.length = c.sp.length → ins x c.sp = true → rfx c x = false) ∨
    (∃ pt : List Int, dcD (cpy c) t = .tup [.agg [.nil], slD true 1 (pt.map ic), .bool false, .int .i64 0] ∧ Ref c pt) := by
  have hf' := cpy_fit hf
  have hc' : clErr (cpy c) = 0 := by rw [cpy_err]; exact h
  have G' := clErr_good hf' hc'
  have hE : decE (cpy c) (t : Int) = 0 := by
    unfold decE
    have : offB (t : Int) 1 400 = false := by simp only [offB, Bool.or_eq_false_iff, decide_eq_false_iff_not]; omega
    rw [hc', this]; rfl
  have hd : dcD (cpy c) (t : Int) = if (dec t t (cpy c) []).ok then .tup [.agg [slD false 9 ((dec t t (cpy c) []).st.map enT)], .nil, .bool true, .int .i64 0] else .tup [.agg [.nil], slD true 1 ((dec t t (cpy c) []).pt.map ic), .bool false, .int .i64 (dec t t (cpy c) []).e] := by
    unfold dcD
    rw [if_pos hE, Int.toNat_natCast]
  rw [hd]
  by_cases hok : (dec t t (cpy c) []).ok = true
  · right; left
    obtain ⟨e0, hne, hlen, hchk⟩ := made_ok hf' hc' ht hok
    have hsm := dec_small t t (cpy c) [] G'.ev
    refine ⟨(dec t t (cpy c) []).st, by rw [if_pos hok], hchk, fun s hs => ?_, hlen, fun x hl hi => ?_⟩
    · rcases hsm s hs with h | h
      · cases h
      · have a1 := h.1
        have a2 := h.2.1
        have a3 := h.2.2
        have : (cpy c).gv.length = c.gv.length := by simp [cpy]
        have : (cpy c).sp.length = c.sp.length := rfl
        exact ⟨by omega, by omega, by omega⟩
    · have hcf : cform (cpy c) (dec t t (cpy c) []).st = 0 := by
        unfold chk at hchk
        by_cases h0 : cform (cpy c) (dec t t (cpy c) []).st = 0
        · exact h0
        · rw [if_neg h0] at hchk
          simp only [D.tup.injEq, List.cons.injEq, D.int.injEq] at hchk
          exact absurd hchk.2.1.2 h0
      have hck : (chkR (cpy c) (dec t t (cpy c) []).st).2 = 0 := by
        unfold chk at hchk
        rw [if_pos hcf] at hchk
        by_cases h0 : (chkR (cpy c) (dec t t (cpy c) []).st).2 = 0
        · exact h0
        · rw [if_neg h0] at hchk
          simp only [D.tup.injEq, List.cons.injEq, D.int.injEq] at hchk
          exact absurd hchk.2.1.2 h0
      cases hr : rfx c x
      · rfl
      · unfold rfx gvs at hr
        rw [Bool.and_eq_true, decide_eq_true_eq, List.all_eq_true] at hr
        have := right_sound hf' hcf hck (pt := x) hl hi (fun g hg => by
          obtain ⟨y, hy, rfl⟩ := List.mem_map.1 hg
          exact of_decide_eq_true (hr.1 y hy))
        have e : V (cpy c).go x = V c.go x := rfl
        rw [e] at this
        omega
  · obtain ⟨d1, d2⟩ := dec_no t t (cpy c) [] G' (by simpa using hok)
    rcases d1 with d1 | d1
    · right; right
      exact ⟨_, by rw [if_neg hok, d1], ref_cpy (d2 d1)⟩
    · left
      exact ⟨_, by rw [if_neg hok, d1]⟩
theorem chk_two {c : Cl} (hf : c.Fit) (l : List Stp) : ∃ a e : Int, chk (cpy c) l = .tup [.int .i64 a, .int .i64 e] ∧ (e = 0 → ∀ x : List Int, x.length = c.sp.length → ins x c.sp = true → rfx c x = false) := by
  have hf' := cpy_fit hf
  unfold chk
  by_cases h0 : cform (cpy c) l = 0
  · rw [if_pos h0]
    by_cases h1 : (chkR (cpy c) l).2 = 0
    · rw [if_pos h1]
      refine ⟨0, 0, rfl, fun _ x hl hi => ?_⟩
      cases hr : rfx c x
      · rfl
      · unfold rfx gvs at hr
        rw [Bool.and_eq_true, decide_eq_true_eq, List.all_eq_true] at hr
        have := right_sound hf' h0 h1 (pt := x) hl hi (fun g hg => by
          obtain ⟨y, hy, rfl⟩ := List.mem_map.1 hg
          exact of_decide_eq_true (hr.1 y hy))
        have e : V (cpy c).go x = V c.go x := rfl
        rw [e] at this
        omega
    · rw [if_neg h1]
      exact ⟨_, _, rfl, fun h => absurd h h1⟩
  · rw [if_neg h0]
    exact ⟨_, _, rfl, fun h => absurd h h0⟩
end Go.Vm.P12

/- Chapter 12, the laws: ProveHolds, going through the points. -/
set_option maxRecDepth 100000
set_option maxHeartbeats 4000000
namespace Go.Vm.P12
open Go Go.Vm
structure At (n : Nat) (c : Cl) (x : List Int) : Prop where
  len : x.length < 100
  gv : ∀ g ∈ c.gv, callP (level E (n + 9)) 24 [.agg (enL (lnc g)), .sl 1 (x.map ic)] = some (.tup [.int .i64 (V g x), .int .i64 0])
  go : callP (level E (n + 9)) 24 [.agg (enL (lnc c.go)), .sl 1 (x.map ic)] = some (.tup [.int .i64 (V c.go x), .int .i64 0])
theorem l4_3 {n : Nat} {c : Cl} (hf : c.Fit) {bp : Bool} {pr : List Stp} {r : Bool} {ps : List (List Int)} {x : List Int} (hx : At n c x) {a b : Bool} {i : Int} : ∀ (q : List Ln) (j : Nat) (k : Bool), c.gv.drop j = q →
    outC ⟨0, false⟩ [0, 0, 0, 1, 1, 0, 0, 0, 0, 0, 1, 1, 1, 0, 1, 0, 0, 0, 0, 0, 0, 0, 0, 0, 0, 0, 0, 0, 0, 0, 0, 0, 0, 0, 0, 0, 0, 0, 0, 1, 1, 1, 0, 0, 0, 0, 0, 0, 0, 0, 0, 0]
      (rnd (aCode (level E (n + 9)) ⟨0, false⟩ b4_3) (head ⟨0, false⟩ [0, 0, 0, 1, 1, 0, 0, 0, 0, 0, 1, 1, 1, 0, 1, 0, 0, 0, 0, 0, 0, 0, 0, 0, 0, 0, 0, 0, 0, 0, 0, 0, 0, 0, 0, 0, 0, 0, 0, 1, 1, 1, 0, 0, 1, 1, 1, 0, 0, 0, 0, 0])
      ⟨[.junk, .junk, .junk, .ptr 0 0, .ptr 1 0, .junk, .junk, .junk, .junk, .junk, .imm (.bool a), .imm (.sl 1 (x.map ic)), .imm (.bool b), .junk, .imm (.bool k), .junk, .junk, .junk, .junk, .junk, .junk, .junk, .junk, .junk, .junk, .junk, .junk, .junk, .junk, .junk, .junk, .junk, .junk, .junk, .junk, .junk, .junk, .junk, .junk, vS r 2 ps, .imm (.int .i64 ps.length), .imm (.int .i64 i), .junk, .junk, .imm (slD c.gn 2 (c.gv.map enL)), .imm (.int .i64 c.gv.length), .imm (.int .i64 j), .junk, .junk, .junk, .junk, .junk],
       [.box ((enC c).map .imm), .box [.imm (slD bp 9 (pr.map enT))]] ++ oS r ps, none⟩) =
      some (.exit 8, ⟨[.junk, .junk, .junk, .ptr 0 0, .ptr 1 0, .junk, .junk, .junk, .junk, .junk, .imm (.bool a), .imm (.sl 1 (x.map ic)), .imm (.bool b), .junk, .imm (.bool (k && q.all fun g => decide (0 ≤ V g x))), .junk, .junk, .junk, .junk, .junk, .junk, .junk, .junk, .junk, .junk, .junk, .junk, .junk, .junk, .junk, .junk, .junk, .junk, .junk, .junk, .junk, .junk, .junk, .junk, vS r 2 ps, .imm (.int .i64 ps.length), .imm (.int .i64 i), .junk, .junk, .junk, .junk, .junk, .junk, .junk, .junk, .junk, .junk],
       [.box ((enC c).map .imm), .box [.imm (slD bp 9 (pr.map enT))]] ++ oS r ps, none⟩)
  | [], j, k, h => by
    have e := lt_f (drop_n h)
    rw [rnd_eq]
    cases r <;> simp only [go_sem, Nat.reduceAdd, Nat.reduceSub, Nat.reduceMul, Nat.reduceDiv, Nat.reduceMod, Nat.reduceLeDiff, Nat.reduceLT, Nat.reduceBEq, Int.reduceToNat, Int.reduceLT, Int.reduceLE, Int.reduceEq, vS, oS, e, List.all_nil, Bool.and_true]
  | g :: q, j, k, h => by
    obtain ⟨h1, h2, hd⟩ := drop_c h
    have hg := hf.gv
    have h6 := wrpS (i := j) (by omega)
    have hm := List.mem_of_getElem? h1
    have h24 := hx.gv g hm
    have h25 := ok25 (n + 8) g (hf.ln g hm)
    have hxl := hx.len
    have IH := l4_3 (n := n) (c := c) hf (bp := bp) (pr := pr) (r := r) (ps := ps) hx (a := a) (b := b) (i := i) q (j + 1) (k && decide (0 ≤ V g x)) hd
    rw [rnd_eq, List.all_cons]
    rw [← Bool.and_assoc]
    simp only [go_sem, Nat.reduceAdd, Nat.reduceSub, Nat.reduceMul, Nat.reduceDiv, Nat.reduceMod, Nat.reduceLeDiff, Nat.reduceLT, Nat.reduceBEq, Int.reduceToNat, Int.reduceLT, Int.reduceLE, Int.reduceEq] at h25
    rcases x with _ | ⟨x0, x⟩
    · simp only [go_sem, Nat.reduceAdd, Nat.reduceSub, Nat.reduceMul, Nat.reduceDiv, Nat.reduceMod, Nat.reduceLeDiff, Nat.reduceLT, Nat.reduceBEq, Int.reduceToNat, Int.reduceLT, Int.reduceLE, Int.reduceEq] at h24
      cases k <;> cases r <;> simp only [go_sem, Nat.reduceAdd, Nat.reduceSub, Nat.reduceMul, Nat.reduceDiv, Nat.reduceMod, Nat.reduceLeDiff, Nat.reduceLT, Nat.reduceBEq, Int.reduceToNat, Int.reduceLT, Int.reduceLE, Int.reduceEq, vS, oS, Bool.false_and, Bool.true_and] at IH ⊢ <;> simp only [go_sem, Nat.reduceAdd, Nat.reduceSub, Nat.reduceMul, Nat.reduceDiv, Nat.reduceMod, Nat.reduceLeDiff, Nat.reduceLT, Nat.reduceBEq, Int.reduceToNat, Int.reduceLT, Int.reduceLE, Int.reduceEq, lt_t h2, h1, h6, h24, h25] <;> exact IH
    · simp only [List.length_cons] at hxl
      have h5 : (x.length + 1) * 9 ≤ 70368744177664 := by omega
      simp only [go_sem, Nat.reduceAdd, Nat.reduceSub, Nat.reduceMul, Nat.reduceDiv, Nat.reduceMod, Nat.reduceLeDiff, Nat.reduceLT, Nat.reduceBEq, Int.reduceToNat, Int.reduceLT, Int.reduceLE, Int.reduceEq] at h24
      cases k <;> cases r <;> simp only [go_sem, Nat.reduceAdd, Nat.reduceSub, Nat.reduceMul, Nat.reduceDiv, Nat.reduceMod, Nat.reduceLeDiff, Nat.reduceLT, Nat.reduceBEq, Int.reduceToNat, Int.reduceLT, Int.reduceLE, Int.reduceEq, vS, oS, Bool.false_and, Bool.true_and] at IH ⊢ <;> simp only [go_sem, Nat.reduceAdd, Nat.reduceSub, Nat.reduceMul, Nat.reduceDiv, Nat.reduceMod, Nat.reduceLeDiff, Nat.reduceLT, Nat.reduceBEq, Int.reduceToNat, Int.reduceLT, Int.reduceLE, Int.reduceEq, lt_t h2, h1, h6, h24, h25, h5] <;> exact IH
end Go.Vm.P12

/- Chapter 12, the laws: ProveHolds, going through the points, whole. -/
set_option maxRecDepth 100000
set_option maxHeartbeats 8000000
namespace Go.Vm.P12
open Go Go.Vm
theorem l4_4 {n : Nat} {c : Cl} (hf : c.Fit) {bp : Bool} {pr : List Stp} {r : Bool} {ps : List (List Int)} (hx : ∀ x ∈ ps, At n c x) (hr : ∀ x ∈ ps, callP (level E (n + 9)) 23 [.agg (enC (cpy c)), .sl 1 (x.map ic)] = some (.tup [.bool (rfx c x), .int .i64 0])) (hpl : ps.length < 10000) : ∀ (q : List (List Int)) (j : Nat) (a : Bool), ps.drop j = q →
    outC ⟨0, false⟩ [0, 0, 1, 1, 1, 0, 0, 0, 0, 0, 1, 0, 0, 0, 0, 0, 0, 0, 0, 0, 0, 0, 0, 0, 0, 0, 0, 0, 0, 0, 0, 0, 0, 0, 0, 0, 0, 0, 0, 0, 0, 0, 0, 0, 0, 0, 0, 0, 0, 0, 0, 0]
      (rnd (aCode (level E (n + 9)) ⟨0, false⟩ b4_4) (head ⟨0, false⟩ [0, 0, 0, 1, 1, 0, 0, 0, 0, 0, 1, 0, 0, 0, 0, 0, 0, 0, 0, 0, 0, 0, 0, 0, 0, 0, 0, 0, 0, 0, 0, 0, 0, 0, 0, 0, 0, 0, 0, 1, 1, 1, 0, 0, 0, 0, 0, 0, 0, 0, 0, 0])
      ⟨[.junk, .junk, .junk, .ptr 0 0, .ptr 1 0, .junk, .junk, .junk, .junk, .junk, .imm (.bool a), .junk, .junk, .junk, .junk, .junk, .junk, .junk, .junk, .junk, .junk, .junk, .junk, .junk, .junk, .junk, .junk, .junk, .junk, .junk, .junk, .junk, .junk, .junk, .junk, .junk, .junk, .junk, .junk, vS r 2 ps, .imm (.int .i64 ps.length), .imm (.int .i64 j), .junk, .junk, .junk, .junk, .junk, .junk, .junk, .junk, .junk, .junk],
       [.box ((enC c).map .imm), .box [.imm (slD bp 9 (pr.map enT))]] ++ oS r ps, none⟩) =
      some (.exit 6, ⟨[.junk, .junk, .junk, .ptr 0 0, .ptr 1 0, .junk, .junk, .junk, .junk, .junk, .imm (.bool (a || q.any (rfx c))), .junk, .junk, .junk, .junk, .junk, .junk, .junk, .junk, .junk, .junk, .junk, .junk, .junk, .junk, .junk, .junk, .junk, .junk, .junk, .junk, .junk, .junk, .junk, .junk, .junk, .junk, .junk, .junk, .junk, .junk, .junk, .junk, .junk, .junk, .junk, .junk, .junk, .junk, .junk, .junk, .junk],
       [.box ((enC c).map .imm), .box [.imm (slD bp 9 (pr.map enT))]], none⟩)
  | [], j, a, h => by
    have e := lt_f (drop_n h)
    rw [rnd_eq]
    cases r <;> simp only [go_sem, Nat.reduceAdd, Nat.reduceSub, Nat.reduceMul, Nat.reduceDiv, Nat.reduceMod, Nat.reduceLeDiff, Nat.reduceLT, Nat.reduceBEq, Int.reduceToNat, Int.reduceLT, Int.reduceLE, Int.reduceEq, vS, oS, e, List.any_nil, Bool.or_false]
  | x :: q, j, a, h => by
    obtain ⟨h1, h2, hd⟩ := drop_c h
    have h6 := wrpS (i := j) (by omega)
    have h2i : (j : Int) < ((ps.length : Nat) : Int) := by omega
    have hm := List.mem_of_getElem? h1
    have hA := hx x hm
    have h24 := hA.go
    have h23 := hr x hm
    have h25 := ok25 (n + 8) c.go hf.go
    have h11 := ok11 (n + 7) c hf
    have hxl := hA.len
    have hgi := l4_3 (n := n) (c := c) hf (bp := bp) (pr := pr) (r := r) (ps := ps) hA (a := a) (b := rfx c x) (i := j) c.gv 0 true rfl
    have hgv : (c.gv.all fun g => decide (0 ≤ V g x)) = gvs c x := rfl
    rw [hgv, cast0] at hgi
    have IH := l4_4 (n := n) (c := c) hf (bp := bp) (pr := pr) (r := r) (ps := ps) hx hr hpl q (j + 1) (a || rfx c x) hd
    rw [rnd_eq, List.any_cons]
    rw [← Bool.or_assoc]
    have hrf : rfx c x = (gvs c x && decide (V c.go x < 0)) := rfl
    generalize rfx c x = w at *
    generalize gvs c x = g at *
    rcases x with _ | ⟨x0, x⟩
    · simp only [go_sem, Nat.reduceAdd, Nat.reduceSub, Nat.reduceMul, Nat.reduceDiv, Nat.reduceMod, Nat.reduceLeDiff, Nat.reduceLT, Nat.reduceBEq, Int.reduceToNat, Int.reduceLT, Int.reduceLE, Int.reduceEq] at h24 h25 h11 h23
      by_cases hv : V c.go [] < 0
      · simp only [hv, decide_true, Bool.and_true] at hrf
        subst hrf
        cases w <;> cases a <;> cases r <;> simp only [go_sem, Nat.reduceAdd, Nat.reduceSub, Nat.reduceMul, Nat.reduceDiv, Nat.reduceMod, Nat.reduceLeDiff, Nat.reduceLT, Nat.reduceBEq, Int.reduceToNat, Int.reduceLT, Int.reduceLE, Int.reduceEq, vS, oS, Bool.true_and, Bool.false_or, Bool.true_or] at hgi IH ⊢ <;> simp only [go_sem, Nat.reduceAdd, Nat.reduceSub, Nat.reduceMul, Nat.reduceDiv, Nat.reduceMod, Nat.reduceLeDiff, Nat.reduceLT, Nat.reduceBEq, Int.reduceToNat, Int.reduceLT, Int.reduceLE, Int.reduceEq, h2i, lt_t h2, h1, h6, h24, h25, h11, h23, hgi, hv, ep, b00, b11, b01, b10, ne_eq, not_true_eq_false, Int.natCast_nonneg, Nat.mul_one, Nat.mod_one, Nat.div_one] <;> exact IH
      · simp only [hv, decide_false, Bool.and_false] at hrf
        subst hrf
        cases g <;> cases a <;> cases r <;> simp only [go_sem, Nat.reduceAdd, Nat.reduceSub, Nat.reduceMul, Nat.reduceDiv, Nat.reduceMod, Nat.reduceLeDiff, Nat.reduceLT, Nat.reduceBEq, Int.reduceToNat, Int.reduceLT, Int.reduceLE, Int.reduceEq, vS, oS, Bool.true_and, Bool.false_or, Bool.true_or] at hgi IH ⊢ <;> simp only [go_sem, Nat.reduceAdd, Nat.reduceSub, Nat.reduceMul, Nat.reduceDiv, Nat.reduceMod, Nat.reduceLeDiff, Nat.reduceLT, Nat.reduceBEq, Int.reduceToNat, Int.reduceLT, Int.reduceLE, Int.reduceEq, h2i, lt_t h2, h1, h6, h24, h25, h11, h23, hgi, hv, ep, b00, b11, b01, b10, ne_eq, not_true_eq_false, Int.natCast_nonneg, Nat.mul_one, Nat.mod_one, Nat.div_one] <;> exact IH
    · simp only [List.length_cons] at hxl
      have h5 : (x.length + 1) * 9 ≤ 70368744177664 := by omega
      simp only [go_sem, Nat.reduceAdd, Nat.reduceSub, Nat.reduceMul, Nat.reduceDiv, Nat.reduceMod, Nat.reduceLeDiff, Nat.reduceLT, Nat.reduceBEq, Int.reduceToNat, Int.reduceLT, Int.reduceLE, Int.reduceEq] at h24 h25 h11 h23
      by_cases hv : V c.go (x0 :: x) < 0
      · simp only [hv, decide_true, Bool.and_true] at hrf
        subst hrf
        cases w <;> cases a <;> cases r <;> simp only [go_sem, Nat.reduceAdd, Nat.reduceSub, Nat.reduceMul, Nat.reduceDiv, Nat.reduceMod, Nat.reduceLeDiff, Nat.reduceLT, Nat.reduceBEq, Int.reduceToNat, Int.reduceLT, Int.reduceLE, Int.reduceEq, vS, oS, Bool.true_and, Bool.false_or, Bool.true_or] at hgi IH ⊢ <;> simp only [go_sem, Nat.reduceAdd, Nat.reduceSub, Nat.reduceMul, Nat.reduceDiv, Nat.reduceMod, Nat.reduceLeDiff, Nat.reduceLT, Nat.reduceBEq, Int.reduceToNat, Int.reduceLT, Int.reduceLE, Int.reduceEq, h2i, lt_t h2, h1, h6, h24, h25, h11, h23, hgi, hv, h5, ep, b00, b11, b01, b10, ne_eq, not_true_eq_false, Int.natCast_nonneg, Nat.mul_one, Nat.mod_one, Nat.div_one] <;> exact IH
      · simp only [hv, decide_false, Bool.and_false] at hrf
        subst hrf
        cases g <;> cases a <;> cases r <;> simp only [go_sem, Nat.reduceAdd, Nat.reduceSub, Nat.reduceMul, Nat.reduceDiv, Nat.reduceMod, Nat.reduceLeDiff, Nat.reduceLT, Nat.reduceBEq, Int.reduceToNat, Int.reduceLT, Int.reduceLE, Int.reduceEq, vS, oS, Bool.true_and, Bool.false_or, Bool.true_or] at hgi IH ⊢ <;> simp only [go_sem, Nat.reduceAdd, Nat.reduceSub, Nat.reduceMul, Nat.reduceDiv, Nat.reduceMod, Nat.reduceLeDiff, Nat.reduceLT, Nat.reduceBEq, Int.reduceToNat, Int.reduceLT, Int.reduceLE, Int.reduceEq, h2i, lt_t h2, h1, h6, h24, h25, h11, h23, hgi, hv, h5, ep, b00, b11, b01, b10, ne_eq, not_true_eq_false, Int.natCast_nonneg, Nat.mul_one, Nat.mod_one, Nat.div_one] <;> exact IH
end Go.Vm.P12

/- Chapter 12, the laws: copies of proofs and claims. -/
set_option maxRecDepth 100000
set_option maxHeartbeats 2000000
namespace Go.Vm.P12
open Go Go.Vm
theorem src_0 {st : List AO} {b : Bool} {sz : Nat} : srcOf st (.imm (slD b sz [])) = some (if b then 0 else sz, []) := by cases b <;> rfl
theorem l70 {lo : Lower} {b : Bool} {l : List Stp} (hl : l.length < 1000000000) (hf : ∀ s ∈ l, s.Fits) : ∀ (r acc : List Stp) (i : Nat), l.drop i = r → acc.length = i →
    outC ⟨0, false⟩ [0, 1, 0, 1, 0, 0, 0] (rnd (aCode lo ⟨0, false⟩ b70_0) (head ⟨0, false⟩ [0, 1, 1, 1, 1, 0, 0])
      ⟨[.junk, .ptr 0 0, .ptr 1 0, .ptr 2 0, .imm (.int .i64 i), .junk, .junk],
       [.box [.imm .nil], .box [.imm (slD b 9 (l.map enT))], .box [vK 3 9 (acc.map enT)]] ++ oK 9 (acc.map enT), none⟩) =
      some (.exit 0, ⟨[.junk, .ptr 0 0, .junk, .ptr 1 0, .junk, .junk, .junk],
       [.box [.imm .nil], .box [vK 2 9 ((acc ++ r.map nz).map enT)]] ++ oK 9 ((acc ++ r.map nz).map enT), none⟩)
  | [], acc, i, h, ha => by
    rw [rnd_eq]
    cases acc <;> simp only [go_sem, Nat.reduceAdd, Nat.reduceSub, Nat.reduceMul, Nat.reduceDiv, Nat.reduceMod, Nat.reduceLeDiff, Nat.reduceLT, Nat.reduceBEq, Int.reduceToNat, Int.reduceLT, Int.reduceLE, Int.reduceEq, vK, oK, lt_f (drop_n h)]
  | s :: r, acc, i, h, ha => by
    obtain ⟨h1, h2, h3⟩ := drop_c h
    have h6 := wrpS (i := i) (by omega)
    have IH := l70 (lo := lo) (b := b) hl hf r (acc ++ [nz s]) (i + 1) h3 (by simp [ha])
    have hs := hf s (List.mem_of_getElem? h1)
    have f1 := hs.gv
    have f2 := hs.lw
    have f3 := hs.hg
    obtain ⟨t1, t2, b3, t3, b4, t4, b5, t5, t6, t7, t8, t9⟩ := s
    simp only at f1 f2 f3
    simp only [nz] at IH
    have g3 : (t3.length) * 9 ≤ 70368744177664 := by omega
    have g4 : (t4.length) * 9 ≤ 70368744177664 := by omega
    have g5 : (t5.length) * 9 ≤ 70368744177664 := by omega
    rw [rnd_eq]
    cases acc with
    | nil =>
      simp only [go_sem, Nat.reduceAdd, Nat.reduceSub, Nat.reduceMul, Nat.reduceDiv, Nat.reduceMod, Nat.reduceLeDiff, Nat.reduceLT, Nat.reduceBEq, Int.reduceToNat, Int.reduceLT, Int.reduceLE, Int.reduceEq, vK, oK] at IH
      rcases t3 with _ | ⟨y3, t3⟩ <;> rcases t4 with _ | ⟨y4, t4⟩ <;> rcases t5 with _ | ⟨y5, t5⟩ <;> (try simp only [List.length_cons] at g3 g4 g5) <;>
      simp only [go_sem, Nat.reduceAdd, Nat.reduceSub, Nat.reduceMul, Nat.reduceDiv, Nat.reduceMod, Nat.reduceLeDiff, Nat.reduceLT, Nat.reduceBEq, Int.reduceToNat, Int.reduceLT, Int.reduceLE, Int.reduceEq, vK, oK, lt_t h2, h1, h6, src_0, slD_cons, g3, g4, g5, nz] <;>
      exact IH
    | cons x acc =>
      have h5 : (acc.length + 1 + 1) * 121 ≤ 70368744177664 := by simp at ha; omega
      have e7 : acc.length + (r.length + 1) + 1 = acc.length + 1 + r.length + 1 := by omega
      have e8 : ∀ (L : List (List D)) (y : List D), List.map enT acc ++ y :: L = List.map enT acc ++ [y] ++ L := fun L y => by simp
      simp only [go_sem, Nat.reduceAdd, Nat.reduceSub, Nat.reduceMul, Nat.reduceDiv, Nat.reduceMod, Nat.reduceLeDiff, Nat.reduceLT, Nat.reduceBEq, Int.reduceToNat, Int.reduceLT, Int.reduceLE, Int.reduceEq, vK, oK] at IH
      rcases t3 with _ | ⟨y3, t3⟩ <;> rcases t4 with _ | ⟨y4, t4⟩ <;> rcases t5 with _ | ⟨y5, t5⟩ <;> (try simp only [List.length_cons] at g3 g4 g5) <;>
      simp only [go_sem, Nat.reduceAdd, Nat.reduceSub, Nat.reduceMul, Nat.reduceDiv, Nat.reduceMod, Nat.reduceLeDiff, Nat.reduceLT, Nat.reduceBEq, Int.reduceToNat, Int.reduceLT, Int.reduceLE, Int.reduceEq, vK, oK, lt_t h2, h1, h6, h5, e7, e8 (List.map enT (List.map nz r)), src_0, slD_cons, g3, g4, g5, nz] <;>
      exact IH
theorem ok70 (n : Nat) (b : Bool) (l : List Stp) (hl : l.length < 1000000000) (hf : ∀ s ∈ l, s.Fits) : callP (level E (n+1)) 70 [.agg [slD b 9 (l.map enT)]] = some (.agg [slD true 9 ((l.map nz).map enT)]) := by
  have h := l70 (lo := level E n) (b := b) hl hf l [] 0 rfl rfl
  rw [cast0] at h
  rw [p70]
  cases l with
  | nil =>
    simp only [go_sem, Nat.reduceAdd, Nat.reduceSub, Nat.reduceMul, Nat.reduceDiv, Nat.reduceMod, Nat.reduceLeDiff, Nat.reduceLT, Nat.reduceBEq, Int.reduceToNat, Int.reduceLT, Int.reduceLE, Int.reduceEq, vK, oK] at h
    simp only [go_sem, Nat.reduceAdd, Nat.reduceSub, Nat.reduceMul, Nat.reduceDiv, Nat.reduceMod, Nat.reduceLeDiff, Nat.reduceLT, Nat.reduceBEq, Int.reduceToNat, Int.reduceLT, Int.reduceLE, Int.reduceEq, h]
    rfl
  | cons x l =>
    simp only [go_sem, Nat.reduceAdd, Nat.reduceSub, Nat.reduceMul, Nat.reduceDiv, Nat.reduceMod, Nat.reduceLeDiff, Nat.reduceLT, Nat.reduceBEq, Int.reduceToNat, Int.reduceLT, Int.reduceLE, Int.reduceEq, vK, oK] at h
    simp only [go_sem, Nat.reduceAdd, Nat.reduceSub, Nat.reduceMul, Nat.reduceDiv, Nat.reduceMod, Nat.reduceLeDiff, Nat.reduceLT, Nat.reduceBEq, Int.reduceToNat, Int.reduceLT, Int.reduceLE, Int.reduceEq, h]
    rfl
theorem l27 {lo : Lower} {b : Bool} {l : List Stp} (hl : l.length < 1000000000) : ∀ (r acc : List Stp) (i : Nat), l.drop i = r → acc.length = i →
    outC ⟨0, false⟩ [0, 1, 0, 1, 0, 0, 0, 0, 0] (rnd (aCode lo ⟨0, false⟩ b27_0) (head ⟨0, false⟩ [0, 1, 0, 1, 0, 1, 1, 1, 0])
      ⟨[.junk, .ptr 0 0, .junk, .ptr 1 0, .junk, .imm (slD b 9 (l.map enT)), .imm (.int .i64 l.length), .imm (.int .i64 i), .junk],
       [.box [.imm .nil], .box [vK 2 9 (acc.map enT)]] ++ oK 9 (acc.map enT), none⟩) =
      some (.exit 0, ⟨[.junk, .ptr 0 0, .junk, .ptr 1 0, .junk, .junk, .junk, .junk, .junk],
       [.box [.imm .nil], .box [vK 2 9 ((acc ++ r).map enT)]] ++ oK 9 ((acc ++ r).map enT), none⟩)
  | [], acc, i, h, ha => by
    rw [rnd_eq]
    cases acc <;> simp only [go_sem, Nat.reduceAdd, Nat.reduceSub, Nat.reduceMul, Nat.reduceDiv, Nat.reduceMod, Nat.reduceLeDiff, Nat.reduceLT, Nat.reduceBEq, Int.reduceToNat, Int.reduceLT, Int.reduceLE, Int.reduceEq, vK, oK, lt_f (drop_n h)]
  | s :: r, acc, i, h, ha => by
    obtain ⟨h1, h2, h3⟩ := drop_c h
    have h6 := wrpS (i := i) (by omega)
    have IH := l27 (lo := lo) (b := b) hl r (acc ++ [s]) (i + 1) h3 (by simp [ha])
    rw [rnd_eq]
    cases acc with
    | nil =>
      simp only [go_sem, Nat.reduceAdd, Nat.reduceSub, Nat.reduceMul, Nat.reduceDiv, Nat.reduceMod, Nat.reduceLeDiff, Nat.reduceLT, Nat.reduceBEq, Int.reduceToNat, Int.reduceLT, Int.reduceLE, Int.reduceEq, vK, oK] at IH
      simp only [go_sem, Nat.reduceAdd, Nat.reduceSub, Nat.reduceMul, Nat.reduceDiv, Nat.reduceMod, Nat.reduceLeDiff, Nat.reduceLT, Nat.reduceBEq, Int.reduceToNat, Int.reduceLT, Int.reduceLE, Int.reduceEq, vK, oK, lt_t h2, h1, h6]
      exact IH
    | cons x acc =>
      have h5 : (acc.length + 1 + 1) * 121 ≤ 70368744177664 := by simp at ha; omega
      have e7 : acc.length + (r.length + 1) + 1 = acc.length + 1 + r.length + 1 := by omega
      have e8 : ∀ (L : List (List D)) (y : List D), List.map enT acc ++ y :: L = List.map enT acc ++ [y] ++ L := fun L y => by simp
      simp only [go_sem, Nat.reduceAdd, Nat.reduceSub, Nat.reduceMul, Nat.reduceDiv, Nat.reduceMod, Nat.reduceLeDiff, Nat.reduceLT, Nat.reduceBEq, Int.reduceToNat, Int.reduceLT, Int.reduceLE, Int.reduceEq, vK, oK] at IH
      simp only [go_sem, Nat.reduceAdd, Nat.reduceSub, Nat.reduceMul, Nat.reduceDiv, Nat.reduceMod, Nat.reduceLeDiff, Nat.reduceLT, Nat.reduceBEq, Int.reduceToNat, Int.reduceLT, Int.reduceLE, Int.reduceEq, vK, oK, lt_t h2, h1, h6, h5, e7, e8 (List.map enT r)]
      exact IH
theorem ok27 (n : Nat) (b : Bool) (l : List Stp) (hl : l.length < 1000000000) (hf : ∀ s ∈ l, s.Fits) : callP (level E (n+2)) 27 [.agg [slD b 9 (l.map enT)]] = some (.agg [slD true 9 ((l.map nz).map enT)]) := by
  have h70 := ok70 n b l hl hf
  have h := l27 (lo := level E (n + 1)) (b := true) (l := l.map nz) (by rw [List.length_map]; exact hl) (l.map nz) [] 0 rfl rfl
  rw [cast0] at h
  rw [p27]
  cases l with
  | nil =>
    simp only [go_sem, Nat.reduceAdd, Nat.reduceSub, Nat.reduceMul, Nat.reduceDiv, Nat.reduceMod, Nat.reduceLeDiff, Nat.reduceLT, Nat.reduceBEq, Int.reduceToNat, Int.reduceLT, Int.reduceLE, Int.reduceEq, vK, oK] at h h70
    simp only [go_sem, Nat.reduceAdd, Nat.reduceSub, Nat.reduceMul, Nat.reduceDiv, Nat.reduceMod, Nat.reduceLeDiff, Nat.reduceLT, Nat.reduceBEq, Int.reduceToNat, Int.reduceLT, Int.reduceLE, Int.reduceEq, h, h70]
    rfl
  | cons x l =>
    simp only [go_sem, Nat.reduceAdd, Nat.reduceSub, Nat.reduceMul, Nat.reduceDiv, Nat.reduceMod, Nat.reduceLeDiff, Nat.reduceLT, Nat.reduceBEq, Int.reduceToNat, Int.reduceLT, Int.reduceLE, Int.reduceEq, vK, oK] at h h70
    simp only [go_sem, Nat.reduceAdd, Nat.reduceSub, Nat.reduceMul, Nat.reduceDiv, Nat.reduceMod, Nat.reduceLeDiff, Nat.reduceLT, Nat.reduceBEq, Int.reduceToNat, Int.reduceLT, Int.reduceLE, Int.reduceEq, h, h70]
    rfl
end Go.Vm.P12

/- Chapter 12, the laws: the form of a proof in the reference, a step. -/
set_option maxRecDepth 100000
set_option maxHeartbeats 4000000
namespace Go.Vm
section
universe u
variable {α : Type u} {d : α}
theorem gd80 {x0 x1 x2 x3 x4 x5 x6 x7 x8 x9 x10 x11 x12 x13 x14 x15 x16 x17 x18 x19 x20 x21 x22 x23 x24 x25 x26 x27 x28 x29 x30 x31 x32 x33 x34 x35 x36 x37 x38 x39 x40 x41 x42 x43 x44 x45 x46 x47 x48 x49 x50 x51 x52 x53 x54 x55 x56 x57 x58 x59 x60 x61 x62 x63 x64 x65 x66 x67 x68 x69 x70 x71 x72 x73 x74 x75 x76 x77 x78 x79 x80 : α} {r : List α} : List.getD (x0 :: x1 :: x2 :: x3 :: x4 :: x5 :: x6 :: x7 :: x8 :: x9 :: x10 :: x11 :: x12 :: x13 :: x14 :: x15 :: x16 :: x17 :: x18 :: x19 :: x20 :: x21 :: x22 :: x23 :: x24 :: x25 :: x26 :: x27 :: x28 :: x29 :: x30 :: x31 :: x32 :: x33 :: x34 :: x35 :: x36 :: x37 :: x38 :: x39 :: x40 :: x41 :: x42 :: x43 :: x44 :: x45 :: x46 :: x47 :: x48 :: x49 :: x50 :: x51 :: x52 :: x53 :: x54 :: x55 :: x56 :: x57 :: x58 :: x59 :: x60 :: x61 :: x62 :: x63 :: x64 :: x65 :: x66 :: x67 :: x68 :: x69 :: x70 :: x71 :: x72 :: x73 :: x74 :: x75 :: x76 :: x77 :: x78 :: x79 :: x80 :: r) 80 d = x80 := id rfl
theorem gd81 {x0 x1 x2 x3 x4 x5 x6 x7 x8 x9 x10 x11 x12 x13 x14 x15 x16 x17 x18 x19 x20 x21 x22 x23 x24 x25 x26 x27 x28 x29 x30 x31 x32 x33 x34 x35 x36 x37 x38 x39 x40 x41 x42 x43 x44 x45 x46 x47 x48 x49 x50 x51 x52 x53 x54 x55 x56 x57 x58 x59 x60 x61 x62 x63 x64 x65 x66 x67 x68 x69 x70 x71 x72 x73 x74 x75 x76 x77 x78 x79 x80 x81 : α} {r : List α} : List.getD (x0 :: x1 :: x2 :: x3 :: x4 :: x5 :: x6 :: x7 :: x8 :: x9 :: x10 :: x11 :: x12 :: x13 :: x14 :: x15 :: x16 :: x17 :: x18 :: x19 :: x20 :: x21 :: x22 :: x23 :: x24 :: x25 :: x26 :: x27 :: x28 :: x29 :: x30 :: x31 :: x32 :: x33 :: x34 :: x35 :: x36 :: x37 :: x38 :: x39 :: x40 :: x41 :: x42 :: x43 :: x44 :: x45 :: x46 :: x47 :: x48 :: x49 :: x50 :: x51 :: x52 :: x53 :: x54 :: x55 :: x56 :: x57 :: x58 :: x59 :: x60 :: x61 :: x62 :: x63 :: x64 :: x65 :: x66 :: x67 :: x68 :: x69 :: x70 :: x71 :: x72 :: x73 :: x74 :: x75 :: x76 :: x77 :: x78 :: x79 :: x80 :: x81 :: r) 81 d = x81 := id rfl
theorem gd82 {x0 x1 x2 x3 x4 x5 x6 x7 x8 x9 x10 x11 x12 x13 x14 x15 x16 x17 x18 x19 x20 x21 x22 x23 x24 x25 x26 x27 x28 x29 x30 x31 x32 x33 x34 x35 x36 x37 x38 x39 x40 x41 x42 x43 x44 x45 x46 x47 x48 x49 x50 x51 x52 x53 x54 x55 x56 x57 x58 x59 x60 x61 x62 x63 x64 x65 x66 x67 x68 x69 x70 x71 x72 x73 x74 x75 x76 x77 x78 x79 x80 x81 x82 : α} {r : List α} : List.getD (x0 :: x1 :: x2 :: x3 :: x4 :: x5 :: x6 :: x7 :: x8 :: x9 :: x10 :: x11 :: x12 :: x13 :: x14 :: x15 :: x16 :: x17 :: x18 :: x19 :: x20 :: x21 :: x22 :: x23 :: x24 :: x25 :: x26 :: x27 :: x28 :: x29 :: x30 :: x31 :: x32 :: x33 :: x34 :: x35 :: x36 :: x37 :: x38 :: x39 :: x40 :: x41 :: x42 :: x43 :: x44 :: x45 :: x46 :: x47 :: x48 :: x49 :: x50 :: x51 :: x52 :: x53 :: x54 :: x55 :: x56 :: x57 :: x58 :: x59 :: x60 :: x61 :: x62 :: x63 :: x64 :: x65 :: x66 :: x67 :: x68 :: x69 :: x70 :: x71 :: x72 :: x73 :: x74 :: x75 :: x76 :: x77 :: x78 :: x79 :: x80 :: x81 :: x82 :: r) 82 d = x82 := id rfl
theorem gd83 {x0 x1 x2 x3 x4 x5 x6 x7 x8 x9 x10 x11 x12 x13 x14 x15 x16 x17 x18 x19 x20 x21 x22 x23 x24 x25 x26 x27 x28 x29 x30 x31 x32 x33 x34 x35 x36 x37 x38 x39 x40 x41 x42 x43 x44 x45 x46 x47 x48 x49 x50 x51 x52 x53 x54 x55 x56 x57 x58 x59 x60 x61 x62 x63 x64 x65 x66 x67 x68 x69 x70 x71 x72 x73 x74 x75 x76 x77 x78 x79 x80 x81 x82 x83 : α} {r : List α} : List.getD (x0 :: x1 :: x2 :: x3 :: x4 :: x5 :: x6 :: x7 :: x8 :: x9 :: x10 :: x11 :: x12 :: x13 :: x14 :: x15 :: x16 :: x17 :: x18 :: x19 :: x20 :: x21 :: x22 :: x23 :: x24 :: x25 :: x26 :: x27 :: x28 :: x29 :: x30 :: x31 :: x32 :: x33 :: x34 :: x35 :: x36 :: x37 :: x38 :: x39 :: x40 :: x41 :: x42 :: x43 :: x44 :: x45 :: x46 :: x47 :: x48 :: x49 :: x50 :: x51 :: x52 :: x53 :: x54 :: x55 :: x56 :: x57 :: x58 :: x59 :: x60 :: x61 :: x62 :: x63 :: x64 :: x65 :: x66 :: x67 :: x68 :: x69 :: x70 :: x71 :: x72 :: x73 :: x74 :: x75 :: x76 :: x77 :: x78 :: x79 :: x80 :: x81 :: x82 :: x83 :: r) 83 d = x83 := id rfl
theorem gd84 {x0 x1 x2 x3 x4 x5 x6 x7 x8 x9 x10 x11 x12 x13 x14 x15 x16 x17 x18 x19 x20 x21 x22 x23 x24 x25 x26 x27 x28 x29 x30 x31 x32 x33 x34 x35 x36 x37 x38 x39 x40 x41 x42 x43 x44 x45 x46 x47 x48 x49 x50 x51 x52 x53 x54 x55 x56 x57 x58 x59 x60 x61 x62 x63 x64 x65 x66 x67 x68 x69 x70 x71 x72 x73 x74 x75 x76 x77 x78 x79 x80 x81 x82 x83 x84 : α} {r : List α} : List.getD (x0 :: x1 :: x2 :: x3 :: x4 :: x5 :: x6 :: x7 :: x8 :: x9 :: x10 :: x11 :: x12 :: x13 :: x14 :: x15 :: x16 :: x17 :: x18 :: x19 :: x20 :: x21 :: x22 :: x23 :: x24 :: x25 :: x26 :: x27 :: x28 :: x29 :: x30 :: x31 :: x32 :: x33 :: x34 :: x35 :: x36 :: x37 :: x38 :: x39 :: x40 :: x41 :: x42 :: x43 :: x44 :: x45 :: x46 :: x47 :: x48 :: x49 :: x50 :: x51 :: x52 :: x53 :: x54 :: x55 :: x56 :: x57 :: x58 :: x59 :: x60 :: x61 :: x62 :: x63 :: x64 :: x65 :: x66 :: x67 :: x68 :: x69 :: x70 :: x71 :: x72 :: x73 :: x74 :: x75 :: x76 :: x77 :: x78 :: x79 :: x80 :: x81 :: x82 :: x83 :: x84 :: r) 84 d = x84 := id rfl
end
attribute [go_sem] gd80 gd81 gd82 gd83 gd84
end Go.Vm
namespace Go.Vm.P12
open Go Go.Vm
def rs2 (y : Stp) (c : Cl) : Bool := decide (y.va < 0) || decide ((c.sp.length : Int) ≤ y.va)
end Go.Vm.P12

/- Chapter 12, the laws: the form of a proof in the reference. -/
set_option maxRecDepth 100000
set_option maxHeartbeats 4000000
namespace Go.Vm.P12
open Go Go.Vm
end Go.Vm.P12

/- Chapter 12, the laws: the form of a proof in the reference, end; the reference's check. -/
set_option maxRecDepth 100000
set_option maxHeartbeats 4000000
namespace Go.Vm.P12
open Go Go.Vm
def x30 (b : Bool) (l : List Stp) (r : Int × List Int) : AExit × S := if r.1 = 0 then
    (.exit 0, ⟨[.junk, .junk, .junk, .junk, .ptr 0 0, .junk, vK 1 1 (r.2.map ic), .junk, .junk, .junk, .junk, .junk, .junk, .junk, .junk], [.box [.imm (slD b 9 (l.map enT))]] ++ oK 1 (r.2.map ic), none⟩)
  else (.ret, ⟨[.junk, .junk, .imm (.int .i64 r.1), .junk, .ptr 0 0, .junk, vK 1 1 (r.2.map ic), .junk, .junk, .junk, .junk, .junk, .junk, .junk, .junk], [.box [.imm (slD b 9 (l.map enT))]] ++ oK 1 (r.2.map ic), none⟩)
end Go.Vm.P12

/- Chapter 12, the laws: the reference's check. -/
set_option maxRecDepth 100000
set_option maxHeartbeats 4000000
namespace Go.Vm.P12
open Go Go.Vm
end Go.Vm.P12

/- Chapter 12, plain laws: the forms and the checks of both sides. -/
set_option maxRecDepth 100000
set_option maxHeartbeats 2000000
namespace Go.Vm.P12
open Go Go.Vm
end Go.Vm.P12

/- Chapter 12, the laws: ProveChecks. -/
set_option maxRecDepth 100000
set_option maxHeartbeats 4000000
namespace Go.Vm.P12
open Go Go.Vm
theorem shortP_fit {l : List Stp} (h : shortP l = true) : l.length ≤ 401 ∧ ∀ s ∈ l, s.Fits := by
  simp only [shortP, Bool.and_eq_true, decide_eq_true_eq, List.all_eq_true] at h
  refine ⟨by omega, fun s hs => ?_⟩
  have := h.2 s hs
  simp only [shortSt, Bool.not_eq_true', Bool.or_eq_false_iff, decide_eq_false_iff_not] at this
  exact ⟨by omega, by omega, by omega⟩
theorem nz_fits {l : List Stp} (h : ∀ s ∈ l, s.Fits) : ∀ s ∈ l.map nz, s.Fits := by
  intro s hs
  obtain ⟨y, hy, rfl⟩ := List.mem_map.1 hs
  exact ⟨(h y hy).gv, (h y hy).lw, (h y hy).hg⟩
end Go.Vm.P12

/- Chapter 12, the laws: ProveHolds. -/
set_option maxRecDepth 100000
set_option maxHeartbeats 8000000
namespace Go.Vm.P12
open Go Go.Vm
theorem ok4 (n : Nat) (c : Cl) (b : Bool) (l : List Stp) : callP (level E (n + 430)) 4 [.agg (enC c), .agg [slD b 9 (l.map enT)]] = some (.bool true) := by
  have h8 := ok8 (n + 8)
  have h9 := ok9 (n + 427) c
  have h22 := ok22 (n + 428) b l
  rw [p4]
  simp only [go_sem, Nat.reduceAdd, Nat.reduceSub, Nat.reduceMul, Nat.reduceDiv, Nat.reduceMod, Nat.reduceLeDiff, Nat.reduceLT, Nat.reduceBEq, Int.reduceToNat, Int.reduceLT, Int.reduceLE, Int.reduceEq] at h9
  cases hs : short c
  · rw [hs] at h9
    simp only [go_sem, Nat.reduceAdd, Nat.reduceSub, Nat.reduceMul, Nat.reduceDiv, Nat.reduceMod, Nat.reduceLeDiff, Nat.reduceLT, Nat.reduceBEq, Int.reduceToNat, Int.reduceLT, Int.reduceLE, Int.reduceEq, sg_slD, h8, h9]
  · rw [hs] at h9
    cases hp : shortP l
    · rw [hp] at h22
      simp only [go_sem, Nat.reduceAdd, Nat.reduceSub, Nat.reduceMul, Nat.reduceDiv, Nat.reduceMod, Nat.reduceLeDiff, Nat.reduceLT, Nat.reduceBEq, Int.reduceToNat, Int.reduceLT, Int.reduceLE, Int.reduceEq, sg_slD, h8, h9, h22]
    · rw [hp] at h22
      obtain ⟨hf, hg13, hs8⟩ := short_fit hs
      obtain ⟨hl, hy⟩ := shortP_fit hp
      have h12 := ok12 (n + 425) c hf
      simp only [go_sem, Nat.reduceAdd, Nat.reduceSub, Nat.reduceMul, Nat.reduceDiv, Nat.reduceMod, Nat.reduceLeDiff, Nat.reduceLT, Nat.reduceBEq, Int.reduceToNat, Int.reduceLT, Int.reduceLE, Int.reduceEq] at h12
      by_cases hr : rClErr c = 0
      · rw [hr] at h12
        by_cases h3 : 3 < c.sp.length
        · have e3 : ((3 : Int) < ((c.sp.length : Nat) : Int)) = True := eq_true (by omega)
          simp only [go_sem, Nat.reduceAdd, Nat.reduceSub, Nat.reduceMul, Nat.reduceDiv, Nat.reduceMod, Nat.reduceLeDiff, Nat.reduceLT, Nat.reduceBEq, Int.reduceToNat, Int.reduceLT, Int.reduceLE, Int.reduceEq, sg_slD, h8, h9, h22, h12, ne_eq, not_true_eq_false, e3]
        · have e3 : ((3 : Int) < ((c.sp.length : Nat) : Int)) = False := eq_false (by omega)
          have hc0 : clErr c = 0 := by rw [cl_eq]; exact hr
          have G := clErr_good hf hc0
          have hlo : ∀ s ∈ c.sp, s.lo ≤ s.hi := fun s hs => (G.sp s hs).2.1
          have hpow : ([[]] : List (List Int)).length * 9 ^ c.sp.length ≤ 729 := by
            have : 9 ^ c.sp.length ≤ 9 ^ 3 := Nat.pow_le_pow_right (by decide) (by omega)
            simp only [List.length_singleton]; omega
          have hl2 := l4_2 (lo := level E (n + 429)) (c := c) (bp := b) (pr := l) G.sp (by omega) c.sp 0 false [[]] rfl (by simp) (by simp) hpow
          rw [cast0] at hl2
          have mp := mem_pts c.sp false [[]] hlo
          have pl := pts_len c.sp false [[]] hpow hlo
          generalize ptsR false c.sp [[]] = z at hl2 mp pl
          obtain ⟨ok, r, ps⟩ := z
          have ee : ep [] = [.sl 1 []] := rfl
          cases ok
          · simp only [vS, oS, List.map_cons, List.map_nil, ee] at hl2
            simp only [x42] at hl2
            cases r <;> simp only [go_sem, Nat.reduceAdd, Nat.reduceSub, Nat.reduceMul, Nat.reduceDiv, Nat.reduceMod, Nat.reduceLeDiff, Nat.reduceLT, Nat.reduceBEq, Int.reduceToNat, Int.reduceLT, Int.reduceLE, Int.reduceEq, vS, oS] at hl2 <;>
            simp only [go_sem, Nat.reduceAdd, Nat.reduceSub, Nat.reduceMul, Nat.reduceDiv, Nat.reduceMod, Nat.reduceLeDiff, Nat.reduceLT, Nat.reduceBEq, Int.reduceToNat, Int.reduceLT, Int.reduceLE, Int.reduceEq, sg_slD, h8, h9, h22, h12, ne_eq, not_true_eq_false, e3, hl2]
          · simp only at mp pl
            have mem : ∀ x, x ∈ ps ↔ x.length = c.sp.length ∧ ins x c.sp = true := by
              intro x
              rw [mp trivial x]
              constructor
              · rintro ⟨y, hy, w, rfl, h1, h2⟩
                simp only [List.mem_singleton] at hy
                subst hy
                exact ⟨h1, h2⟩
              · rintro ⟨h1, h2⟩
                exact ⟨[], by simp, x, rfl, h1, h2⟩
            have hpl := pl trivial
            have hat : ∀ x ∈ ps, At (n + 420) c x := by
              intro x hx
              obtain ⟨x1, x2⟩ := (mem x).1 hx
              have hco := ins_co x2 x1 G.sp
              refine ⟨by omega, fun g hg => ?_, ?_⟩
              · have := ok24 (n + 423) (lnc g) false x (hf.ln g hg) (by omega)
                rw [val_V G hc0 x1 hco (.inl hg), slD_f] at this
                exact this
              · have := ok24 (n + 423) (lnc c.go) false x hf.go (by omega)
                rw [val_V G hc0 x1 hco (.inr rfl), slD_f] at this
                exact this
            have hrx : ∀ x ∈ ps, callP (level E (n + 420 + 9)) 23 [.agg (enC (cpy c)), .sl 1 (x.map ic)] = some (.tup [.bool (rfx c x), .int .i64 0]) := by
              intro x hx
              obtain ⟨x1, x2⟩ := (mem x).1 hx
              have := ok23 (n + 420) (cpy c) false x (cpy_fit hf) (by omega)
              rw [refutes_V hf hc0 x2 x1, slD_f] at this
              exact this
            have hl4 := l4_4 (n := n + 420) (c := c) hf (bp := b) (pr := l) (r := r) (ps := ps) hat hrx (by omega) ps 0 false rfl
            rw [cast0, Bool.false_or] at hl4
            have hany : ∀ w, ps.any (rfx c) = w → (w = false → True) := fun _ _ _ => trivial
            obtain ⟨a2, e2, hk1, hk2⟩ := chk_two hf (l.map nz)
            have hlm : (l.map nz).length ≤ 401 := by rw [List.length_map]; exact hl
            have h11 := ok11 (n + 427) c hf
            have h27 := ok27 (n + 427) b l (by omega) hy
            have h26 := ok26 (n + 419) (cpy c) true (l.map nz) (cpy_fit hf) (by omega) (nz_fits hy)
            rw [hk1] at h26
            have h15 := ok15 (n + 19) (cpy c) 400 (cpy_fit hf)
            have e400 : ((400 : Nat) : Int) = 400 := rfl
            have hno : (∀ x : List Int, x.length = c.sp.length → ins x c.sp = true → rfx c x = false) → ps.any (rfx c) = false := by
              intro h
              rw [List.any_eq_false]
              intro x hx
              obtain ⟨x1, x2⟩ := (mem x).1 hx
              rw [h x x1 x2]; simp
            have hD := dec_three hf hc0 hg13 hs8 (t := 400) (by decide) (by decide)
            rw [e400] at hD
            simp only [vS, oS, List.map_cons, List.map_nil, ee] at hl2
            simp only [x42] at hl2
            simp only [go_sem, Nat.reduceAdd, Nat.reduceSub, Nat.reduceMul, Nat.reduceDiv, Nat.reduceMod, Nat.reduceLeDiff, Nat.reduceLT, Nat.reduceBEq, Int.reduceToNat, Int.reduceLT, Int.reduceLE, Int.reduceEq] at h11 h27 h26
            have hb : (e2 = 0 ∧ ps.any (rfx c) = true) → False := fun ⟨q1, q2⟩ => by
              rw [hno (hk2 q1)] at q2; cases q2
            rcases hD with ⟨p, d1⟩ | ⟨st, d1, d2, d3, d4, d5⟩ | ⟨pt, d1, d2⟩
            · rw [d1] at h15
              simp only [go_sem, Nat.reduceAdd, Nat.reduceSub, Nat.reduceMul, Nat.reduceDiv, Nat.reduceMod, Nat.reduceLeDiff, Nat.reduceLT, Nat.reduceBEq, Int.reduceToNat, Int.reduceLT, Int.reduceLE, Int.reduceEq] at h15
              generalize ps.any (rfx c) = w at hl4 hb
              by_cases he : e2 = 0
              · have hw : w = false := by cases w; rfl; exact absurd ⟨he, rfl⟩ hb
                subst hw
                cases r <;> simp only [go_sem, Nat.reduceAdd, Nat.reduceSub, Nat.reduceMul, Nat.reduceDiv, Nat.reduceMod, Nat.reduceLeDiff, Nat.reduceLT, Nat.reduceBEq, Int.reduceToNat, Int.reduceLT, Int.reduceLE, Int.reduceEq, vS, oS] at hl2 hl4 <;>
                simp only [go_sem, Nat.reduceAdd, Nat.reduceSub, Nat.reduceMul, Nat.reduceDiv, Nat.reduceMod, Nat.reduceLeDiff, Nat.reduceLT, Nat.reduceBEq, Int.reduceToNat, Int.reduceLT, Int.reduceLE, Int.reduceEq, sg_slD, h8, h9, h22, h12, ne_eq, not_true_eq_false, e3, hl2, hl4, h11, h27, h26, he, h15, not_false_eq_true]
              · cases r <;> simp only [go_sem, Nat.reduceAdd, Nat.reduceSub, Nat.reduceMul, Nat.reduceDiv, Nat.reduceMod, Nat.reduceLeDiff, Nat.reduceLT, Nat.reduceBEq, Int.reduceToNat, Int.reduceLT, Int.reduceLE, Int.reduceEq, vS, oS] at hl2 hl4 <;>
                simp only [go_sem, Nat.reduceAdd, Nat.reduceSub, Nat.reduceMul, Nat.reduceDiv, Nat.reduceMod, Nat.reduceLeDiff, Nat.reduceLT, Nat.reduceBEq, Int.reduceToNat, Int.reduceLT, Int.reduceLE, Int.reduceEq, sg_slD, h8, h9, h22, h12, ne_eq, not_true_eq_false, e3, hl2, hl4, h11, h27, h26, he, h15, not_false_eq_true]
            · have hw := hno d5
              have h26b := ok26 (n + 419) (cpy c) false st (cpy_fit hf) (by omega) d3
              rw [d1] at h15
              rw [d2] at h26b
              rw [hw] at hl4
              simp only [go_sem, Nat.reduceAdd, Nat.reduceSub, Nat.reduceMul, Nat.reduceDiv, Nat.reduceMod, Nat.reduceLeDiff, Nat.reduceLT, Nat.reduceBEq, Int.reduceToNat, Int.reduceLT, Int.reduceLE, Int.reduceEq, slD_f] at h15 h26b
              by_cases he : e2 = 0
              · cases r <;> simp only [go_sem, Nat.reduceAdd, Nat.reduceSub, Nat.reduceMul, Nat.reduceDiv, Nat.reduceMod, Nat.reduceLeDiff, Nat.reduceLT, Nat.reduceBEq, Int.reduceToNat, Int.reduceLT, Int.reduceLE, Int.reduceEq, vS, oS] at hl2 hl4 <;>
                simp only [go_sem, Nat.reduceAdd, Nat.reduceSub, Nat.reduceMul, Nat.reduceDiv, Nat.reduceMod, Nat.reduceLeDiff, Nat.reduceLT, Nat.reduceBEq, Int.reduceToNat, Int.reduceLT, Int.reduceLE, Int.reduceEq, sg_slD, h8, h9, h22, h12, ne_eq, not_true_eq_false, e3, hl2, hl4, h11, h27, h26, he, h15, h26b]
              · cases r <;> simp only [go_sem, Nat.reduceAdd, Nat.reduceSub, Nat.reduceMul, Nat.reduceDiv, Nat.reduceMod, Nat.reduceLeDiff, Nat.reduceLT, Nat.reduceBEq, Int.reduceToNat, Int.reduceLT, Int.reduceLE, Int.reduceEq, vS, oS] at hl2 hl4 <;>
                simp only [go_sem, Nat.reduceAdd, Nat.reduceSub, Nat.reduceMul, Nat.reduceDiv, Nat.reduceMod, Nat.reduceLeDiff, Nat.reduceLT, Nat.reduceBEq, Int.reduceToNat, Int.reduceLT, Int.reduceLE, Int.reduceEq, sg_slD, h8, h9, h22, h12, ne_eq, not_true_eq_false, e3, hl2, hl4, h11, h27, h26, he, h15, h26b]
            · have hrf := ref_rfx d2
              obtain ⟨p1, p2, _, _⟩ := d2
              have hw : ps.any (rfx c) = true := List.any_eq_true.2 ⟨pt, (mem pt).2 ⟨p1, p2⟩, hrf⟩
              have he : ¬ e2 = 0 := fun h => hb ⟨h, hw⟩
              have h23 := ok23 (n + 420) (cpy c) true pt (cpy_fit hf) (by omega)
              rw [refutes_V hf hc0 p2 p1, hrf] at h23
              rw [d1] at h15
              rw [hw] at hl4
              simp only [go_sem, Nat.reduceAdd, Nat.reduceSub, Nat.reduceMul, Nat.reduceDiv, Nat.reduceMod, Nat.reduceLeDiff, Nat.reduceLT, Nat.reduceBEq, Int.reduceToNat, Int.reduceLT, Int.reduceLE, Int.reduceEq] at h15 h23
              cases r <;> simp only [go_sem, Nat.reduceAdd, Nat.reduceSub, Nat.reduceMul, Nat.reduceDiv, Nat.reduceMod, Nat.reduceLeDiff, Nat.reduceLT, Nat.reduceBEq, Int.reduceToNat, Int.reduceLT, Int.reduceLE, Int.reduceEq, vS, oS] at hl2 hl4 <;>
              simp only [go_sem, Nat.reduceAdd, Nat.reduceSub, Nat.reduceMul, Nat.reduceDiv, Nat.reduceMod, Nat.reduceLeDiff, Nat.reduceLT, Nat.reduceBEq, Int.reduceToNat, Int.reduceLT, Int.reduceLE, Int.reduceEq, sg_slD, h8, h9, h22, h12, ne_eq, not_true_eq_false, e3, hl2, hl4, h11, h27, h26, he, h15, h23]
      · simp only [go_sem, Nat.reduceAdd, Nat.reduceSub, Nat.reduceMul, Nat.reduceDiv, Nat.reduceMod, Nat.reduceLeDiff, Nat.reduceLT, Nat.reduceBEq, Int.reduceToNat, Int.reduceLT, Int.reduceLE, Int.reduceEq, sg_slD, h8, h9, h22, h12, ne_eq, hr, not_false_eq_true]
end Go.Vm.P12

/- Chapter 12: ProveHolds: the row and the card. -/
set_option maxRecDepth 100000
namespace Go.Proofs.YtfhjkkjaaeohhaaDoor
open Go Go.Vm Go.Vm.P12 Go.ChangeShapes Go.WideShapes Go.ChangeAt Go.RowKit
theorem read57 : Tryd.prog.readableRec 57 = true := by kernel_rfl
theorem row57 : 57 < Tryd.prog.types.size := of_decide_eq_true (by kernel_rfl)
theorem holds_lifted (os : Os) (started : os.Started) (H : Type) (enc : TypeId × Value → H) :
    ReturnsInHanded {} Tryd.checked os 4 .any (fun w args => (Rows.proveHoldsSpec.pre enc Tryd.prog Tryd.f4 [] false w args ∧ laidMetH Tryd.prog laidW w) ∧ sizedMet enc Tryd.prog Tryd.f4 (OpenSpec.ofChange Rows.proveHoldsSpec) false w args)
      (Rows.proveHoldsSpec.post enc Tryd.prog Tryd.f4 false true false false) := by
  refine returnsInHanded_of_change_and (C := Tryd.checked) (X := fun w _ => laidMetH Tryd.prog laidW w) (fun _ _ _ hh h => h.of_heap hh) ownT started (by kernel_rfl) Tryd.func4
    (ChangeSpec.witness_shaped (enc := enc) (C := Tryd.checked) (os := os) (X := fun w _ => laidMetH Tryd.prog laidW w) false (World.doorLaid Tryd.prog 2000 os) #[noClaim, .agg #[.slice none 0 0]] 8 rfl (World.shaped_of_RefB (by kernel_rfl) (by kernel_rfl)) (by kernel_rfl) (by kernel_rfl) (by kernel_rfl) (door_met os _)) ?_
  intro W base args ds gs before hval0 hW _ _ hL _
  have hW' := hW
  have hlt := hW.lt
  obtain ⟨p, q, hA0, hV, rfl, hfz, hnd⟩ := hW
  have hA : DataW.TrodAll enc Tryd.prog W 0 (fun _ => true) true Tryd.f4.params.toList args.toList ds p := hA0
  rw [Tryd.params4] at hA
  obtain ⟨v0, v1, d0, d1, p0, p1, rfl, rfl, rfl, h0, h1⟩ := trodAll_two hA
  obtain ⟨rfl, rfl⟩ := trodVars_none hV
  obtain ⟨c, hc⟩ := arg_claim h0
  have hval : ∀ (j : Nat) t v, Tryd.f4.params[j]? = some t → (#[v0, v1] : Array Value)[j]? = some v → Value.okWide Tryd.prog W .any base t v := hval0
  rw [Tryd.params4] at hval
  obtain ⟨b, l, hl⟩ := arg_proof (hval 1 57 v1 rfl rfl) h1
  refine (call_ok anyXP (ok4 0 c b l) hL rfl (fun j d hj => ?_)).mono fun e w ⟨r, F, he, htr, hr⟩ => ?_
  · match j, hj with
    | 0, hj => injection hj with hj; subst hj; exact hc
    | 1, hj => injection hj with hj; subst hj; exact hl
    | j + 2, hj => simp at hj
  · subst he
    have hb := below_of htr
    obtain rfl := bool_of hr
    refine ⟨_, rfl, [d0, d1], [], p0 ++ p1 ++ [], [], p0 ++ p1, [], hW', trodAll_mk1 (shut_bool Tryd.underlying4 _), ?_, rfl, hb.frame _, nofun⟩
    exact trodAll_mk2 (Below.trod laidOutT read28 row28 h0 hb fun x hx => hlt x (by simp [hx])) (Below.trod laidOutT read57 row57 h1 hb fun x hx => hlt x (by simp [hx]))
theorem proveHolds_said : Rows.ProveHoldsSaid :=
  OpenClaim.holds_of_wide 4 Tryd.f4 rfl rfl rfl rfl rfl rfl rfl ⟨rfl, rfl, rfl, rfl, rfl⟩ rfl rfl rfl rfl rfl (by kernel_rfl) Tryd.func4 (by kernel_rfl)
    (of_decide_eq_true (by kernel_rfl)) (by unfold Func.isWrapper; first | (rw [if_pos (by decide +kernel)]; kernel_rfl) | (rw [if_neg (by decide +kernel)]; exact ⟨rfl, rfl⟩))
    (fun os started H enc _ => holds_lifted os started H enc)
theorem proveHolds_holds : Rows.ProveHoldsCardSaid :=
  Claim7.holds_tied_plain_at .later [] [.funcs] true (true, "ee78f3fea5e62ac867fb12881a9742dfec09454aa8e9067a5bd6c84d4de512dc") false
    proveHolds_said (fun _ h => by cases h) (by kernel_rfl) (fun _ h => by cases h) proveHolds_row_tie rfl ⟨rfl, rfl⟩ (by kernel_rfl) rfl
    (fun f fn hf hfn => by
      obtain rfl : f = 4 := Option.some.inj ((show Tryd.prog.funcNamed "halation/halationlaw12.ProveHolds" = some 4 by kernel_rfl).symm.trans hf) |>.symm
      obtain rfl : fn = Tryd.f4 := (Option.some.inj (Tryd.func4.symm.trans hfn)).symm
      exact ⟨by kernel_rfl, fun j t ht => by
        rw [Tryd.params4] at ht
        have hm : t ∈ [28, 57] := by simpa using Array.mem_of_getElem? ht
        have hall : ([28, 57].all fun u => !Tryd.prog.wantsStandIn u) = true := by kernel_rfl
        exact (show Tryd.prog.wantsStandIn t = false by simpa using List.all_eq_true.1 hall t hm)⟩)
    (by kernel_rfl)
#print axioms proveHolds_holds
end Go.Proofs.YtfhjkkjaaeohhaaDoor
