/- A part of the proof that the law answers true for every input; the conditions are those of the card: the listed variable reads as the program lays it. -/
import Derived.Test.YtfhjkkjaaeohhaaDoorV5
import Derived.OpenShut
set_option linter.unusedSimpArgs false
set_option linter.unusedVariables false
/- Chapter 12, plain laws: a decided claim has a right proof; a right proof is one of a claim that no point refutes. -/
set_option maxRecDepth 100000
set_option maxHeartbeats 2000000
namespace Go.Vm.P12
open Go Go.Vm
theorem clErr_good {c : Cl} (hf : c.Fit) (h : clErr c = 0) : Good c := by
  have h1 : clE0 c.sp c.gv = 0 := by
    unfold clErr at h
    split at h
    · assumption
    · exact h
  have h2 : fnz ((c.gv ++ [c.go]).map fun l => lnErr l c.sp.length) = 0 := by
    unfold clErr at h
    rw [if_pos h1] at h
    exact h
  have a1 : spErr c.sp = 0 := fz0 _ h1 _ (by simp)
  have a2 := fz0 _ h1 (if decide ((12 : Int) < c.gv.length) then 5 else 0) (by simp)
  have n6 : c.sp.length ≤ 6 := by
    unfold spErr at a1
    by_cases h6 : 6 < c.sp.length
    · simp [h6] at a1
    · omega
  have n12 : c.gv.length ≤ 12 := by
    by_cases h12 : (12 : Int) < c.gv.length
    · simp [h12] at a2
    · omega
  have key : ∀ x ∈ c.gv ++ [c.go], LnOk x := by
    intro x hx
    have hl : lnErr x c.sp.length = 0 := fz0 _ h2 _ (List.mem_map_of_mem hx)
    have h3 := fz0 _ hl (if x.co.any (fun c => offB c (-1048576) 1048576) || offB x.c (-1099511627776) 1099511627776 then 3 else 0) (by simp)
    have h4 : (x.co.any (fun c => offB c (-1048576) 1048576) || offB x.c (-1099511627776) 1099511627776) = false := by
      cases h5 : (x.co.any (fun c => offB c (-1048576) 1048576) || offB x.c (-1099511627776) 1099511627776)
      · rfl
      · rw [h5] at h3; simp at h3
    rw [Bool.or_eq_false_iff] at h4
    exact ⟨lnErr_co hl, (off_f h4.2).1, (off_f h4.2).2⟩
  exact ⟨clErr_even hf h, spErr_ok a1, n6, fun g hg => key g (List.mem_append_left _ hg), n12, key c.go (List.mem_append_right _ (by simp))⟩
theorem any_f {l : List Int} {lo hi : Int} (h : l.any (fun x => offB x lo hi) = false) : ∀ a ∈ l, lo ≤ a ∧ a ≤ hi := fun a ha =>
  off_f (by simpa using List.any_eq_false.1 h a ha)
theorem any_t {l : List Int} {lo hi : Int} (h : ∀ a ∈ l, lo ≤ a ∧ a ≤ hi) : l.any (fun x => offB x lo hi) = false := by
  rw [List.any_eq_false]
  intro a ha
  have := h a ha
  simp only [offB, Bool.or_eq_true, decide_eq_true_eq]
  omega
theorem lf_fac {y : Stp} {c : Cl} (h : lfErr y c = 0) : Fac y c := by
  have h2 := fz0 _ h (if lf2 y then 3 else 0) (by simp)
  have h3 : lf2 y = false := by
    cases h5 : lf2 y
    · rfl
    · rw [h5] at h2; simp at h2
  simp only [lf2, Bool.or_eq_false_iff] at h3
  have h1 := lf1_f h
  exact ⟨off_f h3.1.1.1, any_f h3.1.1.2, any_f h3.1.2, any_f h3.2, h1.2.1, h1.2.2⟩
theorem lf_len {y : Stp} {c d : Cl} (h1 : c.sp.length = d.sp.length) (h2 : c.gv.length = d.gv.length) : lfErr y c = lfErr y d := by
  unfold lfErr lf1
  rw [h1, h2]
theorem ins_b : ∀ {pt : List Int} {sp : List Sp} {v : Nat} {p : Int} {s : Sp}, ins pt sp = true → pt[v]? = some p → sp[v]? = some s → s.lo ≤ p ∧ p ≤ s.hi
  | [], _, v, p, s, _, h, _ => by simp at h
  | _ :: _, [], v, p, s, _, _, h => by simp at h
  | q :: pt, t :: sp, 0, p, s, hi, h1, h2 => by
    simp only [List.getElem?_cons_zero, Option.some.injEq] at h1 h2
    subst h1 h2
    exact ⟨(ins_c hi).1, (ins_c hi).2.1⟩
  | q :: pt, t :: sp, v + 1, p, s, hi, h1, h2 => by
    simp only [List.getElem?_cons_succ] at h1 h2
    exact ins_b (ins_c hi).2.2 h1 h2
theorem ck_sound {L : List Stp} {C : Cl} (hw : Wf L C.sp.length C.gv.length) (hl : ∀ (i : Nat) y, L[i]? = some y → y.leaf = true → lfErr y C = 0) : ∀ (F k : Nat) (c : Cl), k < F → k < L.length → Good c → c.sp.length = C.sp.length → c.gv.length = C.gv.length →
    (ck L F c k).2 = 0 → ∀ pt : List Int, pt.length = c.sp.length → ins pt c.sp = true → (∀ g ∈ c.gv, 0 ≤ V g pt) → 0 ≤ V c.go pt
  | 0, k, c, hk, _, _, _, _, _, pt, _, _, _ => by omega
  | F + 1, k, c, hk, hkl, hc, e1, e2, h, pt, hp, hi, hg => by
    obtain ⟨y, hy⟩ : ∃ y, L[k]? = some y := ⟨_, List.getElem?_eq_getElem hkl⟩
    simp only [ck, hy] at h
    by_cases hlf : y.leaf = true
    · simp only [hlf, if_true] at h
      have hle : lfErr y c = 0 := by rw [lf_len e1 e2]; exact hl k y hy hlf
      by_cases hpv : prv y c = true
      · exact leaf_sound hc (lf_fac hle) hpv hp hi hg
      · simp [hpv] at h
    · obtain ⟨w1, w2, w3, w4, w5, w6⟩ := hw.split k y hy (by simpa using hlf)
      simp only [hlf, Bool.false_eq_true, if_false] at h
      obtain ⟨v, hv⟩ : ∃ v : Nat, y.va = v := ⟨y.va.toNat, by omega⟩
      have hvl : v < c.sp.length := by omega
      obtain ⟨s, hsv⟩ : ∃ s, c.sp[v]? = some s := ⟨_, List.getElem?_eq_getElem hvl⟩
      obtain ⟨p, hpv⟩ : ∃ p, pt[v]? = some p := ⟨_, List.getElem?_eq_getElem (show v < pt.length by omega)⟩
      have hgd : c.sp.getD v ⟨0, 0⟩ = s := by rw [List.getD_eq_getElem?_getD, hsv]; rfl
      obtain ⟨o1, o2, o3⟩ := hc.sp s (List.mem_of_getElem? hsv)
      rw [hv, Int.toNat_natCast, hgd] at h
      cases ho : offB y.bo s.lo (sb s.hi 1)
      · have hs1 : sb s.hi 1 = s.hi - 1 := by unfold sb; exact wrp_ok (by omega)
        rw [hs1] at ho
        have hb := off_f ho
        have ea : ad y.bo 1 = y.bo + 1 := by unfold ad; exact wrp_ok (by omega)
        rw [hs1, ho, ea] at h
        simp only [Bool.false_eq_true, if_false] at h
        have G0 : Good (nar c v ⟨s.lo, y.bo⟩) := good_nar hc (by simp only; omega)
        have G1 : Good (nar c v ⟨y.bo + 1, s.hi⟩) := good_nar hc (by simp only; omega)
        have n0 : (nar c v ⟨s.lo, y.bo⟩).sp.length = C.sp.length := by simpa [nar] using e1
        have n1 : (nar c v ⟨y.bo + 1, s.hi⟩).sp.length = C.sp.length := by simpa [nar] using e1
        have hb0 := ins_b hi hpv hsv
        by_cases h0 : (ck L F (nar c v ⟨s.lo, y.bo⟩) y.k0.toNat).2 = 0
        · rw [if_pos h0] at h
          by_cases hpb : p ≤ y.bo
          · exact ck_sound hw hl F y.k0.toNat _ (by omega) (by omega) G0 n0 e2 h0 pt (by rw [n0]; omega) (ins_set pt c.sp v p _ hpv hb0.1 hpb hi) hg
          · exact ck_sound hw hl F y.k1.toNat _ (by omega) (by omega) G1 n1 e2 h pt (by rw [n1]; omega) (ins_set pt c.sp v p _ hpv (by simp only; omega) hb0.2 hi) hg
        · rw [if_neg h0] at h
          exact absurd h h0
      · rw [ho] at h
        simp at h
inductive PT : Cl → Nat → List Stp → Prop
  | leaf (c : Cl) (a : Nat) (s : Stp) : s.leaf = true → lfErr s c = 0 → prv s c = true → PT c a [s]
  | split (c : Cl) (a v : Nat) (b : Int) (s : Sp) (z1 z2 : List Stp) : c.sp[v]? = some s → s.lo ≤ b → b < s.hi → PT (nar c v ⟨s.lo, b⟩) a z1 → PT (nar c v ⟨ad b 1, s.hi⟩) (a + z1.length) z2 →
      PT c a (z1 ++ z2 ++ [splitOf v b (((a + z1.length : Nat) : Int) - 1) (((a + z1.length + z2.length : Nat) : Int) - 1)])
theorem pt_len {c : Cl} {a : Nat} {z : List Stp} (h : PT c a z) : 0 < z.length := by
  cases h <;> simp only [List.length_append, List.length_singleton] <;> omega
theorem leafOf_lf {c : Cl} (hc : Good c) {goal : Int} {gs : List Int} (h1 : 0 ≤ goal ∧ goal ≤ 1000) (h2 : ∀ a ∈ gs, 0 ≤ a ∧ a ≤ 1000) (h3 : gs.length = c.gv.length) : lfErr (leafOf c goal gs) c = 0 := by
  obtain ⟨v1, v2, v3⟩ := left_V (y := ⟨true, goal, false, gs, true, [], true, [], 0, 0, 0, 0⟩) hc h1 h2
  have a1 : lf1 (leafOf c goal gs) c = false := by
    simp only [lf1, leafOf, List.length_map, v3, h3]; simp
  have b1 : (leafOf c goal gs).lw.any (fun x => offB x 0 34359738368) = false := any_t (fun a ha => by
    simp only [leafOf] at ha
    obtain ⟨x, hx, rfl⟩ := List.mem_map.1 ha
    have := v2.1 x hx
    omega)
  have b2 : (leafOf c goal gs).hg.any (fun x => offB x 0 34359738368) = false := any_t (fun a ha => by
    simp only [leafOf] at ha
    obtain ⟨x, hx, rfl⟩ := List.mem_map.1 ha
    have := v2.1 x hx
    have e : ng x = -x := by unfold ng; rw [wrp_ok (by omega)]; omega
    rw [e]
    omega)
  have b3 : (leafOf c goal gs).gv.any (fun x => offB x 0 1000) = false := any_t h2
  have b4 : offB (leafOf c goal gs).goal 0 1000 = false := by
    rw [show (leafOf c goal gs).goal = goal from rfl]
    simp only [offB, Bool.or_eq_false_iff, decide_eq_false_iff_not]; omega
  have a2 : lf2 (leafOf c goal gs) = false := by
    unfold lf2
    rw [b1, b2, b3, b4]; rfl
  unfold lfErr
  rw [a1, a2]
  rfl
theorem leaves_lf {c : Cl} (hc : Good c) : ∀ s ∈ leaves c, s.leaf = true ∧ lfErr s c = 0 := by
  have hz : ∀ n, ∀ a ∈ List.replicate n (0 : Int), 0 ≤ a ∧ a ≤ 1000 := fun n a ha => by
    have := List.eq_of_mem_replicate ha; omega
  have hs : ∀ (g : Int), 0 ≤ g ∧ g ≤ 1000 → ∀ (i k m : Nat), m + k ≤ 4 → ∀ s ∈ lfs c g i m k, s.leaf = true ∧ lfErr s c = 0 := by
    intro g hg i k
    induction k with
    | zero => intro m _ s h; cases h
    | succ k ih =>
      intro m hm s h
      rcases List.mem_cons.1 h with rfl | h
      · exact ⟨rfl, leafOf_lf hc hg (fun a ha => by
          rcases List.mem_or_eq_of_mem_set ha with ha | rfl
          · exact hz _ a ha
          · omega) (by simp)⟩
      · exact ih (m + 1) (by omega) s h
  have hg : ∀ (g : Int), 0 ≤ g ∧ g ≤ 1000 → ∀ (M : Nat), M ≤ 4 → ∀ (r i : Nat), ∀ s ∈ lfg c g M i r, s.leaf = true ∧ lfErr s c = 0 := by
    intro g hg M hM r
    induction r with
    | zero => intro i s h; cases h
    | succ r ih =>
      intro i s h
      rcases List.mem_append.1 h with h | h
      · exact hs g hg i M 0 (by omega) s h
      · exact ih _ s h
  intro s h
  simp only [leaves, List.mem_append, List.mem_cons] at h
  rcases h with h | rfl | h
  · exact hg 0 (by omega) 1 (by omega) _ _ s h
  · exact ⟨rfl, leafOf_lf hc (by omega) (hz _) (by simp)⟩
  · exact hg 1 (by omega) 4 (by omega) _ _ s h
theorem dec_yes : ∀ (f t : Nat) (c : Cl) (st : List Stp), Good c → st.length + t < 1000000000 → (dec f t c st).ok = true → (dec f t c st).e = 0 ∧ ∃ z, (dec f t c st).st = st ++ z ∧ PT c st.length z
  | 0, t, c, st, hc, hb, h => by simp [dec] at h
  | f + 1, 0, c, st, hc, hb, h => by simp [dec] at h
  | f + 1, t + 1, c, st, hc, hb, h => by
    cases hd : dir c with
    | some s =>
      simp only [dec, hd]
      obtain ⟨l1, l2⟩ := leaves_lf hc s (List.mem_of_find?_eq_some hd)
      exact ⟨trivial, [s], rfl, .leaf c _ s l1 l2 (List.find?_some (p := fun s => prv s c) hd)⟩
    | none =>
      cases hw : (wid c.sp).2
      · simp only [dec, hd, hw] at h; cases h
      · obtain ⟨s, hs1, hs2⟩ := wid_gt hw
        have hgd : c.sp.getD (wid c.sp).1 ⟨0, 0⟩ = s := by rw [List.getD_eq_getElem?_getD, hs1]; rfl
        obtain ⟨o1, o2, o3⟩ := hc.sp s (List.mem_of_getElem? hs1)
        obtain ⟨m1, m2, m3⟩ := mid_ok o1 hs2 o3
        have G1 : Good (nar c (wid c.sp).1 ⟨s.lo, shr1 (ad s.lo s.hi)⟩) := good_nar hc (by simp only; omega)
        have G2 : Good (nar c (wid c.sp).1 ⟨ad (shr1 (ad s.lo s.hi)) 1, s.hi⟩) := good_nar hc (by simp only; omega)
        simp only [dec, hd, hw, hgd] at h ⊢
        have i1 := dec_yes f t (nar c (wid c.sp).1 ⟨s.lo, shr1 (ad s.lo s.hi)⟩) st G1 (by omega)
        have v1 := dec_inv f t (nar c (wid c.sp).1 ⟨s.lo, shr1 (ad s.lo s.hi)⟩) st
        generalize dec f t (nar c (wid c.sp).1 ⟨s.lo, shr1 (ad s.lo s.hi)⟩) st = r1 at h i1 v1 ⊢
        cases h1 : r1.ok
        · simp only [h1] at h; cases h
        · simp only [h1] at h ⊢
          obtain ⟨_, z1, q1, p1⟩ := i1 h1
          have i2 := dec_yes f r1.t (nar c (wid c.sp).1 ⟨ad (shr1 (ad s.lo s.hi)) 1, s.hi⟩) r1.st G2 (by omega)
          have v2 := dec_inv f r1.t (nar c (wid c.sp).1 ⟨ad (shr1 (ad s.lo s.hi)) 1, s.hi⟩) r1.st
          generalize dec f r1.t (nar c (wid c.sp).1 ⟨ad (shr1 (ad s.lo s.hi)) 1, s.hi⟩) r1.st = r2 at h i2 v2 ⊢
          cases h2 : r2.ok
          · simp only [h2] at h; cases h
          · simp only
            obtain ⟨_, z2, q2, p2⟩ := i2 h2
            have L1 : r1.st.length = st.length + z1.length := by rw [q1, List.length_append]
            have L2 : r2.st.length = st.length + z1.length + z2.length := by rw [q2, List.length_append, L1]
            refine ⟨trivial, z1 ++ z2 ++ [splitOf (wid c.sp).1 (shr1 (ad s.lo s.hi)) (((st.length + z1.length : Nat) : Int) - 1) (((st.length + z1.length + z2.length : Nat) : Int) - 1)], ?_, ?_⟩
            · rw [sbn (m := r1.st.length) (by omega), sbn (m := r2.st.length) (by omega), L1, L2, q2, q1, List.append_assoc, List.append_assoc, List.append_assoc]
            · rw [L1] at p2
              exact .split c _ _ _ s z1 z2 hs1 m1 m2 p1 p2
theorem ck_pt {c : Cl} {a : Nat} {z : List Stp} (h : PT c a z) : Good c → ∀ (pre w : List Stp) (F : Nat), pre.length = a → a + z.length ≤ F → ck (pre ++ z ++ w) F c (a + z.length - 1) = (0, 0) := by
  induction h with
  | leaf c a s h1 h2 h3 =>
    intro hc pre w F hp hF
    obtain ⟨F, rfl⟩ : ∃ G, F = G + 1 := ⟨F - 1, by simp at hF; omega⟩
    have hg : (pre ++ [s] ++ w)[a + [s].length - 1]? = some s := by
      rw [List.append_assoc, List.getElem?_append_right (by simp; omega)]
      simp [hp]
    simp only [ck, hg, h1, h3, if_true]
  | split c a v b s z1 z2 hs h1 h2 p1 p2 i1 i2 =>
    intro hc pre w F hp hF
    have n1 := pt_len p1
    have n2 := pt_len p2
    obtain ⟨o1, o2, o3⟩ := hc.sp s (List.mem_of_getElem? hs)
    have ea : ad b 1 = b + 1 := by unfold ad; exact wrp_ok (by omega)
    have G1 : Good (nar c v ⟨s.lo, b⟩) := good_nar hc (by simp only; omega)
    have G2 : Good (nar c v ⟨ad b 1, s.hi⟩) := good_nar hc (by simp only [ea]; omega)
    generalize hq : splitOf v b (((a + z1.length : Nat) : Int) - 1) (((a + z1.length + z2.length : Nat) : Int) - 1) = q at *
    simp only [List.length_append, List.length_singleton] at hF ⊢
    obtain ⟨F, rfl⟩ : ∃ G, F = G + 1 := ⟨F - 1, by omega⟩
    have hg : (pre ++ (z1 ++ z2 ++ [q]) ++ w)[a + (z1.length + z2.length + 1) - 1]? = some q := by
      rw [List.append_assoc, List.getElem?_append_right (by omega), List.getElem?_append_left (by simp; omega), List.getElem?_append_right (by simp; omega)]
      have : a + (z1.length + z2.length + 1) - 1 - pre.length - (z1 ++ z2).length = 0 := by simp; omega
      rw [this]; rfl
    have e1 := i1 G1 pre (z2 ++ [q] ++ w) F hp (by omega)
    have e2 := i2 G2 (pre ++ z1) ([q] ++ w) F (by simp [hp]) (by omega)
    have l1 : pre ++ z1 ++ (z2 ++ [q] ++ w) = pre ++ (z1 ++ z2 ++ [q]) ++ w := by simp only [List.append_assoc]
    have l2 : pre ++ z1 ++ z2 ++ ([q] ++ w) = pre ++ (z1 ++ z2 ++ [q]) ++ w := by simp only [List.append_assoc]
    rw [l1] at e1
    rw [l2] at e2
    have hgd : c.sp.getD v ⟨0, 0⟩ = s := by rw [List.getD_eq_getElem?_getD, hs]; rfl
    have ho : offB b s.lo (sb s.hi 1) = false := by
      have : sb s.hi 1 = s.hi - 1 := by unfold sb; exact wrp_ok (by omega)
      simp only [this, offB, Bool.or_eq_false_iff, decide_eq_false_iff_not]; omega
    have f1 : q.leaf = false := by rw [← hq]; rfl
    have f2 : q.va.toNat = v := by rw [← hq]; simp [splitOf]
    have f3 : q.bo = b := by rw [← hq]; rfl
    have f4 : q.k0.toNat = a + z1.length - 1 := by rw [← hq]; simp only [splitOf]; omega
    have f5 : q.k1.toNat = a + z1.length + z2.length - 1 := by rw [← hq]; simp only [splitOf]; omega
    simp only [ck, hg, f1, f2, f3, f4, f5, hgd, ho, Bool.false_eq_true, if_false, e1, e2, if_true]
theorem cf_pt {C : Cl} (hC : C.sp.length < 1000000000) {c : Cl} {a : Nat} {z : List Stp} (h : PT c a z) : Good c → c.sp.length = C.sp.length → c.gv.length = C.gv.length → ∀ (r : List Stp) (ks : List Int), (∀ x ∈ ks, x < (a : Int)) → a + z.length < 1000000000 →
    ∃ zs : List Int, cf C (z ++ r) a ks = cf C r (a + z.length) (ks ++ zs) ∧ zs.length + 1 = z.length ∧ ∀ x ∈ zs, (a : Int) ≤ x ∧ x < (a + z.length : Nat) - 1 := by
  induction h with
  | leaf c a s h1 h2 h3 =>
    intro hc e1 e2 r ks hk hb
    have hl : lfErr s C = 0 := by rw [← lf_len e1 e2]; exact h2
    exact ⟨[], by simp only [List.cons_append, List.nil_append, cf, h1, hl, if_true, List.append_nil, List.length_singleton], rfl, by simp⟩
  | split c a v b s z1 z2 hs h1 h2 p1 p2 i1 i2 =>
    intro hc e1 e2 r ks hk hb
    have n1 := pt_len p1
    have n2 := pt_len p2
    obtain ⟨o1, o2, o3⟩ := hc.sp s (List.mem_of_getElem? hs)
    have hvl := (List.getElem?_eq_some_iff.1 hs).1
    have ea : ad b 1 = b + 1 := by unfold ad; exact wrp_ok (by omega)
    have G1 : Good (nar c v ⟨s.lo, b⟩) := good_nar hc (by simp only; omega)
    have G2 : Good (nar c v ⟨ad b 1, s.hi⟩) := good_nar hc (by simp only [ea]; omega)
    simp only [List.length_append, List.length_singleton] at hb ⊢
    generalize hq : splitOf v b (((a + z1.length : Nat) : Int) - 1) (((a + z1.length + z2.length : Nat) : Int) - 1) = q at *
    obtain ⟨zs1, c1, l1, m1⟩ := i1 G1 (by simpa [nar] using e1) e2 (z2 ++ ([q] ++ r)) ks hk (by omega)
    obtain ⟨zs2, c2, l2, m2⟩ := i2 G2 (by simpa [nar] using e1) e2 ([q] ++ r) (ks ++ zs1) (fun x hx => by
      rcases List.mem_append.1 hx with hx | hx
      · have := hk x hx; omega
      · have := m1 x hx; omega) (by omega)
    have ez : z1 ++ z2 ++ [q] ++ r = z1 ++ (z2 ++ ([q] ++ r)) := by simp only [List.append_assoc]
    have f1 : q.leaf = false := by rw [← hq]; rfl
    have f2 : q.va = v := by rw [← hq]; rfl
    have f3 : q.bo = b := by rw [← hq]; rfl
    have f4 : q.k0 = ((a + z1.length : Nat) : Int) - 1 := by rw [← hq]; rfl
    have f5 : q.k1 = ((a + z1.length + z2.length : Nat) : Int) - 1 := by rw [← hq]; rfl
    have hE : spE (sp1 q) q C ((a + z1.length + z2.length : Nat) : Int) = 0 := by
      have g1 : sp1 q = false := by
        rw [← hq]
        simp only [sp1, splitOf, List.length_nil]
        rfl
      have g2 : offB q.va 0 (sb C.sp.length 1) = false := by
        rw [f2, sbn hC]
        simp only [offB, Bool.or_eq_false_iff, decide_eq_false_iff_not]; omega
      have g3 : offB q.bo (-1048576) 1048576 = false := by
        rw [f3]
        simp only [offB, Bool.or_eq_false_iff, decide_eq_false_iff_not]; omega
      have g4 : sp2 q ((a + z1.length + z2.length : Nat) : Int) = false := by
        unfold sp2
        rw [sbn (by omega), f4, f5]
        simp only [offB, Bool.or_eq_false_iff, decide_eq_false_iff_not]; omega
      unfold spE
      rw [g1, g2, g3, g4]; rfl
    have hn0 : (ks ++ zs1 ++ zs2).contains q.k0 = false := by
      rw [List.contains_eq_any_beq, List.any_eq_false]
      intro x hx
      have : x ≠ q.k0 := by
        rw [f4]
        rcases List.mem_append.1 hx with hx | hx
        · rcases List.mem_append.1 hx with hx | hx
          · have := hk x hx; omega
          · have := m1 x hx; omega
        · have := m2 x hx; omega
      simpa using fun h : q.k0 = x => this h.symm
    have hn1 : (ks ++ zs1 ++ zs2 ++ [q.k0]).contains q.k1 = false := by
      rw [List.contains_eq_any_beq, List.any_eq_false]
      intro x hx
      have : x ≠ q.k1 := by
        rw [f5]
        rcases List.mem_append.1 hx with hx | hx
        · rcases List.mem_append.1 hx with hx | hx
          · rcases List.mem_append.1 hx with hx | hx
            · have := hk x hx; omega
            · have := m1 x hx; omega
          · have := m2 x hx; omega
        · simp only [List.mem_singleton] at hx
          rw [hx, f4]; omega
      simpa using fun h : q.k1 = x => this h.symm
    have hspl : spl q C ((a + z1.length + z2.length : Nat) : Int) (ks ++ zs1 ++ zs2) = (0, ks ++ zs1 ++ zs2 ++ [q.k0] ++ [q.k1]) := by
      unfold spl
      rw [if_pos hE, hn0, hn1]; rfl
    refine ⟨zs1 ++ zs2 ++ [q.k0] ++ [q.k1], ?_, by simp; omega, ?_⟩
    · rw [ez, c1, c2]
      rw [List.cons_append, List.nil_append, cf]
      simp only [f1, Bool.false_eq_true, if_false]
      rw [hspl]
      simp only [if_true, List.append_assoc]
      rw [show a + (z1.length + z2.length + 1) = a + z1.length + z2.length + 1 by omega]
    · intro x hx
      rcases List.mem_append.1 hx with hx | hx
      · rcases List.mem_append.1 hx with hx | hx
        · rcases List.mem_append.1 hx with hx | hx
          · have := m1 x hx; omega
          · have := m2 x hx; omega
        · simp only [List.mem_singleton] at hx
          rw [hx, f4]; omega
      · simp only [List.mem_singleton] at hx
        rw [hx, f5]; omega
theorem made_ok {c : Cl} (hf : c.Fit) (h : clErr c = 0) {t : Nat} (ht : t ≤ 400) (hok : (dec t t c []).ok = true) : (dec t t c []).e = 0 ∧ (dec t t c []).st ≠ [] ∧ (dec t t c []).st.length ≤ 400 ∧ chk c (dec t t c []).st = .tup [.int .i64 0, .int .i64 0] := by
  have G := clErr_good hf h
  obtain ⟨e0, z, hz, hp⟩ := dec_yes t t c [] G (by simp; omega) hok
  obtain ⟨_, i2, _, _⟩ := dec_inv t t c []
  simp only [List.nil_append] at hz
  simp only [List.length_nil] at i2 hp
  rw [hz] at i2 ⊢
  have n0 := pt_len hp
  have hlen : z.length ≤ 400 := by omega
  refine ⟨e0, List.length_pos_iff.1 n0, hlen, ?_⟩
  obtain ⟨zs, c1, c2, c3⟩ := cf_pt hf.sp hp G rfl rfl [] [] (by simp) (by omega)
  simp only [List.append_nil, List.nil_append, Nat.zero_add] at c1
  have hE : cfE c z = 0 := by
    unfold cfE
    have g1 : ¬ ((z.length : Int) = 0) := by omega
    have g2 : ¬ ((400 : Int) < z.length) := by omega
    simp [fnz, h, g2, List.length_pos_iff.1 n0]
  have hform : cform c z = 0 := by
    unfold cform
    rw [if_pos hE, c1]
    simp only [cf, if_true]
    rw [sbn (by omega)]
    have : ((zs.length : Nat) : Int) = (z.length : Int) - 1 := by omega
    simp [this]
  have hck : chkR c z = (0, 0) := by
    have := ck_pt hp G [] [] z.length rfl (by omega)
    simp only [List.append_nil, List.nil_append, Nat.zero_add] at this
    exact this
  unfold chk
  rw [hform, hck]
  rfl
theorem right_sound {c : Cl} {l : List Stp} (hf : c.Fit) (h1 : cform c l = 0) (h2 : (chkR c l).2 = 0) {pt : List Int} (hp : pt.length = c.sp.length) (hi : ins pt c.sp = true) (hg : ∀ g ∈ c.gv, 0 ≤ V g pt) : 0 ≤ V c.go pt := by
  obtain ⟨f0, f1⟩ := cform_cf h1
  obtain ⟨c1, c2, c3⟩ := cfE_f f0
  have G := clErr_good hf c1
  refine ck_sound (C := c) (cform_wf hf h1) (fun i y hy hl => ?_) l.length (l.length - 1) c (by omega) (by omega) G rfl rfl h2 pt hp hi hg
  have := (cf_ok c l 0 [] f1 i y hy).1 hl
  exact this
end Go.Vm.P12

/- Chapter 12, the laws: ProveHolds, the points of a box. -/
set_option maxRecDepth 100000
set_option maxHeartbeats 4000000
namespace Go.Vm.P12
open Go Go.Vm
def ep (x : List Int) : List D := [.sl 1 (x.map ic)]
def vS (r : Bool) (k : Nat) (ps : List (List Int)) : AV := match r with
  | false => .imm (.sl 1 (ps.map ep))
  | true => .ref k 1 0 ps.length
def oS (r : Bool) (ps : List (List Int)) : List AO := match r with
  | false => []
  | true => [.arr 1 (ps.map ep)]
def n1 (acc : List (List Int)) : Nat := match acc with | [] => 3 | _ => 4
end Go.Vm.P12

/- Chapter 12, the laws: ProveHolds, the points of a box, end. -/
set_option maxRecDepth 100000
set_option maxHeartbeats 4000000
namespace Go.Vm.P12
open Go Go.Vm
end Go.Vm.P12

/- Chapter 12, the laws: ProveHolds, the points of a box, whole. -/
set_option maxRecDepth 100000
set_option maxHeartbeats 4000000
namespace Go.Vm.P12
open Go Go.Vm
def x42 (c : Cl) (bp : Bool) (pr : List Stp) (z : Bool × Bool × List (List Int)) : AExit × S := match z.1 with
  | true => (.exit 0, ⟨[.junk, .junk, .junk, .ptr 0 0, .ptr 1 0, vS z.2.1 2 z.2.2, .junk, .junk, .junk, .junk, .junk, .junk, .junk, .junk, .junk, .junk, .junk, .junk, .junk, .junk, .junk, .junk, .junk, .junk, .junk, .junk, .junk, .junk, .junk, .junk, .junk, .junk, .junk, .junk, .junk, .junk, .junk, .junk, .junk, .junk, .junk, .junk, .junk, .junk, .junk, .junk, .junk, .junk, .junk, .junk, .junk, .junk], [.box ((enC c).map .imm), .box [.imm (slD bp 9 (pr.map enT))]] ++ oS z.2.1 z.2.2, none⟩)
  | false => (.ret, ⟨[.junk, .junk, .imm (.bool true), .ptr 0 0, .ptr 1 0, vS z.2.1 2 z.2.2, .junk, .junk, .junk, .junk, .junk, .junk, .junk, .junk, .junk, .junk, .junk, .junk, .junk, .junk, .junk, .junk, .junk, .junk, .junk, .junk, .junk, .junk, .junk, .junk, .junk, .junk, .junk, .junk, .junk, .junk, .junk, .junk, .junk, .junk, .junk, .junk, .junk, .junk, .junk, .junk, .junk, .junk, .junk, .junk, .junk, .junk], [.box ((enC c).map .imm), .box [.imm (slD bp 9 (pr.map enT))]] ++ oS z.2.1 z.2.2, none⟩)
end Go.Vm.P12

/- Chapter 12, the laws: ProveValues, end. -/
set_option maxRecDepth 100000
set_option maxHeartbeats 8000000
namespace Go.Vm.P12
open Go Go.Vm
def lsV (g : Bool) (x : Ln) (sp : List Sp) : Int := if bxErr x sp = 0 then exs g x.co sp x.c else 0
theorem least_tup (g : Bool) (x : Ln) (sp : List Sp) : least g x sp = .tup [.int .i64 (lsV g x sp), .int .i64 (bxErr x sp)] := by
  unfold least lsV
  by_cases h : bxErr x sp = 0 <;> simp [h]
def vlV (x : Ln) (pt : List Int) : Int := if vlE x pt = 0 then vl x.co pt x.c else 0
def rfV (c : Cl) (pt : List Int) : Bool := if rfE c pt = 0 then rfB c pt else false
section
variable {cx : Cx} {v0 v1 v2 v9 v10 v11 v12 v13 v14 v15 v16 v17 v18 v19 v20 v21 v22 : AV} {st : List AO}
@[go_sem high] theorem r6_6 {n : Nat} {c : Cl} (hc : c.Fit) :
    aCode (level E (n + 1)) cx (.region [
  ⟨none, none, .mv (.var 5)⟩,
  ⟨none, none, .mv (.var 8)⟩,
  ⟨none, none, .bin .neq (.loc 0) (.loc 1)⟩,
  ⟨none, none, .mv (.loc 2)⟩,
  ⟨none, some (3, false), .mv (.var 7)⟩,
  ⟨none, some (3, false), .mv (.var 8)⟩,
  ⟨none, some (3, false), .bin .neq (.loc 4) (.loc 5)⟩,
  ⟨none, none, .pick (.loc 3) (.k (.bool true)) (.loc 6)⟩,
  ⟨none, none, .mv (.loc 7)⟩,
  ⟨none, some (8, false), .mv (.var 8)⟩,
  ⟨none, some (8, false), .bin .eql (.loc 9) (.k (.int .i64 0))⟩,
  ⟨none, some (8, false), .mv (.loc 10)⟩,
  ⟨none, some (11, true), .mv (.var 4)⟩,
  ⟨none, some (11, true), .faddr 2 (.var 3)⟩,
  ⟨none, some (11, true), .load true 2 (.loc 13)⟩,
  ⟨none, some (11, true), .faddr 0 (.var 3)⟩,
  ⟨none, some (11, true), .load false 1 (.loc 15)⟩,
  ⟨none, some (11, true), .call .pure (.k (.fn 40 [] [])) [(.loc 14), (.loc 16)]⟩,
  ⟨none, some (11, true), .bin .neq (.loc 12) (.loc 17)⟩,
  ⟨none, some (11, true), .mv (.loc 18)⟩,
  ⟨none, some (19, false), .mv (.var 6)⟩,
  ⟨none, some (19, false), .faddr 2 (.var 3)⟩,
  ⟨none, some (19, false), .load true 2 (.loc 21)⟩,
  ⟨none, some (19, false), .faddr 0 (.var 3)⟩,
  ⟨none, some (19, false), .load false 1 (.loc 23)⟩,
  ⟨none, some (19, false), .call .pure (.k (.fn 41 [] [])) [(.loc 22), (.loc 24)]⟩,
  ⟨none, some (19, false), .bin .neq (.loc 20) (.loc 25)⟩,
  ⟨none, some (11, true), .pick (.loc 19) (.k (.bool true)) (.loc 26)⟩,
  ⟨none, some (8, false), .pick (.loc 11) (.loc 27) (.k (.bool false))⟩,
  ⟨none, none, .pick (.loc 8) (.k (.bool true)) (.loc 28)⟩,
  ⟨none, none, .mv (.loc 29)⟩,
  ⟨none, some (30, false), .mv (.var 8)⟩,
  ⟨none, some (30, false), .bin .neq (.loc 31) (.k (.int .i64 0))⟩,
  ⟨none, some (30, false), .mv (.loc 32)⟩,
  ⟨none, some (33, true), .mv (.var 4)⟩,
  ⟨none, some (33, true), .bin .neq (.loc 34) (.k (.int .i64 0))⟩,
  ⟨none, some (33, true), .mv (.loc 35)⟩,
  ⟨none, some (36, false), .mv (.var 6)⟩,
  ⟨none, some (36, false), .bin .neq (.loc 37) (.k (.int .i64 0))⟩,
  ⟨none, some (33, true), .pick (.loc 36) (.k (.bool true)) (.loc 38)⟩,
  ⟨none, some (30, false), .pick (.loc 33) (.loc 39) (.k (.bool false))⟩,
  ⟨(some 15), none, .pick (.loc 30) (.k (.bool true)) (.loc 40)⟩] none) ⟨[v0, v1, v2, .ptr 0 0, .imm (.int .i64 (lsV false c.go c.sp)), .imm (.int .i64 (bxErr c.go c.sp)), .imm (.int .i64 (lsV true c.go c.sp)), .imm (.int .i64 (bxErr c.go c.sp)), .imm (.int .i64 (bxErr c.go c.sp)), v9, v10, v11, v12, v13, v14, v15, v16, v17, v18, v19, v20, v21, v22],
      .box [.imm (slD c.sn 2 (c.sp.map enS)), .imm (slD c.gn 2 (c.gv.map enL)), .imm (slD c.go.nl 1 (c.go.co.map ic)), .imm (.int .i64 c.go.c)] :: st, none⟩ =
      some (.normal, ⟨[v0, v1, v2, .ptr 0 0, .imm (.int .i64 (lsV false c.go c.sp)), .imm (.int .i64 (bxErr c.go c.sp)), .imm (.int .i64 (lsV true c.go c.sp)), .imm (.int .i64 (bxErr c.go c.sp)), .imm (.int .i64 (bxErr c.go c.sp)), v9, v10, v11, v12, v13, v14, .imm (.bool false), v16, v17, v18, v19, v20, v21, v22],
      .box [.imm (slD c.sn 2 (c.sp.map enS)), .imm (slD c.gn 2 (c.gv.map enL)), .imm (slD c.go.nl 1 (c.go.co.map ic)), .imm (.int .i64 c.go.c)] :: st, none⟩) := by
  by_cases h0 : bxErr c.go c.sp = 0
  · have hl := bxErr0 h0
    have f := fz0 _ h0
    have h40 := ok40 n c.go c.sn c.sp (by omega) hc.sp
    have h41 := ok41 n c.go c.sn c.sp (by omega) hc.sp
    have q1 := lnErr_co (f _ (List.mem_cons_self))
    have q2 : SpOk c.sp := spErr_ok (f (spErr c.sp) (by simp))
    have e1 : lsV false c.go c.sp = rex false c.go.co c.sp c.go.c := by rw [lsV, if_pos h0, ex_eq _ _ _ _ q1 q2]
    have e2 : lsV true c.go c.sp = rex true c.go.co c.sp c.go.c := by rw [lsV, if_pos h0, ex_eq _ _ _ _ q1 q2]
    rw [e1, e2]
    simp only [go_sem, Nat.reduceAdd, Nat.reduceSub, Nat.reduceMul, Nat.reduceDiv, Nat.reduceMod, Nat.reduceLeDiff, Nat.reduceLT, Nat.reduceBEq, Int.reduceToNat, Int.reduceLT, Int.reduceLE, Int.reduceEq] at h40 h41
    simp only [go_sem, Nat.reduceAdd, Nat.reduceSub, Nat.reduceMul, Nat.reduceDiv, Nat.reduceMod, Nat.reduceLeDiff, Nat.reduceLT, Nat.reduceBEq, Int.reduceToNat, Int.reduceLT, Int.reduceLE, Int.reduceEq, h0, h40, h41, ne_eq, not_true_eq_false]
  · have e1 : lsV false c.go c.sp = 0 := by rw [lsV, if_neg h0]
    have e2 : lsV true c.go c.sp = 0 := by rw [lsV, if_neg h0]
    rw [e1, e2]
    simp only [go_sem, Nat.reduceAdd, Nat.reduceSub, Nat.reduceMul, Nat.reduceDiv, Nat.reduceMod, Nat.reduceLeDiff, Nat.reduceLT, Nat.reduceBEq, Int.reduceToNat, Int.reduceLT, Int.reduceLE, Int.reduceEq, h0, ne_eq, not_true_eq_false, not_false_eq_true]
theorem r6_13 {n : Nat} {c : Cl} {b : Bool} {pt : List Int} {v4 v5 v6 v7 : AV} (hp : pt.length < 1000000000) :
    aCode (level E (n + 1)) cx (.region [
  ⟨none, none, .mv (.var 10)⟩,
  ⟨none, none, .mv (.var 8)⟩,
  ⟨none, none, .bin .neq (.loc 0) (.loc 1)⟩,
  ⟨none, none, .mv (.loc 2)⟩,
  ⟨none, some (3, false), .mv (.var 8)⟩,
  ⟨none, some (3, false), .bin .eql (.loc 4) (.k (.int .i64 0))⟩,
  ⟨none, some (3, false), .mv (.loc 5)⟩,
  ⟨none, some (6, true), .mv (.var 9)⟩,
  ⟨none, some (6, true), .faddr 2 (.var 3)⟩,
  ⟨none, some (6, true), .load true 2 (.loc 8)⟩,
  ⟨none, some (6, true), .mv (.var 1)⟩,
  ⟨none, some (6, true), .call .pure (.k (.fn 43 [] [])) [(.loc 9), (.loc 10)]⟩,
  ⟨none, some (6, true), .bin .neq (.loc 7) (.loc 11)⟩,
  ⟨none, some (3, false), .pick (.loc 6) (.loc 12) (.k (.bool false))⟩,
  ⟨none, none, .pick (.loc 3) (.k (.bool true)) (.loc 13)⟩,
  ⟨none, none, .mv (.loc 14)⟩,
  ⟨none, some (15, false), .mv (.var 8)⟩,
  ⟨none, some (15, false), .bin .neq (.loc 16) (.k (.int .i64 0))⟩,
  ⟨none, some (15, false), .mv (.loc 17)⟩,
  ⟨none, some (18, true), .mv (.var 9)⟩,
  ⟨none, some (18, true), .bin .neq (.loc 19) (.k (.int .i64 0))⟩,
  ⟨none, some (15, false), .pick (.loc 18) (.loc 20) (.k (.bool false))⟩,
  ⟨(some 22), none, .pick (.loc 15) (.k (.bool true)) (.loc 21)⟩] none) ⟨[v0, .imm (slD b 1 (pt.map ic)), v2, .ptr 0 0, v4, v5, v6, v7, .imm (.int .i64 (vlE c.go pt)), .imm (.int .i64 (vlV c.go pt)), .imm (.int .i64 (vlE c.go pt)), v11, v12, v13, v14, v15, v16, v17, v18, v19, v20, v21, v22],
      .box [.imm (slD c.sn 2 (c.sp.map enS)), .imm (slD c.gn 2 (c.gv.map enL)), .imm (slD c.go.nl 1 (c.go.co.map ic)), .imm (.int .i64 c.go.c)] :: st, none⟩ =
      some (.normal, ⟨[v0, .imm (slD b 1 (pt.map ic)), v2, .ptr 0 0, v4, v5, v6, v7, .imm (.int .i64 (vlE c.go pt)), .imm (.int .i64 (vlV c.go pt)), .imm (.int .i64 (vlE c.go pt)), v11, v12, v13, v14, v15, v16, v17, v18, v19, v20, v21, .imm (.bool false)],
      .box [.imm (slD c.sn 2 (c.sp.map enS)), .imm (slD c.gn 2 (c.gv.map enL)), .imm (slD c.go.nl 1 (c.go.co.map ic)), .imm (.int .i64 c.go.c)] :: st, none⟩) := by
  by_cases h0 : vlE c.go pt = 0
  · have h43 := ok43 n c.go b pt (Nat.le_of_eq (vlE_len h0).symm) hp
    have e1 : vlV c.go pt = vl c.go.co pt c.go.c := by rw [vlV, if_pos h0]
    rw [e1]
    simp only [go_sem, Nat.reduceAdd, Nat.reduceSub, Nat.reduceMul, Nat.reduceDiv, Nat.reduceMod, Nat.reduceLeDiff, Nat.reduceLT, Nat.reduceBEq, Int.reduceToNat, Int.reduceLT, Int.reduceLE, Int.reduceEq] at h43
    simp only [go_sem, Nat.reduceAdd, Nat.reduceSub, Nat.reduceMul, Nat.reduceDiv, Nat.reduceMod, Nat.reduceLeDiff, Nat.reduceLT, Nat.reduceBEq, Int.reduceToNat, Int.reduceLT, Int.reduceLE, Int.reduceEq, h0, h43, ne_eq, not_true_eq_false]
  · have e1 : vlV c.go pt = 0 := by rw [vlV, if_neg h0]
    rw [e1]
    simp only [go_sem, Nat.reduceAdd, Nat.reduceSub, Nat.reduceMul, Nat.reduceDiv, Nat.reduceMod, Nat.reduceLeDiff, Nat.reduceLT, Nat.reduceBEq, Int.reduceToNat, Int.reduceLT, Int.reduceLE, Int.reduceEq, h0, ne_eq, not_true_eq_false, not_false_eq_true]
@[go_sem high] theorem r6_13n {n : Nat} {c : Cl} {b : Bool}  {v4 v5 v6 v7 : AV}  :
    aCode (level E (n + 1)) cx (.region [
  ⟨none, none, .mv (.var 10)⟩,
  ⟨none, none, .mv (.var 8)⟩,
  ⟨none, none, .bin .neq (.loc 0) (.loc 1)⟩,
  ⟨none, none, .mv (.loc 2)⟩,
  ⟨none, some (3, false), .mv (.var 8)⟩,
  ⟨none, some (3, false), .bin .eql (.loc 4) (.k (.int .i64 0))⟩,
  ⟨none, some (3, false), .mv (.loc 5)⟩,
  ⟨none, some (6, true), .mv (.var 9)⟩,
  ⟨none, some (6, true), .faddr 2 (.var 3)⟩,
  ⟨none, some (6, true), .load true 2 (.loc 8)⟩,
  ⟨none, some (6, true), .mv (.var 1)⟩,
  ⟨none, some (6, true), .call .pure (.k (.fn 43 [] [])) [(.loc 9), (.loc 10)]⟩,
  ⟨none, some (6, true), .bin .neq (.loc 7) (.loc 11)⟩,
  ⟨none, some (3, false), .pick (.loc 6) (.loc 12) (.k (.bool false))⟩,
  ⟨none, none, .pick (.loc 3) (.k (.bool true)) (.loc 13)⟩,
  ⟨none, none, .mv (.loc 14)⟩,
  ⟨none, some (15, false), .mv (.var 8)⟩,
  ⟨none, some (15, false), .bin .neq (.loc 16) (.k (.int .i64 0))⟩,
  ⟨none, some (15, false), .mv (.loc 17)⟩,
  ⟨none, some (18, true), .mv (.var 9)⟩,
  ⟨none, some (18, true), .bin .neq (.loc 19) (.k (.int .i64 0))⟩,
  ⟨none, some (15, false), .pick (.loc 18) (.loc 20) (.k (.bool false))⟩,
  ⟨(some 22), none, .pick (.loc 15) (.k (.bool true)) (.loc 21)⟩] none) ⟨[v0, .imm (slD b 1 []), v2, .ptr 0 0, v4, v5, v6, v7, .imm (.int .i64 (vlE c.go [])), .imm (.int .i64 (vlV c.go [])), .imm (.int .i64 (vlE c.go [])), v11, v12, v13, v14, v15, v16, v17, v18, v19, v20, v21, v22],
      .box [.imm (slD c.sn 2 (c.sp.map enS)), .imm (slD c.gn 2 (c.gv.map enL)), .imm (slD c.go.nl 1 (c.go.co.map ic)), .imm (.int .i64 c.go.c)] :: st, none⟩ =
      some (.normal, ⟨[v0, .imm (slD b 1 []), v2, .ptr 0 0, v4, v5, v6, v7, .imm (.int .i64 (vlE c.go [])), .imm (.int .i64 (vlV c.go [])), .imm (.int .i64 (vlE c.go [])), v11, v12, v13, v14, v15, v16, v17, v18, v19, v20, v21, .imm (.bool false)],
      .box [.imm (slD c.sn 2 (c.sp.map enS)), .imm (slD c.gn 2 (c.gv.map enL)), .imm (slD c.go.nl 1 (c.go.co.map ic)), .imm (.int .i64 c.go.c)] :: st, none⟩) := r6_13 (pt := []) (by simp)
@[go_sem high] theorem r6_13c {n : Nat} {c : Cl} {p0 : Int} {pt : List Int} {v4 v5 v6 v7 : AV} (hp : (p0 :: pt).length < 1000000000) :
    aCode (level E (n + 1)) cx (.region [
  ⟨none, none, .mv (.var 10)⟩,
  ⟨none, none, .mv (.var 8)⟩,
  ⟨none, none, .bin .neq (.loc 0) (.loc 1)⟩,
  ⟨none, none, .mv (.loc 2)⟩,
  ⟨none, some (3, false), .mv (.var 8)⟩,
  ⟨none, some (3, false), .bin .eql (.loc 4) (.k (.int .i64 0))⟩,
  ⟨none, some (3, false), .mv (.loc 5)⟩,
  ⟨none, some (6, true), .mv (.var 9)⟩,
  ⟨none, some (6, true), .faddr 2 (.var 3)⟩,
  ⟨none, some (6, true), .load true 2 (.loc 8)⟩,
  ⟨none, some (6, true), .mv (.var 1)⟩,
  ⟨none, some (6, true), .call .pure (.k (.fn 43 [] [])) [(.loc 9), (.loc 10)]⟩,
  ⟨none, some (6, true), .bin .neq (.loc 7) (.loc 11)⟩,
  ⟨none, some (3, false), .pick (.loc 6) (.loc 12) (.k (.bool false))⟩,
  ⟨none, none, .pick (.loc 3) (.k (.bool true)) (.loc 13)⟩,
  ⟨none, none, .mv (.loc 14)⟩,
  ⟨none, some (15, false), .mv (.var 8)⟩,
  ⟨none, some (15, false), .bin .neq (.loc 16) (.k (.int .i64 0))⟩,
  ⟨none, some (15, false), .mv (.loc 17)⟩,
  ⟨none, some (18, true), .mv (.var 9)⟩,
  ⟨none, some (18, true), .bin .neq (.loc 19) (.k (.int .i64 0))⟩,
  ⟨none, some (15, false), .pick (.loc 18) (.loc 20) (.k (.bool false))⟩,
  ⟨(some 22), none, .pick (.loc 15) (.k (.bool true)) (.loc 21)⟩] none) ⟨[v0, .imm (.sl 1 ([.int .i64 p0] :: pt.map ic)), v2, .ptr 0 0, v4, v5, v6, v7, .imm (.int .i64 (vlE c.go (p0 :: pt))), .imm (.int .i64 (vlV c.go (p0 :: pt))), .imm (.int .i64 (vlE c.go (p0 :: pt))), v11, v12, v13, v14, v15, v16, v17, v18, v19, v20, v21, v22],
      .box [.imm (slD c.sn 2 (c.sp.map enS)), .imm (slD c.gn 2 (c.gv.map enL)), .imm (slD c.go.nl 1 (c.go.co.map ic)), .imm (.int .i64 c.go.c)] :: st, none⟩ =
      some (.normal, ⟨[v0, .imm (.sl 1 ([.int .i64 p0] :: pt.map ic)), v2, .ptr 0 0, v4, v5, v6, v7, .imm (.int .i64 (vlE c.go (p0 :: pt))), .imm (.int .i64 (vlV c.go (p0 :: pt))), .imm (.int .i64 (vlE c.go (p0 :: pt))), v11, v12, v13, v14, v15, v16, v17, v18, v19, v20, v21, .imm (.bool false)],
      .box [.imm (slD c.sn 2 (c.sp.map enS)), .imm (slD c.gn 2 (c.gv.map enL)), .imm (slD c.go.nl 1 (c.go.co.map ic)), .imm (.int .i64 c.go.c)] :: st, none⟩) := r6_13 (b := false) (pt := p0 :: pt) hp
theorem r6_17 {n : Nat} {c : Cl} {b : Bool} {pt : List Int} {v4 v5 v6 v7 : AV} (hc : c.Fit) (hp : pt.length < 1000000000) :
    aCode (level E (n + 2)) cx (.region [
  ⟨none, none, .mv (.var 13)⟩,
  ⟨none, none, .mv (.var 8)⟩,
  ⟨none, none, .bin .eql (.loc 0) (.loc 1)⟩,
  ⟨none, none, .mv (.loc 2)⟩,
  ⟨none, some (3, true), .mv (.var 12)⟩,
  ⟨none, some (3, true), .mv (.var 8)⟩,
  ⟨none, some (3, true), .bin .eql (.loc 5) (.k (.int .i64 0))⟩,
  ⟨none, some (3, true), .mv (.loc 6)⟩,
  ⟨none, some (7, true), .load true 4 (.var 3)⟩,
  ⟨none, some (7, true), .mv (.var 1)⟩,
  ⟨none, some (7, true), .call .pure (.k (.fn 44 [] [])) [(.loc 8), (.loc 9)]⟩,
  ⟨none, some (3, true), .pick (.loc 7) (.loc 10) (.k (.bool false))⟩,
  ⟨none, some (3, true), .eqs false .bool (.loc 4) (.loc 11)⟩,
  ⟨none, none, .pick (.loc 3) (.loc 12) (.k (.bool false))⟩,
  ⟨(some 2), none, .mv (.loc 13)⟩] none) ⟨[v0, .imm (slD b 1 (pt.map ic)), v2, .ptr 0 0, v4, v5, v6, v7, .imm (.int .i64 (rfE c pt)), v9, v10, v11, .imm (.bool (rfV c pt)), .imm (.int .i64 (rfE c pt)), v14, v15, v16, v17, v18, v19, v20, v21, v22],
      .box [.imm (slD c.sn 2 (c.sp.map enS)), .imm (slD c.gn 2 (c.gv.map enL)), .imm (slD c.go.nl 1 (c.go.co.map ic)), .imm (.int .i64 c.go.c)] :: st, none⟩ =
      some (.normal, ⟨[v0, .imm (slD b 1 (pt.map ic)), .imm (.bool true), .ptr 0 0, v4, v5, v6, v7, .imm (.int .i64 (rfE c pt)), v9, v10, v11, .imm (.bool (rfV c pt)), .imm (.int .i64 (rfE c pt)), v14, v15, v16, v17, v18, v19, v20, v21, v22],
      .box [.imm (slD c.sn 2 (c.sp.map enS)), .imm (slD c.gn 2 (c.gv.map enL)), .imm (slD c.go.nl 1 (c.go.co.map ic)), .imm (.int .i64 c.go.c)] :: st, none⟩) := by
  by_cases h0 : rfE c pt = 0
  · have f := fz0 _ h0
    have q1 : clErr c = 0 := f _ (List.mem_cons_self)
    have q2 := f (if decide (pt.length ≠ c.sp.length) then 2 else 0) (by simp)
    have q3 : pt.length = c.sp.length := by
      by_cases h : pt.length = c.sp.length
      · exact h
      · simp [h] at q2
    have hg := hc.gv
    have h44 := ok44 n c b pt (clErr_even hc q1) q3 (by omega) hp
    have e1 : rfV c pt = rfB c pt := by rw [rfV, if_pos h0]
    rw [e1]
    simp only [go_sem, Nat.reduceAdd, Nat.reduceSub, Nat.reduceMul, Nat.reduceDiv, Nat.reduceMod, Nat.reduceLeDiff, Nat.reduceLT, Nat.reduceBEq, Int.reduceToNat, Int.reduceLT, Int.reduceLE, Int.reduceEq] at h44
    cases hr : rfB c pt <;> rw [hr] at h44 <;> simp only [go_sem, Nat.reduceAdd, Nat.reduceSub, Nat.reduceMul, Nat.reduceDiv, Nat.reduceMod, Nat.reduceLeDiff, Nat.reduceLT, Nat.reduceBEq, Int.reduceToNat, Int.reduceLT, Int.reduceLE, Int.reduceEq, h0, h44, b00, b11]
  · have e1 : rfV c pt = false := by rw [rfV, if_neg h0]
    rw [e1]
    simp only [go_sem, Nat.reduceAdd, Nat.reduceSub, Nat.reduceMul, Nat.reduceDiv, Nat.reduceMod, Nat.reduceLeDiff, Nat.reduceLT, Nat.reduceBEq, Int.reduceToNat, Int.reduceLT, Int.reduceLE, Int.reduceEq, h0, b00]
@[go_sem high] theorem r6_17n {n : Nat} {c : Cl} {b : Bool}  {v4 v5 v6 v7 : AV} (hc : c.Fit)  :
    aCode (level E (n + 2)) cx (.region [
  ⟨none, none, .mv (.var 13)⟩,
  ⟨none, none, .mv (.var 8)⟩,
  ⟨none, none, .bin .eql (.loc 0) (.loc 1)⟩,
  ⟨none, none, .mv (.loc 2)⟩,
  ⟨none, some (3, true), .mv (.var 12)⟩,
  ⟨none, some (3, true), .mv (.var 8)⟩,
  ⟨none, some (3, true), .bin .eql (.loc 5) (.k (.int .i64 0))⟩,
  ⟨none, some (3, true), .mv (.loc 6)⟩,
  ⟨none, some (7, true), .load true 4 (.var 3)⟩,
  ⟨none, some (7, true), .mv (.var 1)⟩,
  ⟨none, some (7, true), .call .pure (.k (.fn 44 [] [])) [(.loc 8), (.loc 9)]⟩,
  ⟨none, some (3, true), .pick (.loc 7) (.loc 10) (.k (.bool false))⟩,
  ⟨none, some (3, true), .eqs false .bool (.loc 4) (.loc 11)⟩,
  ⟨none, none, .pick (.loc 3) (.loc 12) (.k (.bool false))⟩,
  ⟨(some 2), none, .mv (.loc 13)⟩] none) ⟨[v0, .imm (slD b 1 []), v2, .ptr 0 0, v4, v5, v6, v7, .imm (.int .i64 (rfE c [])), v9, v10, v11, .imm (.bool (rfV c [])), .imm (.int .i64 (rfE c [])), v14, v15, v16, v17, v18, v19, v20, v21, v22],
      .box [.imm (slD c.sn 2 (c.sp.map enS)), .imm (slD c.gn 2 (c.gv.map enL)), .imm (slD c.go.nl 1 (c.go.co.map ic)), .imm (.int .i64 c.go.c)] :: st, none⟩ =
      some (.normal, ⟨[v0, .imm (slD b 1 []), .imm (.bool true), .ptr 0 0, v4, v5, v6, v7, .imm (.int .i64 (rfE c [])), v9, v10, v11, .imm (.bool (rfV c [])), .imm (.int .i64 (rfE c [])), v14, v15, v16, v17, v18, v19, v20, v21, v22],
      .box [.imm (slD c.sn 2 (c.sp.map enS)), .imm (slD c.gn 2 (c.gv.map enL)), .imm (slD c.go.nl 1 (c.go.co.map ic)), .imm (.int .i64 c.go.c)] :: st, none⟩) := r6_17 (pt := []) hc (by simp)
@[go_sem high] theorem r6_17c {n : Nat} {c : Cl} {p0 : Int} {pt : List Int} {v4 v5 v6 v7 : AV} (hc : c.Fit) (hp : (p0 :: pt).length < 1000000000) :
    aCode (level E (n + 2)) cx (.region [
  ⟨none, none, .mv (.var 13)⟩,
  ⟨none, none, .mv (.var 8)⟩,
  ⟨none, none, .bin .eql (.loc 0) (.loc 1)⟩,
  ⟨none, none, .mv (.loc 2)⟩,
  ⟨none, some (3, true), .mv (.var 12)⟩,
  ⟨none, some (3, true), .mv (.var 8)⟩,
  ⟨none, some (3, true), .bin .eql (.loc 5) (.k (.int .i64 0))⟩,
  ⟨none, some (3, true), .mv (.loc 6)⟩,
  ⟨none, some (7, true), .load true 4 (.var 3)⟩,
  ⟨none, some (7, true), .mv (.var 1)⟩,
  ⟨none, some (7, true), .call .pure (.k (.fn 44 [] [])) [(.loc 8), (.loc 9)]⟩,
  ⟨none, some (3, true), .pick (.loc 7) (.loc 10) (.k (.bool false))⟩,
  ⟨none, some (3, true), .eqs false .bool (.loc 4) (.loc 11)⟩,
  ⟨none, none, .pick (.loc 3) (.loc 12) (.k (.bool false))⟩,
  ⟨(some 2), none, .mv (.loc 13)⟩] none) ⟨[v0, .imm (.sl 1 ([.int .i64 p0] :: pt.map ic)), v2, .ptr 0 0, v4, v5, v6, v7, .imm (.int .i64 (rfE c (p0 :: pt))), v9, v10, v11, .imm (.bool (rfV c (p0 :: pt))), .imm (.int .i64 (rfE c (p0 :: pt))), v14, v15, v16, v17, v18, v19, v20, v21, v22],
      .box [.imm (slD c.sn 2 (c.sp.map enS)), .imm (slD c.gn 2 (c.gv.map enL)), .imm (slD c.go.nl 1 (c.go.co.map ic)), .imm (.int .i64 c.go.c)] :: st, none⟩ =
      some (.normal, ⟨[v0, .imm (.sl 1 ([.int .i64 p0] :: pt.map ic)), .imm (.bool true), .ptr 0 0, v4, v5, v6, v7, .imm (.int .i64 (rfE c (p0 :: pt))), v9, v10, v11, .imm (.bool (rfV c (p0 :: pt))), .imm (.int .i64 (rfE c (p0 :: pt))), v14, v15, v16, v17, v18, v19, v20, v21, v22],
      .box [.imm (slD c.sn 2 (c.sp.map enS)), .imm (slD c.gn 2 (c.gv.map enL)), .imm (slD c.go.nl 1 (c.go.co.map ic)), .imm (.int .i64 c.go.c)] :: st, none⟩) := r6_17 (b := false) (pt := p0 :: pt) hc hp
end
end Go.Vm.P12

/- Chapter 12, plain laws: the points of a box, and what is said of them. -/
set_option maxRecDepth 100000
set_option maxHeartbeats 2000000
namespace Go.Vm.P12
open Go Go.Vm
theorem ins_co : ∀ {pt : List Int} {sp : List Sp}, ins pt sp = true → pt.length = sp.length → SpOk sp → CoOk pt
  | [], _, _, _, _, a, ha => by cases ha
  | p :: pt, [], _, h, _, _, _ => by simp at h
  | p :: pt, s :: sp, h, hl, ho, a, ha => by
    obtain ⟨b1, b2, b3⟩ := ins_c h
    obtain ⟨s1, s2, s3⟩ := ho s (List.mem_cons_self)
    rcases List.mem_cons.1 ha with rfl | ha
    · omega
    · exact ins_co b3 (by simpa using hl) (fun y hy => ho y (List.mem_cons_of_mem _ hy)) a ha
def gvs (c : Cl) (x : List Int) : Bool := c.gv.all fun g => decide (0 ≤ V g x)
def rfx (c : Cl) (x : List Int) : Bool := gvs c x && decide (V c.go x < 0)
theorem clErr_ln {c : Cl} (h : clErr c = 0) : ∀ x, x ∈ c.gv ∨ x = c.go → lnErr x c.sp.length = 0 := by
  have h2 : fnz ((c.gv ++ [c.go]).map fun l => lnErr l c.sp.length) = 0 := by
    unfold clErr at h
    by_cases h1 : clE0 c.sp c.gv = 0
    · rw [if_pos h1] at h; exact h
    · rw [if_neg h1] at h; exact absurd h h1
  intro x hx
  exact fz0 _ h2 _ (List.mem_map_of_mem (by rcases hx with h | h <;> simp [h]))
theorem val_V {c : Cl} (G : Good c) (h : clErr c = 0) {x : List Int} (hl : x.length = c.sp.length) (hco : CoOk x) {g : Ln} (hg : g ∈ c.gv ∨ g = c.go) : value (lnc g) x = .tup [.int .i64 (V g x), .int .i64 0] := by
  have h1 := clErr_ln h g hg
  have n6 := G.n6
  have hok : LnOk g := by
    rcases hg with hg | rfl
    · exact G.gv g hg
    · exact G.go
  have hgl : g.co.length = c.sp.length := by
    rcases hg with hg | rfl
    · exact G.ev.gv g hg
    · exact G.ev.go
  have hE : vlE (lnc g) x = 0 := by
    have e1 : lnErr (lnc g) x.length = 0 := by rw [hl]; exact h1
    have e2 : ptB x = false := any_t hco
    have e3 : ¬ (6 : Int) < x.length := by omega
    unfold vlE
    rw [e1, e2]
    simp [fnz, e3]
  have hv : vl g.co x g.c = V g x := vl_V hok hco (by omega)
  have hv' : vl (lnc g).co x (lnc g).c = V g x := hv
  unfold value
  rw [if_pos hE, hv']
theorem ref_cpy {c : Cl} {pt : List Int} (h : Ref (cpy c) pt) : Ref c pt := by
  obtain ⟨h1, h2, h3, h4⟩ := h
  refine ⟨h1, h2, fun g hg => ?_, h4⟩
  exact h3 (lnc g) (List.mem_map_of_mem hg)
theorem dec_three {c : Cl} (hf : c.Fit) (h : clErr c = 0) (h13 : c.gv.length ≤ 13) (h8 : c.sp.length ≤ 8) {t : Nat} (h1 : 1 ≤ t) (ht : t ≤ 400) :
    (∃ p : List Int, dcD (cpy c) t = .tup [.agg [.nil], slD true 1 (p.map ic), .bool false, .int .i64 30]) ∨
    (∃ st : List Stp, dcD (cpy c) t = .tup [.agg [slD false 9 (st.map enT)], .nil, .bool true, .int .i64 0] ∧ chk (cpy c) st = .tup [.int .i64 0, .int .i64 0] ∧ (∀ s ∈ st, s.Fits) ∧ st.length ≤ 400 ∧
      ∀ x : List Int, x.length = c.sp.length → ins x c.sp = true → rfx c x = false) ∨
    (∃ pt : List Int, dcD (cpy c) t = .tup [.agg [.nil], slD true 1 (pt.map ic), .bool false, .int .i64 0] ∧ Ref c pt) := by
  have hf' := cpy_fit hf
  have hc' : clErr (cpy c) = 0 := by rw [cpy_err]; exact h
  have G' := clErr_good hf' hc'
  have hE : decE (cpy c) (t : Int) = 0 := by
    unfold decE
    have : offB (t : Int) 1 400 = false := by simp only [offB, Bool.or_eq_false_iff, decide_eq_false_iff_not]; omega
    rw [hc', this]; rfl
  have hd : dcD (cpy c) (t : Int) = if (dec t t (cpy c) []).ok then .tup [.agg [slD false 9 ((dec t t (cpy c) []).st.map enT)], .nil, .bool true, .int .i64 0] else .tup [.agg [.nil], slD true 1 ((dec t t (cpy c) []).pt.map ic), .bool false, .int .i64 (dec t t (cpy c) []).e] := by
    unfold dcD
    rw [if_pos hE, Int.toNat_natCast]
  rw [hd]
  by_cases hok : (dec t t (cpy c) []).ok = true
  · right; left
    obtain ⟨e0, hne, hlen, hchk⟩ := made_ok hf' hc' ht hok
    have hsm := dec_small t t (cpy c) [] G'.ev
    refine ⟨(dec t t (cpy c) []).st, by rw [if_pos hok], hchk, fun s hs => ?_, hlen, fun x hl hi => ?_⟩
    · rcases hsm s hs with h | h
      · cases h
      · have a1 := h.1
        have a2 := h.2.1
        have a3 := h.2.2
        have : (cpy c).gv.length = c.gv.length := by simp [cpy]
        have : (cpy c).sp.length = c.sp.length := rfl
        exact ⟨by omega, by omega, by omega⟩
    · have hcf : cform (cpy c) (dec t t (cpy c) []).st = 0 := by
        unfold chk at hchk
        by_cases h0 : cform (cpy c) (dec t t (cpy c) []).st = 0
        · exact h0
        · rw [if_neg h0] at hchk
          simp only [D.tup.injEq, List.cons.injEq, D.int.injEq] at hchk
          exact absurd hchk.2.1.2 h0
      have hck : (chkR (cpy c) (dec t t (cpy c) []).st).2 = 0 := by
        unfold chk at hchk
        rw [if_pos hcf] at hchk
        by_cases h0 : (chkR (cpy c) (dec t t (cpy c) []).st).2 = 0
        · exact h0
        · rw [if_neg h0] at hchk
          simp only [D.tup.injEq, List.cons.injEq, D.int.injEq] at hchk
          exact absurd hchk.2.1.2 h0
      cases hr : rfx c x
      · rfl
      · unfold rfx gvs at hr
        rw [Bool.and_eq_true, decide_eq_true_eq, List.all_eq_true] at hr
        have := right_sound hf' hcf hck (pt := x) hl hi (fun g hg => by
          obtain ⟨y, hy, rfl⟩ := List.mem_map.1 hg
          exact of_decide_eq_true (hr.1 y hy))
        have e : V (cpy c).go x = V c.go x := rfl
        rw [e] at this
        omega
  · obtain ⟨d1, d2⟩ := dec_no t t (cpy c) [] G' (by simpa using hok)
    rcases d1 with d1 | d1
    · right; right
      exact ⟨_, by rw [if_neg hok, d1], ref_cpy (d2 d1)⟩
    · left
      exact ⟨_, by rw [if_neg hok, d1]⟩
end Go.Vm.P12

/- Chapter 12, the laws: ProveEnds, narrower spans. -/
set_option maxRecDepth 100000
set_option maxHeartbeats 4000000
namespace Go.Vm.P12
open Go Go.Vm
def ui (a : Int) : D := .int .u8 a
attribute [go_sem] ui
def wk1 (s : Sp) (a : Int) : Sp := ⟨min (s.lo + a.tmod 3) s.hi, s.hi⟩
theorem tmod3 {a : Int} (h : 0 ≤ a) : 0 ≤ a.tmod 3 ∧ a.tmod 3 < 3 := by
  rw [Int.tmod_eq_emod_of_nonneg h]
  omega
theorem renL_imm (f : Nat → Option Nat) : ∀ l : List D, renL f (l.map .imm) = l.map .imm
  | [] => rfl
  | x :: l => by
    have IH := renL_imm f l
    simp only [List.map_cons, renL, ren, IH]
theorem dv0 (i : Nat) : i * 2 / 2 = i := by omega
theorem dv1 (i : Nat) : (i * 2 + 1) / 2 = i := by omega
theorem md0 (i : Nat) : i * 2 % 2 = 0 := by omega
theorem md1 (i : Nat) : (i * 2 + 1) % 2 = 1 := by omega
theorem l7_1 {lo : Lower} {at0 : List Int} {gv : List Ln} {go : D} {k : Int} {N : Nat} (hN : N < 1000000000) (h6 : at0.length = 6) (hN6 : N ≤ 6) (ha : ∀ a ∈ at0, 0 ≤ a ∧ a ≤ 255) : ∀ (r A : List Sp) (q : List Int) (i : Nat), A.length = i → i + r.length = N → at0.drop i = q → SpOk r →
    outC ⟨0, false⟩ [0, 0, 0, 0, 0, 0, 0, 0, 0, 0, 0, 0, 0, 0, 0, 0, 0, 0, 0, 0, 0, 0, 0, 0, 0, 1, 0, 0, 0, 0, 0, 0, 0, 0, 0, 0, 0, 0, 0, 0, 0, 0, 0, 0]
      (rnd (aCode lo ⟨0, false⟩ b7_1) (head ⟨0, false⟩ [0, 0, 0, 0, 0, 1, 0, 0, 0, 0, 0, 0, 0, 0, 0, 0, 0, 0, 0, 0, 0, 0, 0, 0, 0, 1, 0, 0, 0, 0, 0, 0, 0, 0, 0, 0, 0, 0, 0, 0, 1, 1, 0, 0])
      ⟨[.junk, .junk, .junk, .junk, .junk, .ptr 0 0, .junk, .junk, .junk, .junk, .junk, .junk, .junk, .junk, .junk, .junk, .junk, .junk, .junk, .junk, .junk, .junk, .junk, .junk, .junk, .ptr 1 0, .junk, .junk, .junk, .junk, .junk, .junk, .junk, .junk, .junk, .junk, .junk, .junk, .junk, .junk, .imm (.int .i64 N), .imm (.int .i64 i), .junk, .junk],
       [.box ((at0.map ui).map .imm), .box [.ref 2 2 0 N, vK 3 2 (gv.map enL), .imm go, .imm (.int .i64 k)], .arr 2 (A.map enS ++ r.map enS)] ++ oK 2 (gv.map enL), none⟩) =
      some (.exit 2, ⟨[.junk, .junk, .junk, .junk, .junk, .junk, .junk, .junk, .junk, .junk, .junk, .junk, .junk, .junk, .junk, .junk, .junk, .junk, .junk, .junk, .junk, .junk, .junk, .junk, .junk, .ptr 0 0, .junk, .junk, .junk, .junk, .junk, .junk, .junk, .junk, .junk, .junk, .junk, .junk, .junk, .junk, .junk, .junk, .junk, .junk],
       [.box [.ref 1 2 0 N, vK 2 2 (gv.map enL), .imm go, .imm (.int .i64 k)], .arr 2 (A.map enS ++ (List.zipWith wk1 r q).map enS)] ++ oK 2 (gv.map enL), none⟩)
  | [], A, q, i, hA, hr, hq, ho => by
    have e : ¬ (i : Int) < (N : Int) := by simp at hr; omega
    rw [rnd_eq]
    cases gv <;> simp only [go_sem, Nat.reduceAdd, Nat.reduceSub, Nat.reduceMul, Nat.reduceDiv, Nat.reduceMod, Nat.reduceLeDiff, Nat.reduceLT, Nat.reduceBEq, Int.reduceToNat, Int.reduceLT, Int.reduceLE, Int.reduceEq, vK, oK, e, List.zipWith_nil_left]
  | s :: r, A, [], i, hA, hr, hq, ho => by
    have := congrArg List.length hq
    simp at this hr
    omega
  | s :: r, A, a :: q, i, hA, hr, hq, ho => by
    obtain ⟨a1, a2, a3⟩ := drop_c hq
    obtain ⟨s1, s2, s3⟩ := ho s (List.mem_cons_self)
    obtain ⟨b1, b2⟩ := ha a (List.mem_of_getElem? a1)
    obtain ⟨t1, t2⟩ := tmod3 b1
    simp only [List.length_cons] at hr
    have e : (i : Int) < (N : Int) := by omega
    have e6 : (i : Int) < ((6 : Nat) : Int) := by omega
    have hw := wrpS (i := i) (by omega)
    have ha1 : wrp .i64 a = a := wrp_ok (by omega)
    have ha2 : wrp .i64 (s.lo + a.tmod 3) = s.lo + a.tmod 3 := wrp_ok (by omega)
    have hg : (A.map enS ++ enS s :: r.map enS)[i]? = some (enS s) := getA (by simpa using hA)
    have hs : ∀ v, (A.map enS ++ enS s :: r.map enS).set i v = A.map enS ++ v :: r.map enS := fun v => setA (by simpa using hA)
    have IH := l7_1 (lo := lo) (at0 := at0) (gv := gv) (go := go) (k := k) (N := N) hN h6 hN6 ha r (A ++ [wk1 s a]) q (i + 1) (by simp [hA]) (by omega) a3 (fun y hy => ho y (List.mem_cons_of_mem _ hy))
    have nz3 : (3 : Int) ≠ 0 := by decide
    rw [rnd_eq]
    simp only [List.zipWith_cons_cons]
    cases gv <;>
      simp only [go_sem, Nat.reduceAdd, Nat.reduceSub, Nat.reduceMul, Nat.reduceDiv, Nat.reduceMod, Nat.reduceLeDiff, Nat.reduceLT, Nat.reduceBEq, Int.reduceToNat, Int.reduceLT, Int.reduceLE, Int.reduceEq, vK, oK, List.append_assoc, wk1] at IH hg hs <;>
      simp only [go_sem, Nat.reduceAdd, Nat.reduceSub, Nat.reduceMul, Nat.reduceDiv, Nat.reduceMod, Nat.reduceLeDiff, Nat.reduceLT, Nat.reduceBEq, Int.reduceToNat, Int.reduceLT, Int.reduceLE, Int.reduceEq, vK, oK, e, e6, hw, ha1, ha2, hg, hs, a1, dv0, dv1, md0, md1, Int.natCast_nonneg, nz3, ne_eq, not_false_eq_true, wk1, Nat.mul_one, renL_imm] <;>
      exact IH
end Go.Vm.P12

/- Chapter 12, the laws: ProveEnds, the points at the ends. -/
set_option maxRecDepth 100000
set_option maxHeartbeats 8000000
namespace Go.Vm.P12
open Go Go.Vm
def pP : List Sp → List Int → List Int
  | s :: r, a :: q => (s.lo + a.tmod (s.hi - s.lo + 1)) :: pP r q
  | _, _ => []
def pL : List Sp → List Int → List Int
  | s :: r, x :: q => (if x < 0 then s.hi else s.lo) :: pL r q
  | _, _ => []
def pG : List Sp → List Int → List Int
  | s :: r, x :: q => (if x < 0 then s.lo else s.hi) :: pG r q
  | _, _ => []
theorem tmodW {a w : Int} (h : 0 ≤ a) (hw : 0 < w) : 0 ≤ a.tmod w ∧ a.tmod w < w := by
  rw [Int.tmod_eq_emod_of_nonneg h]
  exact ⟨Int.emod_nonneg _ (by omega), Int.emod_lt_of_pos _ hw⟩
theorem l7_0 {lo : Lower} {c : Cl} {at0 : List Int} {m k6 k7 k8 k9 : Int} (hc6 : c.sp.length ≤ 6) (hco : c.go.co.length = c.sp.length) (h6 : at0.length = 6) (ha : ∀ a ∈ at0, 0 ≤ a ∧ a ≤ 255) (ho : SpOk c.sp) : ∀ (r : List Sp) (q co P L G : List Int) (i : Nat), c.sp.drop i = r → at0.drop i = q → c.go.co.drop i = co → P.length = i → L.length = i → G.length = i →
    outC ⟨0, false⟩ [0, 0, 1, 0, 1, 1, 1, 1, 1, 1, 1, 1, 1, 0, 0, 0, 0, 0, 0, 0, 0, 0, 0, 0, 0, 0, 0, 0, 0, 0, 0, 0, 0, 0, 0, 0, 0, 0, 0, 0, 0, 0, 0, 0]
      (rnd (aCode lo ⟨0, false⟩ b7_0) (head ⟨0, false⟩ [0, 0, 1, 0, 1, 1, 1, 1, 1, 1, 1, 1, 1, 0, 0, 0, 0, 0, 0, 0, 0, 0, 0, 0, 0, 0, 0, 0, 0, 0, 0, 0, 0, 1, 1, 1, 0, 0, 0, 0, 0, 0, 0, 0])
      ⟨[.junk, .junk, .imm (.int .u16 m), .junk, .ptr 0 0, .ptr 1 0, .imm (.int .i64 k6), .imm (.int .i64 k7), .imm (.int .i64 k8), .imm (.int .i64 k9), vK 2 1 (P.map ic), vK 3 1 (L.map ic), vK 4 1 (G.map ic), .junk, .junk, .junk, .junk, .junk, .junk, .junk, .junk, .junk, .junk, .junk, .junk, .junk, .junk, .junk, .junk, .junk, .junk, .junk, .junk, .imm (slD c.sn 2 (c.sp.map enS)), .imm (.int .i64 c.sp.length), .imm (.int .i64 i), .junk, .junk, .junk, .junk, .junk, .junk, .junk, .junk],
       [.box ((enC c).map .imm), .box ((at0.map ui).map .imm)] ++ oK 1 (P.map ic) ++ oK 1 (L.map ic) ++ oK 1 (G.map ic), none⟩) =
      some (.exit 0, ⟨[.junk, .junk, .imm (.int .u16 m), .junk, .ptr 0 0, .ptr 1 0, .imm (.int .i64 k6), .imm (.int .i64 k7), .imm (.int .i64 k8), .imm (.int .i64 k9), vK 2 1 ((P ++ pP r q).map ic), vK 3 1 ((L ++ pL r co).map ic), vK 4 1 ((G ++ pG r co).map ic), .junk, .junk, .junk, .junk, .junk, .junk, .junk, .junk, .junk, .junk, .junk, .junk, .junk, .junk, .junk, .junk, .junk, .junk, .junk, .junk, .junk, .junk, .junk, .junk, .junk, .junk, .junk, .junk, .junk, .junk, .junk],
       [.box ((enC c).map .imm), .box ((at0.map ui).map .imm)] ++ oK 1 ((P ++ pP r q).map ic) ++ oK 1 ((L ++ pL r co).map ic) ++ oK 1 ((G ++ pG r co).map ic), none⟩)
  | [], q, co, P, L, G, i, hr, hq, hx, hP, hL, hG => by
    have e := lt_f (drop_n hr)
    rw [rnd_eq]
    rcases P with _ | ⟨p0, P⟩
    · simp only [List.length_nil] at hP
      have eL : L = [] := List.length_eq_zero_iff.1 (hL.trans hP.symm)
      have eG : G = [] := List.length_eq_zero_iff.1 (hG.trans hP.symm)
      subst eL eG
      simp only [go_sem, Nat.reduceAdd, Nat.reduceSub, Nat.reduceMul, Nat.reduceDiv, Nat.reduceMod, Nat.reduceLeDiff, Nat.reduceLT, Nat.reduceBEq, Int.reduceToNat, Int.reduceLT, Int.reduceLE, Int.reduceEq, vK, oK, e, pP, pL, pG, renL_imm]
    · rcases L with _ | ⟨l0, L⟩
      · simp at hL hP; omega
      · rcases G with _ | ⟨g0, G⟩
        · simp at hG hP; omega
        · simp only [go_sem, Nat.reduceAdd, Nat.reduceSub, Nat.reduceMul, Nat.reduceDiv, Nat.reduceMod, Nat.reduceLeDiff, Nat.reduceLT, Nat.reduceBEq, Int.reduceToNat, Int.reduceLT, Int.reduceLE, Int.reduceEq, vK, oK, e, pP, pL, pG, renL_imm]
  | s :: r, [], co, P, L, G, i, hr, hq, hx, hP, hL, hG => by
    obtain ⟨_, h2, _⟩ := drop_c hr
    have := congrArg List.length hq
    simp at this
    omega
  | s :: r, a :: q, [], P, L, G, i, hr, hq, hx, hP, hL, hG => by
    obtain ⟨_, h2, _⟩ := drop_c hr
    have := drop_n hx
    omega
  | s :: r, a :: q, x :: co, P, L, G, i, hr, hq, hx, hP, hL, hG => by
    obtain ⟨h1, h2, h3⟩ := drop_c hr
    obtain ⟨a1, a2, a3⟩ := drop_c hq
    obtain ⟨x1, x2, x3⟩ := drop_c hx
    obtain ⟨s1, s2, s3⟩ := ho s (List.mem_of_getElem? h1)
    obtain ⟨b1, b2⟩ := ha a (List.mem_of_getElem? a1)
    obtain ⟨t1, t2⟩ := tmodW (w := s.hi - s.lo + 1) b1 (by omega)
    have e6 : (i : Int) < ((6 : Nat) : Int) := by omega
    have hw := wrpS (i := i) (by omega)
    have ha1 : wrp .i64 a = a := wrp_ok (by omega)
    have w1 : wrp .i64 (s.hi - s.lo) = s.hi - s.lo := wrp_ok (by omega)
    have w2 : wrp .i64 (s.hi - s.lo + 1) = s.hi - s.lo + 1 := wrp_ok (by omega)
    have w3 : wrp .i64 (s.lo + a.tmod (s.hi - s.lo + 1)) = s.lo + a.tmod (s.hi - s.lo + 1) := wrp_ok (by omega)
    have nz : s.hi - s.lo + 1 ≠ 0 := by omega
    have IH := l7_0 (lo := lo) (c := c) (at0 := at0) (m := m) (k6 := k6) (k7 := k7) (k8 := k8) (k9 := k9) hc6 hco h6 ha ho r q co (P ++ [s.lo + a.tmod (s.hi - s.lo + 1)]) (L ++ [if x < 0 then s.hi else s.lo]) (G ++ [if x < 0 then s.lo else s.hi]) (i + 1) h3 a3 x3 (by simp [hP]) (by simp [hL]) (by simp [hG])
    rw [rnd_eq]
    simp only [pP, pL, pG]
    rcases P with _ | ⟨p0, P⟩
    · simp only [List.length_nil] at hP
      have eL : L = [] := List.length_eq_zero_iff.1 (hL.trans hP.symm)
      have eG : G = [] := List.length_eq_zero_iff.1 (hG.trans hP.symm)
      subst eL eG
      by_cases h0 : x < 0 <;>
        simp only [go_sem, Nat.reduceAdd, Nat.reduceSub, Nat.reduceMul, Nat.reduceDiv, Nat.reduceMod, Nat.reduceLeDiff, Nat.reduceLT, Nat.reduceBEq, Int.reduceToNat, Int.reduceLT, Int.reduceLE, Int.reduceEq, vK, oK, h0] at IH <;>
        simp only [go_sem, Nat.reduceAdd, Nat.reduceSub, Nat.reduceMul, Nat.reduceDiv, Nat.reduceMod, Nat.reduceLeDiff, Nat.reduceLT, Nat.reduceBEq, Int.reduceToNat, Int.reduceLT, Int.reduceLE, Int.reduceEq, vK, oK, lt_t h2, h1, a1, x1, e6, hw, ha1, w1, w2, w3, nz, h0, ne_eq, not_false_eq_true, Nat.mul_one, renL_imm, Int.natCast_nonneg] <;>
        exact IH
    · rcases L with _ | ⟨l0, L⟩
      · simp at hL hP; omega
      · rcases G with _ | ⟨g0, G⟩
        · simp at hG hP; omega
        · simp only [List.length_cons] at hP hL hG
          have z1 : (P.length + 1 + 1) * 9 ≤ 70368744177664 := by omega
          have z2 : (L.length + 1 + 1) * 9 ≤ 70368744177664 := by omega
          have z3 : (G.length + 1 + 1) * 9 ≤ 70368744177664 := by omega
          by_cases h0 : x < 0 <;>
            simp only [go_sem, Nat.reduceAdd, Nat.reduceSub, Nat.reduceMul, Nat.reduceDiv, Nat.reduceMod, Nat.reduceLeDiff, Nat.reduceLT, Nat.reduceBEq, Int.reduceToNat, Int.reduceLT, Int.reduceLE, Int.reduceEq, vK, oK, h0, List.append_assoc] at IH <;>
            simp only [go_sem, Nat.reduceAdd, Nat.reduceSub, Nat.reduceMul, Nat.reduceDiv, Nat.reduceMod, Nat.reduceLeDiff, Nat.reduceLT, Nat.reduceBEq, Int.reduceToNat, Int.reduceLT, Int.reduceLE, Int.reduceEq, vK, oK, lt_t h2, h1, a1, x1, e6, hw, ha1, w1, w2, w3, nz, h0, ne_eq, not_false_eq_true, Nat.mul_one, renL_imm, Int.natCast_nonneg, z1, z2, z3] <;>
            exact IH
end Go.Vm.P12

/- Chapter 12, plain laws: the ends of a line's values; a weaker claim. -/
set_option maxRecDepth 100000
set_option maxHeartbeats 2000000
namespace Go.Vm.P12
open Go Go.Vm
def exS (g : Bool) : List Int → List Sp → Int
  | x :: r, s :: t => x * (if decide (0 < x) = g then s.hi else s.lo) + exS g r t
  | _, _ => 0
theorem exs_ok (g : Bool) : ∀ (co : List Int) (sp : List Sp) (a K : Int), CoOk co → SpOk sp → -K ≤ a → a ≤ K → K + co.length * 1099511627776 ≤ 4611686018427387904 → exs g co sp a = a + exS g co sp
  | [], sp, a, K, _, _, _, _, _ => by simp [exs, exS]
  | x :: co, [], a, K, _, _, _, _, _ => by simp [exs, exS]
  | x :: co, s :: sp, a, K, h1, h2, h3, h4, h5 => by
    have hx := h1 x (List.mem_cons_self)
    obtain ⟨s1, s2, s3⟩ := h2 s (List.mem_cons_self)
    obtain ⟨e, he, e1, e2⟩ : ∃ e, (if decide (0 < x) = g then s.hi else s.lo) = e ∧ -1048576 ≤ e ∧ e ≤ 1048576 := by
      split
      · exact ⟨_, rfl, by omega, by omega⟩
      · exact ⟨_, rfl, by omega, by omega⟩
    have hm := mul_rng hx.1 hx.2 e1 e2
    simp only [List.length_cons] at h5
    have ea : ad a (x * e) = a + x * e := by unfold ad; exact wrp_ok (by omega)
    have IH := exs_ok g co sp (a + x * e) (K + 1099511627776) (fun y hy => h1 y (List.mem_cons_of_mem _ hy)) (fun y hy => h2 y (List.mem_cons_of_mem _ hy)) (by omega) (by omega) (by omega)
    simp only [exs, exS, he, ml_ok hx ⟨e1, e2⟩, ea, IH]
    omega
theorem exS_L : ∀ (co : List Int) (sp : List Sp), exS false co sp = dot co (pL sp co)
  | [], sp => by simp [exS, dot]
  | x :: co, [] => by simp [exS, dot, pL]
  | x :: co, s :: sp => by
    simp only [exS, pL, dot, exS_L co sp]
    by_cases h1 : 0 < x
    · have h2 : ¬ x < 0 := by omega
      simp [h1, h2]
    · by_cases h2 : x < 0
      · simp [h1, h2]
      · have : x = 0 := by omega
        simp [this]
theorem exS_G : ∀ (co : List Int) (sp : List Sp), exS true co sp = dot co (pG sp co)
  | [], sp => by simp [exS, dot]
  | x :: co, [] => by simp [exS, dot, pG]
  | x :: co, s :: sp => by
    simp only [exS, pG, dot, exS_G co sp]
    by_cases h1 : 0 < x
    · have h2 : ¬ x < 0 := by omega
      simp [h1, h2]
    · by_cases h2 : x < 0
      · simp [h1, h2]
      · have : x = 0 := by omega
        simp [this]
theorem exS_bd : ∀ (co : List Int) (sp : List Sp) (pt : List Int), co.length = sp.length → pt.length = sp.length → ins pt sp = true → exS false co sp ≤ dot co pt ∧ dot co pt ≤ exS true co sp
  | [], sp, pt, _, _, _ => by simp [exS, dot]
  | x :: co, [], pt, h, _, _ => by simp at h
  | x :: co, s :: sp, [], _, h, _ => by simp at h
  | x :: co, s :: sp, p :: pt, h1, h2, h3 => by
    obtain ⟨b1, b2, b3⟩ := ins_c h3
    obtain ⟨i1, i2⟩ := exS_bd co sp pt (by simpa using h1) (by simpa using h2) b3
    simp only [exS, dot]
    by_cases h0 : 0 < x
    · have m1 : 0 ≤ x * (p - s.lo) := Int.mul_nonneg (by omega) (by omega)
      have m2 : 0 ≤ x * (s.hi - p) := Int.mul_nonneg (by omega) (by omega)
      simp only [Int.mul_sub] at m1 m2
      simp only [h0, decide_true, Bool.true_eq_false, if_false, if_true]
      omega
    · have m1 : 0 ≤ (-x) * (p - s.lo) := Int.mul_nonneg (by omega) (by omega)
      have m2 : 0 ≤ (-x) * (s.hi - p) := Int.mul_nonneg (by omega) (by omega)
      simp only [Int.mul_sub, Int.neg_mul] at m1 m2
      simp only [h0, decide_false, Bool.false_eq_true, if_false, if_true]
      omega
theorem bx_ok {c : Cl} (h : clErr c = 0) (G : Good c) : bxErr c.go c.sp = 0 := by
  have h1 := clErr_ln h c.go (.inr rfl)
  have h2 : spErr c.sp = 0 := by
    have : clE0 c.sp c.gv = 0 := by
      unfold clErr at h
      by_cases h1 : clE0 c.sp c.gv = 0
      · exact h1
      · rw [if_neg h1] at h; exact absurd h h1
    exact fz0 _ this _ (by simp)
  unfold bxErr
  rw [h1, h2]; rfl
theorem ends_V {c : Cl} (h : clErr c = 0) (G : Good c) (g : Bool) : lsV g c.go c.sp = c.go.c + exS g c.go.co c.sp := by
  have n6 := G.n6
  have := G.ev.go
  unfold lsV
  rw [if_pos (bx_ok h G)]
  exact exs_ok g c.go.co c.sp c.go.c 1099511627776 G.go.1 G.sp G.go.2.1 G.go.2.2 (by omega)
theorem pP_box : ∀ (sp : List Sp) (q : List Int), sp.length ≤ q.length → SpOk sp → (∀ a ∈ q, 0 ≤ a) → (pP sp q).length = sp.length ∧ ins (pP sp q) sp = true
  | [], q, _, _, _ => by simp [pP, ins]
  | s :: sp, [], h, _, _ => by simp at h
  | s :: sp, a :: q, h, ho, ha => by
    obtain ⟨s1, s2, s3⟩ := ho s (List.mem_cons_self)
    obtain ⟨t1, t2⟩ := tmodW (w := s.hi - s.lo + 1) (ha a (List.mem_cons_self)) (by omega)
    obtain ⟨i1, i2⟩ := pP_box sp q (by simpa using h) (fun y hy => ho y (List.mem_cons_of_mem _ hy)) (fun y hy => ha y (List.mem_cons_of_mem _ hy))
    have e : offB (s.lo + a.tmod (s.hi - s.lo + 1)) s.lo s.hi = false := by
      simp only [offB, Bool.or_eq_false_iff, decide_eq_false_iff_not]; omega
    simp only [pP, ins, e, i2, List.length_cons, i1]; simp
theorem pL_box : ∀ (sp : List Sp) (q : List Int), sp.length = q.length → SpOk sp → (pL sp q).length = sp.length ∧ ins (pL sp q) sp = true
  | [], q, _, _ => by simp [pL, ins]
  | s :: sp, [], h, _ => by simp at h
  | s :: sp, x :: q, h, ho => by
    obtain ⟨s1, s2, s3⟩ := ho s (List.mem_cons_self)
    obtain ⟨i1, i2⟩ := pL_box sp q (by simpa using h) (fun y hy => ho y (List.mem_cons_of_mem _ hy))
    have e : offB (if x < 0 then s.hi else s.lo) s.lo s.hi = false := by
      simp only [offB, Bool.or_eq_false_iff, decide_eq_false_iff_not]; split <;> omega
    simp only [pL, ins, e, i2, List.length_cons, i1]; simp
theorem pG_box : ∀ (sp : List Sp) (q : List Int), sp.length = q.length → SpOk sp → (pG sp q).length = sp.length ∧ ins (pG sp q) sp = true
  | [], q, _, _ => by simp [pG, ins]
  | s :: sp, [], h, _ => by simp at h
  | s :: sp, x :: q, h, ho => by
    obtain ⟨s1, s2, s3⟩ := ho s (List.mem_cons_self)
    obtain ⟨i1, i2⟩ := pG_box sp q (by simpa using h) (fun y hy => ho y (List.mem_cons_of_mem _ hy))
    have e : offB (if x < 0 then s.lo else s.hi) s.lo s.hi = false := by
      simp only [offB, Bool.or_eq_false_iff, decide_eq_false_iff_not]; split <;> omega
    simp only [pG, ins, e, i2, List.length_cons, i1]; simp
def weakC (c : Cl) (at0 : List Int) (m : Int) : Cl := ⟨false, List.zipWith wk1 c.sp at0, true, c.gv.map lnc, ⟨false, c.go.co, min (c.go.c + m) 1099511627776⟩⟩
theorem fnz_all : ∀ l : List Int, (∀ x ∈ l, x = 0) → fnz l = 0
  | [], _ => rfl
  | x :: l, h => by
    rw [fnz_cons, if_pos (h x (List.mem_cons_self))]
    exact fnz_all l (fun y hy => h y (List.mem_cons_of_mem _ hy))
theorem spErr_z {l : List Sp} (h : SpOk l) (h6 : l.length ≤ 6) : spErr l = 0 := by
  unfold spErr
  rw [if_neg (by omega)]
  apply fnz_all
  intro x hx
  obtain ⟨s, hs, rfl⟩ := List.mem_map.1 hx
  obtain ⟨s1, s2, s3⟩ := h s hs
  have a1 : offB s.lo (-1048576) 1048576 = false := by simp only [offB, Bool.or_eq_false_iff, decide_eq_false_iff_not]; omega
  have a2 : offB s.hi (-1048576) 1048576 = false := by simp only [offB, Bool.or_eq_false_iff, decide_eq_false_iff_not]; omega
  have a3 : ¬ s.hi < s.lo := by omega
  unfold spErr1
  rw [a1, a2]
  simp [fnz, a3]
theorem zip_wk : ∀ (sp : List Sp) (q : List Int), SpOk sp → (∀ a ∈ q, 0 ≤ a) → SpOk (List.zipWith wk1 sp q)
  | [], q, _, _ => by intro s hs; simp at hs
  | s :: sp, [], _, _ => by intro t ht; simp at ht
  | s :: sp, a :: q, ho, ha => by
    obtain ⟨s1, s2, s3⟩ := ho s (List.mem_cons_self)
    obtain ⟨t1, t2⟩ := tmod3 (ha a (List.mem_cons_self))
    have IH := zip_wk sp q (fun y hy => ho y (List.mem_cons_of_mem _ hy)) (fun y hy => ha y (List.mem_cons_of_mem _ hy))
    intro t ht
    rw [List.zipWith_cons_cons] at ht
    rcases List.mem_cons.1 ht with rfl | ht
    · simp only [wk1]; omega
    · exact IH t ht
theorem ins_wk : ∀ (pt : List Int) (sp : List Sp) (q : List Int), sp.length ≤ q.length → (∀ a ∈ q, 0 ≤ a) → ins pt (List.zipWith wk1 sp q) = true → SpOk sp → ins pt sp = true
  | [], sp, q, _, _, _, _ => by simp [ins]
  | p :: pt, [], q, _, _, _, _ => by simp [ins]
  | p :: pt, s :: sp, [], h, _, _, _ => by simp at h
  | p :: pt, s :: sp, a :: q, h, ha, hi, ho => by
    obtain ⟨s1, s2, s3⟩ := ho s (List.mem_cons_self)
    obtain ⟨t1, t2⟩ := tmod3 (ha a (List.mem_cons_self))
    rw [List.zipWith_cons_cons] at hi
    obtain ⟨b1, b2, b3⟩ := ins_c hi
    simp only [wk1] at b1 b2
    have e : offB p s.lo s.hi = false := by simp only [offB, Bool.or_eq_false_iff, decide_eq_false_iff_not]; omega
    simp only [ins, e, ins_wk pt sp q (by simpa using h) (fun y hy => ha y (List.mem_cons_of_mem _ hy)) b3 (fun y hy => ho y (List.mem_cons_of_mem _ hy))]; rfl
theorem weak_fit {c : Cl} (hf : c.Fit) (at0 : List Int) (m : Int) : (weakC c at0 m).Fit := by
  refine ⟨?_, by simpa [weakC] using hf.gv, ?_, hf.go⟩
  · have := hf.sp
    simp only [weakC, List.length_zipWith]; omega
  · intro x hx
    simp only [weakC, List.mem_map] at hx
    obtain ⟨y, hy, rfl⟩ := hx
    exact hf.ln y hy
theorem weak_len {c : Cl} (G : Good c) {at0 : List Int} (h6 : at0.length = 6) (m : Int) : (weakC c at0 m).sp.length = c.sp.length := by
  have := G.n6
  simp only [weakC, List.length_zipWith]; omega
theorem weak_err {c : Cl} (hf : c.Fit) (h : clErr c = 0) {at0 : List Int} (h6 : at0.length = 6) (ha : ∀ a ∈ at0, 0 ≤ a) {m : Int} (hm : 0 ≤ m) : clErr (weakC c at0 m) = 0 := by
  have G := clErr_good hf h
  have hl := weak_len G h6 m
  have n6 := G.n6
  have n12 := G.n12
  have e0 : clE0 (weakC c at0 m).sp (weakC c at0 m).gv = 0 := by
    have a1 : spErr (weakC c at0 m).sp = 0 := spErr_z (zip_wk _ _ G.sp ha) (by omega)
    have a2 : ¬ (12 : Int) < ((weakC c at0 m).gv.length : Nat) := by simp only [weakC, List.length_map]; omega
    unfold clE0
    rw [a1]
    simp [fnz, a2]
  unfold clErr
  rw [if_pos e0]
  apply fnz_all
  intro x hx
  obtain ⟨y, hy, rfl⟩ := List.mem_map.1 hx
  rw [hl]
  rcases List.mem_append.1 hy with hy | hy
  · simp only [weakC, List.mem_map] at hy
    obtain ⟨z, hz, rfl⟩ := hy
    exact clErr_ln h z (.inl hz)
  · simp only [List.mem_singleton] at hy
    subst hy
    have hgo := clErr_ln h c.go (.inr rfl)
    have g1 := G.go
    have g2 : (weakC c at0 m).go.co.any (fun c => offB c (-1048576) 1048576) = false := any_t g1.1
    have g3 : offB (weakC c at0 m).go.c (-1099511627776) 1099511627776 = false := by
      have := g1.2
      rw [show (weakC c at0 m).go.c = min (c.go.c + m) 1099511627776 from rfl]
      simp only [offB, Bool.or_eq_false_iff, decide_eq_false_iff_not]; omega
    have g4 : (weakC c at0 m).go.co.length = c.sp.length := G.ev.go
    unfold lnErr
    rw [g2, g3, g4]
    simp [fnz]
theorem weak_holds {c : Cl} (hf : c.Fit) (h : clErr c = 0) {at0 : List Int} (h6 : at0.length = 6) (ha : ∀ a ∈ at0, 0 ≤ a) {m : Int} (hm : 0 ≤ m) (hh : ∀ x : List Int, x.length = c.sp.length → ins x c.sp = true → rfx c x = false) (pt : List Int) : ¬ Ref (weakC c at0 m) pt := by
  intro hr
  have G := clErr_good hf h
  have n6 := G.n6
  obtain ⟨r1, r2, r3, r4⟩ := hr
  rw [weak_len G h6] at r1
  have hi : ins pt c.sp = true := ins_wk pt c.sp at0 (by omega) ha r2 G.sp
  have hn := hh pt r1 hi
  have ht : rfx c pt = true := by
    unfold rfx gvs
    rw [Bool.and_eq_true, decide_eq_true_eq, List.all_eq_true]
    refine ⟨fun g hg => decide_eq_true (r3 (lnc g) (List.mem_map_of_mem hg)), ?_⟩
    have e : V (weakC c at0 m).go pt = min (c.go.c + m) 1099511627776 + dot c.go.co pt := rfl
    have e2 : V c.go pt = c.go.c + dot c.go.co pt := rfl
    have := G.go.2
    rw [e] at r4
    rw [e2]
    omega
  rw [ht] at hn; cases hn
end Go.Vm.P12

/- Chapter 12, the laws: ProveEnds. -/
set_option maxRecDepth 100000
set_option maxHeartbeats 16000000
namespace Go.Vm.P12
open Go Go.Vm
theorem all_ui : ∀ l : List Int, ((l.map ui).map AV.imm).all single = true
  | [] => rfl
  | x :: l => by
    have IH := all_ui l
    simp only [List.map_cons, List.all_cons, IH, Bool.and_true]
    rfl
theorem l7_1e {lo : Lower} {at0 : List Int} {gv : List Ln} {go : D} {k : Int} :
    outC ⟨0, false⟩ [0, 0, 0, 0, 0, 0, 0, 0, 0, 0, 0, 0, 0, 0, 0, 0, 0, 0, 0, 0, 0, 0, 0, 0, 0, 1, 0, 0, 0, 0, 0, 0, 0, 0, 0, 0, 0, 0, 0, 0, 0, 0, 0, 0]
      (rnd (aCode lo ⟨0, false⟩ b7_1) (head ⟨0, false⟩ [0, 0, 0, 0, 0, 1, 0, 0, 0, 0, 0, 0, 0, 0, 0, 0, 0, 0, 0, 0, 0, 0, 0, 0, 0, 1, 0, 0, 0, 0, 0, 0, 0, 0, 0, 0, 0, 0, 0, 0, 1, 1, 0, 0])
      ⟨[.junk, .junk, .junk, .junk, .junk, .ptr 0 0, .junk, .junk, .junk, .junk, .junk, .junk, .junk, .junk, .junk, .junk, .junk, .junk, .junk, .junk, .junk, .junk, .junk, .junk, .junk, .ptr 1 0, .junk, .junk, .junk, .junk, .junk, .junk, .junk, .junk, .junk, .junk, .junk, .junk, .junk, .junk, .imm (.int .i64 0), .imm (.int .i64 0), .junk, .junk],
       [.box ((at0.map ui).map .imm), .box [.e0 2, vK 2 2 (gv.map enL), .imm go, .imm (.int .i64 k)]] ++ oK 2 (gv.map enL), none⟩) =
      some (.exit 2, ⟨[.junk, .junk, .junk, .junk, .junk, .junk, .junk, .junk, .junk, .junk, .junk, .junk, .junk, .junk, .junk, .junk, .junk, .junk, .junk, .junk, .junk, .junk, .junk, .junk, .junk, .ptr 0 0, .junk, .junk, .junk, .junk, .junk, .junk, .junk, .junk, .junk, .junk, .junk, .junk, .junk, .junk, .junk, .junk, .junk, .junk],
       [.box [.e0 2, vK 1 2 (gv.map enL), .imm go, .imm (.int .i64 k)]] ++ oK 2 (gv.map enL), none⟩) := by
  rw [rnd_eq]
  cases gv <;> simp only [go_sem, Nat.reduceAdd, Nat.reduceSub, Nat.reduceMul, Nat.reduceDiv, Nat.reduceMod, Nat.reduceLeDiff, Nat.reduceLT, Nat.reduceBEq, Int.reduceToNat, Int.reduceLT, Int.reduceLE, Int.reduceEq, vK, oK]
theorem ok7 (n : Nat) (c : Cl) (at0 : List Int) (m : Int) (h6 : at0.length = 6) (ha : ∀ a ∈ at0, 0 ≤ a ∧ a ≤ 255) (hm : 0 ≤ m ∧ m ≤ 65535) : callP (level E (n + 430)) 7 [.agg (enC c), .agg (at0.map ui), .int .u16 m] = some (.bool true) := by
  have h8 := ok8 (n + 8)
  have h9 := ok9 (n + 427) c
  rw [p7]
  simp only [go_sem, Nat.reduceAdd, Nat.reduceSub, Nat.reduceMul, Nat.reduceDiv, Nat.reduceMod, Nat.reduceLeDiff, Nat.reduceLT, Nat.reduceBEq, Int.reduceToNat, Int.reduceLT, Int.reduceLE, Int.reduceEq] at h9
  cases hs : short c
  · rw [hs] at h9
    simp only [go_sem, Nat.reduceAdd, Nat.reduceSub, Nat.reduceMul, Nat.reduceDiv, Nat.reduceMod, Nat.reduceLeDiff, Nat.reduceLT, Nat.reduceBEq, Int.reduceToNat, Int.reduceLT, Int.reduceLE, Int.reduceEq, sg_slD, h8, h9, all_ui]
  · rw [hs] at h9
    obtain ⟨hf, hg13, hs8⟩ := short_fit hs
    have h12 := ok12 (n + 425) c hf
    simp only [go_sem, Nat.reduceAdd, Nat.reduceSub, Nat.reduceMul, Nat.reduceDiv, Nat.reduceMod, Nat.reduceLeDiff, Nat.reduceLT, Nat.reduceBEq, Int.reduceToNat, Int.reduceLT, Int.reduceLE, Int.reduceEq] at h12
    by_cases hr : rClErr c = 0
    · rw [hr] at h12
      have hc0 : clErr c = 0 := by rw [cl_eq]; exact hr
      have G := clErr_good hf hc0
      have n6 := G.n6
      have ha0 : ∀ a ∈ at0, 0 ≤ a := fun a h => (ha a h).1
      have h25 := ok25 (n + 428) c.go hf.go
      have h36 := ok36 (n + 428) c.sn c.sp hf.sp
      have h35 := ok35 (n + 422) (lnc c.go) true c.sp hf.go hf.sp
      have h37 := ok37 (n + 422) (lnc c.go) true c.sp hf.go hf.sp
      have eb : ∀ g, least g (lnc c.go) c.sp = .tup [.int .i64 (lsV g c.go c.sp), .int .i64 0] := fun g => by
        have e1 := least_tup g (lnc c.go) c.sp
        have e2 : bxErr (lnc c.go) c.sp = 0 := bx_ok hc0 G
        rw [e1, e2]
        rfl
      rw [eb] at h35 h37
      obtain ⟨q1, q2⟩ := pP_box c.sp at0 (by omega) G.sp ha0
      obtain ⟨q3, q4⟩ := pL_box c.sp c.go.co G.ev.go.symm G.sp
      obtain ⟨q5, q6⟩ := pG_box c.sp c.go.co G.ev.go.symm G.sp
      have hl := l7_0 (lo := level E (n + 429)) (c := c) (at0 := at0) (m := m) (k6 := lsV false c.go c.sp) (k7 := 0) (k8 := lsV true c.go c.sp) (k9 := 0) n6 G.ev.go h6 ha G.sp c.sp at0 c.go.co [] [] [] 0 rfl rfl rfl rfl rfl rfl
      rw [cast0] at hl
      simp only [List.nil_append, List.map_nil] at hl
      have vP := ok24 (n + 423) (lnc c.go) true (pP c.sp at0) hf.go (by omega)
      have vL := ok24 (n + 423) (lnc c.go) true (pL c.sp c.go.co) hf.go (by omega)
      have vG := ok24 (n + 423) (lnc c.go) true (pG c.sp c.go.co) hf.go (by omega)
      rw [val_V G hc0 q1 (ins_co q2 q1 G.sp) (.inr rfl)] at vP
      rw [val_V G hc0 q3 (ins_co q4 q3 G.sp) (.inr rfl)] at vL
      rw [val_V G hc0 q5 (ins_co q6 q5 G.sp) (.inr rfl)] at vG
      have bd := exS_bd c.go.co c.sp (pP c.sp at0) G.ev.go q1 q2
      have eL : V c.go (pL c.sp c.go.co) = lsV false c.go c.sp := by rw [ends_V hc0 G, exS_L]; rfl
      have eG : V c.go (pG c.sp c.go.co) = lsV true c.go c.sp := by rw [ends_V hc0 G, exS_G]; rfl
      have eP : V c.go (pP c.sp at0) = c.go.c + dot c.go.co (pP c.sp at0) := rfl
      have n1 : ¬ V c.go (pP c.sp at0) < lsV false c.go c.sp := by rw [ends_V hc0 G, eP]; omega
      have n2 : ¬ lsV true c.go c.sp < V c.go (pP c.sp at0) := by rw [ends_V hc0 G, eP]; omega
      rw [eL] at vL
      rw [eG] at vG
      have h11 := ok11 (n + 427) c hf
      have h15 := ok15 (n + 19) (cpy c) 60 (cpy_fit hf)
      have hD := dec_three hf hc0 hg13 hs8 (t := 60) (by decide) (by decide)
      rw [show ((60 : Nat) : Int) = 60 from rfl] at hD
      have h45 := ok45I (n + 427) c hf
      have wf := weak_fit hf at0 m
      have we := weak_err hf hc0 h6 ha0 hm.1
      have wl := weak_len G h6 m
      have wg : (weakC c at0 m).gv.length = c.gv.length := by simp [weakC]
      have hW := dec_three wf we (by omega) (by omega) (t := 400) (by decide) (by decide)
      rw [show ((400 : Nat) : Int) = 400 from rfl] at hW
      have h15w := ok15 (n + 19) (cpy (weakC c at0 m)) 400 (cpy_fit wf)
      have h11w := ok11 (n + 427) (weakC c at0 m) wf
      have g1 : wrp .i64 m = m := wrp_ok (by omega)
      have hgo := G.go.2
      have g2 : wrp .i64 (c.go.c + m) = c.go.c + m := wrp_ok (by omega)
      have e30 : ¬ ((30 : Int) = 0) := by decide
      generalize V c.go (pP c.sp at0) = z at vP n1 n2
      generalize lsV false c.go c.sp = zl at *
      generalize lsV true c.go c.sp = zg at *
      simp only [go_sem, Nat.reduceAdd, Nat.reduceSub, Nat.reduceMul, Nat.reduceDiv, Nat.reduceMod, Nat.reduceLeDiff, Nat.reduceLT, Nat.reduceBEq, Int.reduceToNat, Int.reduceLT, Int.reduceLE, Int.reduceEq] at h25 h35 h37 h11
      rcases hD with ⟨p, d1⟩ | ⟨st, d1, _, _, _, d5⟩ | ⟨pt, d1, _⟩
      · rw [d1] at h15
        generalize pP c.sp at0 = P at *
        generalize pL c.sp c.go.co = L at *
        generalize pG c.sp c.go.co = G' at *
        rcases P with _ | ⟨p0, P⟩ <;> rcases L with _ | ⟨l0, L⟩ <;> rcases G' with _ | ⟨g0, G'⟩ <;> (try (exfalso; simp only [List.length_nil, List.length_cons] at q1 q3 q5; omega))
        · have f1 := vP.symm.trans vL
          have f2 := vP.symm.trans vG
          simp only [Option.some.injEq, D.tup.injEq, List.cons.injEq, D.int.injEq, true_and, and_true] at f1 f2
          subst f1 f2
          simp only [go_sem, Nat.reduceAdd, Nat.reduceSub, Nat.reduceMul, Nat.reduceDiv, Nat.reduceMod, Nat.reduceLeDiff, Nat.reduceLT, Nat.reduceBEq, Int.reduceToNat, Int.reduceLT, Int.reduceLE, Int.reduceEq, vK, oK, slD_nil, slD_cons] at h15 hl vP vL vG
          simp only [go_sem, Nat.reduceAdd, Nat.reduceSub, Nat.reduceMul, Nat.reduceDiv, Nat.reduceMod, Nat.reduceLeDiff, Nat.reduceLT, Nat.reduceBEq, Int.reduceToNat, Int.reduceLT, Int.reduceLE, Int.reduceEq, sg_slD, h8, h9, h12, ne_eq, all_ui, h25, h36, h35, h37, hl, vP, vL, vG, n1, n2, not_true_eq_false, not_false_eq_true, h11, h15, e30, renL_imm]
        · simp only [go_sem, Nat.reduceAdd, Nat.reduceSub, Nat.reduceMul, Nat.reduceDiv, Nat.reduceMod, Nat.reduceLeDiff, Nat.reduceLT, Nat.reduceBEq, Int.reduceToNat, Int.reduceLT, Int.reduceLE, Int.reduceEq, vK, oK, slD_nil, slD_cons] at h15 hl vP vL vG
          simp only [go_sem, Nat.reduceAdd, Nat.reduceSub, Nat.reduceMul, Nat.reduceDiv, Nat.reduceMod, Nat.reduceLeDiff, Nat.reduceLT, Nat.reduceBEq, Int.reduceToNat, Int.reduceLT, Int.reduceLE, Int.reduceEq, sg_slD, h8, h9, h12, ne_eq, all_ui, h25, h36, h35, h37, hl, vP, vL, vG, n1, n2, not_true_eq_false, not_false_eq_true, h11, h15, e30, renL_imm]
      · rw [d1] at h15
        have hnr := weak_holds hf hc0 h6 ha0 hm.1 d5
        have hl1 := l7_1 (lo := level E (n + 429)) (at0 := at0) (gv := c.gv.map lnc) (go := slD false 1 (c.go.co.map ic)) (k := min (c.go.c + m) 1099511627776) (N := c.sp.length) (by omega) h6 n6 ha c.sp [] at0 0 rfl (by simp) rfl G.sp
        rw [cast0] at hl1
        have hle := l7_1e (lo := level E (n + 429)) (at0 := at0) (gv := c.gv.map lnc) (go := slD false 1 (c.go.co.map ic)) (k := min (c.go.c + m) 1099511627776)
        have hzl : (List.zipWith wk1 c.sp at0).length = c.sp.length := wl
        have hy : ∀ st2 : List Stp, (∀ s ∈ st2, s.Fits) → st2.length ≤ 400 → callP (level E (n + 429)) 26 [.agg (enC (cpy (weakC c at0 m))), .agg [slD false 9 (st2.map enT)]] = some (chk (cpy (weakC c at0 m)) st2) := fun st2 h1 h2 => ok26 (n + 419) (cpy (weakC c at0 m)) false st2 (cpy_fit wf) (by omega) h1
        have hWn : (cpy (weakC c at0 m)).go.nl = false := rfl
        generalize cpy (weakC c at0 m) = W at *
        simp only [weakC] at h11w
        generalize List.zipWith wk1 c.sp at0 = Z at *
        clear hf G hc0 wf we hr hs eb
        rcases hW with ⟨p2, w1⟩ | ⟨st2, w1, w2, w3, w4, _⟩ | ⟨pt2, _, w2⟩
        · rw [w1] at h15w
          generalize pP c.sp at0 = P at *
          generalize pL c.sp c.go.co = L at *
          generalize pG c.sp c.go.co = G' at *
          obtain ⟨sn, sp, gn, gv, go⟩ := c
          simp only at h25 h35 h36 h37 hl vP vL vG h11 h45 h11w q1 q3 q5 hzl hl1 hle g2
          rcases sp with _ | ⟨s0, sp⟩ <;> rcases P with _ | ⟨p0, P⟩ <;> rcases L with _ | ⟨l0, L⟩ <;> rcases G' with _ | ⟨g0, G'⟩ <;> rcases Z with _ | ⟨z0, Z⟩ <;> (try (exfalso; simp only [List.length_nil, List.length_cons] at q1 q3 q5 hzl; omega))
          · have f1 := vP.symm.trans vL
            have f2 := vP.symm.trans vG
            simp only [Option.some.injEq, D.tup.injEq, List.cons.injEq, D.int.injEq, true_and, and_true] at f1 f2
            subst f1 f2
            rcases gv with _ | ⟨v0, gv⟩ <;>
            simp only [go_sem, Nat.reduceAdd, Nat.reduceSub, Nat.reduceMul, Nat.reduceDiv, Nat.reduceMod, Nat.reduceLeDiff, Nat.reduceLT, Nat.reduceBEq, Int.reduceToNat, Int.reduceLT, Int.reduceLE, Int.reduceEq, vK, oK, eK, nx, slD_nil, slD_cons, slD_f, hWn] at h15 hl vP vL vG h45 h11w h15w h11 h36 h35 h37 h9 h12 h25 hle <;>
            simp only [go_sem, Nat.reduceAdd, Nat.reduceSub, Nat.reduceMul, Nat.reduceDiv, Nat.reduceMod, Nat.reduceLeDiff, Nat.reduceLT, Nat.reduceBEq, Int.reduceToNat, Int.reduceLT, Int.reduceLE, Int.reduceEq, sg_slD, h8, h9, h12, ne_eq, all_ui, h25, h36, h35, h37, hl, vP, vL, vG, n1, n2, not_true_eq_false, not_false_eq_true, h11, h15, e30, renL_imm, g1, g2, h45, h11w, h15w, hle, slD_cons, slD_nil, slD_f, hWn, fl_sl, fl_int, fl_agg, flatDL, Bool.and_false, Bool.false_and, Bool.or_false]
          · simp only [List.length_cons, Nat.add_right_cancel_iff] at hzl
            rcases gv with _ | ⟨v0, gv⟩ <;>
            simp only [go_sem, Nat.reduceAdd, Nat.reduceSub, Nat.reduceMul, Nat.reduceDiv, Nat.reduceMod, Nat.reduceLeDiff, Nat.reduceLT, Nat.reduceBEq, Int.reduceToNat, Int.reduceLT, Int.reduceLE, Int.reduceEq, vK, oK, eK, nx, slD_nil, slD_cons, slD_f, hzl, hWn] at h15 hl vP vL vG h45 h11w h15w h11 h36 h35 h37 h9 h12 h25 hl1  <;>
            simp only [go_sem, Nat.reduceAdd, Nat.reduceSub, Nat.reduceMul, Nat.reduceDiv, Nat.reduceMod, Nat.reduceLeDiff, Nat.reduceLT, Nat.reduceBEq, Int.reduceToNat, Int.reduceLT, Int.reduceLE, Int.reduceEq, sg_slD, h8, h9, h12, ne_eq, all_ui, h25, h36, h35, h37, hl, vP, vL, vG, n1, n2, not_true_eq_false, not_false_eq_true, h11, h15, e30, renL_imm, g1, g2, h45, h11w, h15w, hl1, hzl, slD_cons, slD_nil, slD_f, hWn, fl_sl, fl_int, fl_agg, flatDL, Bool.and_false, Bool.false_and, Bool.or_false]
        · have h26w := hy st2 w3 w4
          rw [w2] at h26w
          rw [w1] at h15w
          generalize pP c.sp at0 = P at *
          generalize pL c.sp c.go.co = L at *
          generalize pG c.sp c.go.co = G' at *
          obtain ⟨sn, sp, gn, gv, go⟩ := c
          simp only at h25 h35 h36 h37 hl vP vL vG h11 h45 h11w q1 q3 q5 hzl hl1 hle g2
          rcases sp with _ | ⟨s0, sp⟩ <;> rcases P with _ | ⟨p0, P⟩ <;> rcases L with _ | ⟨l0, L⟩ <;> rcases G' with _ | ⟨g0, G'⟩ <;> rcases Z with _ | ⟨z0, Z⟩ <;> (try (exfalso; simp only [List.length_nil, List.length_cons] at q1 q3 q5 hzl; omega))
          · have f1 := vP.symm.trans vL
            have f2 := vP.symm.trans vG
            simp only [Option.some.injEq, D.tup.injEq, List.cons.injEq, D.int.injEq, true_and, and_true] at f1 f2
            subst f1 f2
            rcases gv with _ | ⟨v0, gv⟩ <;>
            simp only [go_sem, Nat.reduceAdd, Nat.reduceSub, Nat.reduceMul, Nat.reduceDiv, Nat.reduceMod, Nat.reduceLeDiff, Nat.reduceLT, Nat.reduceBEq, Int.reduceToNat, Int.reduceLT, Int.reduceLE, Int.reduceEq, vK, oK, eK, nx, slD_nil, slD_cons, slD_f, hWn] at h15 hl vP vL vG h45 h11w h15w h11 h36 h35 h37 h9 h12 h25 hle h26w <;>
            simp only [go_sem, Nat.reduceAdd, Nat.reduceSub, Nat.reduceMul, Nat.reduceDiv, Nat.reduceMod, Nat.reduceLeDiff, Nat.reduceLT, Nat.reduceBEq, Int.reduceToNat, Int.reduceLT, Int.reduceLE, Int.reduceEq, sg_slD, h8, h9, h12, ne_eq, all_ui, h25, h36, h35, h37, hl, vP, vL, vG, n1, n2, not_true_eq_false, not_false_eq_true, h11, h15, e30, renL_imm, g1, g2, h45, h11w, h15w, h26w, hle, slD_cons, slD_nil, slD_f, hWn, fl_sl, fl_int, fl_agg, flatDL, Bool.and_false, Bool.false_and, Bool.or_false]
          · simp only [List.length_cons, Nat.add_right_cancel_iff] at hzl
            rcases gv with _ | ⟨v0, gv⟩ <;>
            simp only [go_sem, Nat.reduceAdd, Nat.reduceSub, Nat.reduceMul, Nat.reduceDiv, Nat.reduceMod, Nat.reduceLeDiff, Nat.reduceLT, Nat.reduceBEq, Int.reduceToNat, Int.reduceLT, Int.reduceLE, Int.reduceEq, vK, oK, eK, nx, slD_nil, slD_cons, slD_f, hzl, hWn] at h15 hl vP vL vG h45 h11w h15w h11 h36 h35 h37 h9 h12 h25 hl1 h26w <;>
            simp only [go_sem, Nat.reduceAdd, Nat.reduceSub, Nat.reduceMul, Nat.reduceDiv, Nat.reduceMod, Nat.reduceLeDiff, Nat.reduceLT, Nat.reduceBEq, Int.reduceToNat, Int.reduceLT, Int.reduceLE, Int.reduceEq, sg_slD, h8, h9, h12, ne_eq, all_ui, h25, h36, h35, h37, hl, vP, vL, vG, n1, n2, not_true_eq_false, not_false_eq_true, h11, h15, e30, renL_imm, g1, g2, h45, h11w, h15w, h26w, hl1, hzl, slD_cons, slD_nil, slD_f, hWn, fl_sl, fl_int, fl_agg, flatDL, Bool.and_false, Bool.false_and, Bool.or_false]
        · exact absurd w2 (hnr pt2)
      · rw [d1] at h15
        generalize pP c.sp at0 = P at *
        generalize pL c.sp c.go.co = L at *
        generalize pG c.sp c.go.co = G' at *
        rcases P with _ | ⟨p0, P⟩ <;> rcases L with _ | ⟨l0, L⟩ <;> rcases G' with _ | ⟨g0, G'⟩ <;> (try (exfalso; simp only [List.length_nil, List.length_cons] at q1 q3 q5; omega))
        · have f1 := vP.symm.trans vL
          have f2 := vP.symm.trans vG
          simp only [Option.some.injEq, D.tup.injEq, List.cons.injEq, D.int.injEq, true_and, and_true] at f1 f2
          subst f1 f2
          simp only [go_sem, Nat.reduceAdd, Nat.reduceSub, Nat.reduceMul, Nat.reduceDiv, Nat.reduceMod, Nat.reduceLeDiff, Nat.reduceLT, Nat.reduceBEq, Int.reduceToNat, Int.reduceLT, Int.reduceLE, Int.reduceEq, vK, oK, slD_nil, slD_cons] at h15 hl vP vL vG
          simp only [go_sem, Nat.reduceAdd, Nat.reduceSub, Nat.reduceMul, Nat.reduceDiv, Nat.reduceMod, Nat.reduceLeDiff, Nat.reduceLT, Nat.reduceBEq, Int.reduceToNat, Int.reduceLT, Int.reduceLE, Int.reduceEq, sg_slD, h8, h9, h12, ne_eq, all_ui, h25, h36, h35, h37, hl, vP, vL, vG, n1, n2, not_true_eq_false, not_false_eq_true, h11, h15, e30, renL_imm]
        · simp only [go_sem, Nat.reduceAdd, Nat.reduceSub, Nat.reduceMul, Nat.reduceDiv, Nat.reduceMod, Nat.reduceLeDiff, Nat.reduceLT, Nat.reduceBEq, Int.reduceToNat, Int.reduceLT, Int.reduceLE, Int.reduceEq, vK, oK, slD_nil, slD_cons] at h15 hl vP vL vG
          simp only [go_sem, Nat.reduceAdd, Nat.reduceSub, Nat.reduceMul, Nat.reduceDiv, Nat.reduceMod, Nat.reduceLeDiff, Nat.reduceLT, Nat.reduceBEq, Int.reduceToNat, Int.reduceLT, Int.reduceLE, Int.reduceEq, sg_slD, h8, h9, h12, ne_eq, all_ui, h25, h36, h35, h37, hl, vP, vL, vG, n1, n2, not_true_eq_false, not_false_eq_true, h11, h15, e30, renL_imm]
    · simp only [go_sem, Nat.reduceAdd, Nat.reduceSub, Nat.reduceMul, Nat.reduceDiv, Nat.reduceMod, Nat.reduceLeDiff, Nat.reduceLT, Nat.reduceBEq, Int.reduceToNat, Int.reduceLT, Int.reduceLE, Int.reduceEq, sg_slD, h8, h9, h12, ne_eq, hr, not_false_eq_true, all_ui]
end Go.Vm.P12

/- Chapter 12: ProveEnds: the row and the card. -/
set_option maxRecDepth 100000
namespace Go.Vm.P12
open Go Go.Vm Go.Proofs Go.ChangeShapes
section
variable {H : Type} {enc : TypeId × Value → H} {W : World} {sp : Nat → Bool} {held : Bool}
theorem cells5 : Tryd.prog.cellsOf 5 = 1 := by kernel_rfl
theorem cells91 : Tryd.prog.cellsOf 91 = 6 := by kernel_rfl
theorem cs6_of {cs : List Value} (h : cs.length = 6) : ∃ a0 a1 a2 a3 a4 a5, cs = [a0, a1, a2, a3, a4, a5] := by
  match cs, h with
  | [a0, a1, a2, a3, a4, a5], _ => exact ⟨a0, a1, a2, a3, a4, a5, rfl⟩
theorem u8_rng {a : Int} (h : (Lit.int .u8 a).wf = true) : 0 ≤ a ∧ a ≤ 255 := by
  simp only [Lit.wf, Bool.and_eq_true, decide_eq_true_eq] at h
  exact h
theorem u16_rng {a : Int} (h : (Lit.int .u16 a).wf = true) : 0 ≤ a ∧ a ≤ 65535 := by
  simp only [Lit.wf, Bool.and_eq_true, decide_eq_true_eq] at h
  exact h
theorem rd_arr {n : Nat} {cs : List Value} {x : DataW H × List MemPlace} (h : DataW.trod enc Tryd.prog W 0 sp held n 91 cs = some x) : ∃ l : List Int, l.length = 6 ∧ (∀ a ∈ l, 0 ≤ a ∧ a ≤ 255) ∧ Holds W (l.map ui) cs := by
  obtain ⟨xs, n', _, _, hl, hn, hf⟩ := DataW.trod_array Tryd.underlying91 h
  rw [cells91] at hl
  obtain ⟨a0, a1, a2, a3, a4, a5, rfl⟩ := cs6_of hl
  have f0 := (hf 0 (by decide)).trans (List.getElem?_eq_getElem (show 0 < xs.length by rw [hn]; decide))
  have f1 := (hf 1 (by decide)).trans (List.getElem?_eq_getElem (show 1 < xs.length by rw [hn]; decide))
  have f2 := (hf 2 (by decide)).trans (List.getElem?_eq_getElem (show 2 < xs.length by rw [hn]; decide))
  have f3 := (hf 3 (by decide)).trans (List.getElem?_eq_getElem (show 3 < xs.length by rw [hn]; decide))
  have f4 := (hf 4 (by decide)).trans (List.getElem?_eq_getElem (show 4 < xs.length by rw [hn]; decide))
  have f5 := (hf 5 (by decide)).trans (List.getElem?_eq_getElem (show 5 < xs.length by rw [hn]; decide))
  simp only [cells5, Nat.mul_one, List.drop_zero, List.drop_succ_cons, List.take_succ_cons, List.take_zero, List.take_nil] at f0 f1 f2 f3 f4 f5
  obtain ⟨p0, e0, _, w0⟩ := DataW.trod_int Tryd.underlying5 f0
  obtain ⟨p1, e1, _, w1⟩ := DataW.trod_int Tryd.underlying5 f1
  obtain ⟨p2, e2, _, w2⟩ := DataW.trod_int Tryd.underlying5 f2
  obtain ⟨p3, e3, _, w3⟩ := DataW.trod_int Tryd.underlying5 f3
  obtain ⟨p4, e4, _, w4⟩ := DataW.trod_int Tryd.underlying5 f4
  obtain ⟨p5, e5, _, w5⟩ := DataW.trod_int Tryd.underlying5 f5
  simp only [List.cons.injEq, and_true] at e0 e1 e2 e3 e4 e5
  subst e0 e1 e2 e3 e4 e5
  refine ⟨[p0, p1, p2, p3, p4, p5], rfl, fun a ha => ?_, ?_⟩
  · simp only [List.mem_cons, List.not_mem_nil, or_false] at ha
    rcases ha with rfl | rfl | rfl | rfl | rfl | rfl
    · exact u8_rng w0
    · exact u8_rng w1
    · exact u8_rng w2
    · exact u8_rng w3
    · exact u8_rng w4
    · exact u8_rng w5
  · exact holds_app (a := [ui p0]) (x := [.int .u8 p0]) (holds_one rfl (.int _ _)) (holds_app (a := [ui p1]) (x := [.int .u8 p1]) (holds_one rfl (.int _ _))
      (holds_app (a := [ui p2]) (x := [.int .u8 p2]) (holds_one rfl (.int _ _)) (holds_app (a := [ui p3]) (x := [.int .u8 p3]) (holds_one rfl (.int _ _))
      (holds_app (a := [ui p4]) (x := [.int .u8 p4]) (holds_one rfl (.int _ _)) (holds_one rfl (.int _ _))))))
theorem arg_arr {r : Reach} {b0 : Nat} {v : Value} {d : DataW H} {p : List MemPlace} (hv : Value.okWide Tryd.prog W r b0 91 v) (h : DataW.Trod enc Tryd.prog W 0 sp held 91 v d p) : ∃ l : List Int, l.length = 6 ∧ (∀ a ∈ l, 0 ≤ a ∧ a ≤ 255) ∧ RepD (Old W) W (.agg (l.map ui)) v := by
  obtain ⟨n, h⟩ := h
  unfold Value.okWide at hv
  rw [Tryd.underlying91] at hv
  obtain ⟨vs, rfl, _⟩ := hv
  obtain ⟨l, h1, h2, hc⟩ := rd_arr h
  exact ⟨l, h1, h2, ds_agg hc⟩
end
end Go.Vm.P12
namespace Go.Proofs.YtfhjkkjaaeohhaaDoor
open Go Go.Vm Go.Vm.P12 Go.ChangeShapes Go.WideShapes Go.ChangeAt Go.RowKit
theorem read91 : Tryd.prog.readableRec 91 = true := by kernel_rfl
theorem row91 : 91 < Tryd.prog.types.size := of_decide_eq_true (by kernel_rfl)
theorem ends_lifted (os : Os) (started : os.Started) (H : Type) (enc : TypeId × Value → H) :
    ReturnsInHanded {} Tryd.checked os 7 .any (fun w args => (Rows.proveEndsSpec.pre enc Tryd.prog Tryd.f7 [] false w args ∧ laidMetH Tryd.prog laidW w) ∧ sizedMet enc Tryd.prog Tryd.f7 (OpenSpec.ofChange Rows.proveEndsSpec) false w args)
      (Rows.proveEndsSpec.post enc Tryd.prog Tryd.f7 false true false false) := by
  refine returnsInHanded_of_change_and (C := Tryd.checked) (X := fun w _ => laidMetH Tryd.prog laidW w) (fun _ _ _ hh h => h.of_heap hh) ownT started (by kernel_rfl) Tryd.func7
    (ChangeSpec.witness_shaped (enc := enc) (C := Tryd.checked) (os := os) (X := fun w _ => laidMetH Tryd.prog laidW w) false (World.doorLaid Tryd.prog 2000 os) #[noClaim, .agg #[.int .u8 0, .int .u8 0, .int .u8 0, .int .u8 0, .int .u8 0, .int .u8 0], .int .u16 0] 8 rfl (World.shaped_of_RefB (by kernel_rfl) (by kernel_rfl)) (by kernel_rfl) (by kernel_rfl) (by kernel_rfl) (door_met os _)) ?_
  intro W base args ds gs before hval0 hW _ _ hL _
  have hW' := hW
  have hlt := hW.lt
  obtain ⟨p, q, hA0, hV, rfl, hfz, hnd⟩ := hW
  have hA : DataW.TrodAll enc Tryd.prog W 0 (fun _ => true) true Tryd.f7.params.toList args.toList ds p := hA0
  rw [Tryd.params7] at hA
  obtain ⟨v0, v1, v2, d0, d1, d2, p0, p1, p2, rfl, rfl, rfl, h0, h1, h2⟩ := trodAll_three hA
  obtain ⟨rfl, rfl⟩ := trodVars_none hV
  obtain ⟨c, hc⟩ := arg_claim h0
  have hval : ∀ (j : Nat) t v, Tryd.f7.params[j]? = some t → (#[v0, v1, v2] : Array Value)[j]? = some v → Value.okWide Tryd.prog W .any base t v := hval0
  rw [Tryd.params7] at hval
  obtain ⟨l, hlen6, lr, hl⟩ := arg_arr (hval 1 91 v1 rfl rfl) h1
  obtain ⟨t, rfl, rfl, rfl, wt⟩ := open_int Tryd.underlying92 (hval 2 92 v2 rfl rfl) h2
  refine (call_ok anyXP (ok7 0 c l t hlen6 lr (u16_rng wt)) hL rfl (fun j d hj => ?_)).mono fun e w ⟨r, F, he, htr, hr⟩ => ?_
  · match j, hj with
    | 0, hj => injection hj with hj; subst hj; exact hc
    | 1, hj => injection hj with hj; subst hj; exact hl
    | 2, hj => injection hj with hj; subst hj; exact .int _ _
    | j + 3, hj => simp at hj
  · subst he
    have hb := below_of htr
    obtain rfl := bool_of hr
    refine ⟨_, rfl, [d0, d1, _], [], p0 ++ p1 ++ [] ++ [], [], p0 ++ (p1 ++ []), [], hW', trodAll_mk1 (shut_bool Tryd.underlying4 _), ?_, rfl, hb.frame _, nofun⟩
    exact trodAll_mk3 (Below.trod laidOutT read28 row28 h0 hb fun x hx => hlt x (by simp [hx])) (Below.trod laidOutT read91 row91 h1 hb fun x hx => hlt x (by simp [hx])) (shut_int Tryd.underlying92 wt)
theorem proveEnds_said : Rows.ProveEndsSaid :=
  OpenClaim.holds_of_wide 7 Tryd.f7 rfl rfl rfl rfl rfl rfl rfl ⟨rfl, rfl, rfl, rfl, rfl⟩ rfl rfl rfl rfl rfl (by kernel_rfl) Tryd.func7 (by kernel_rfl)
    (of_decide_eq_true (by kernel_rfl)) (by unfold Func.isWrapper; first | (rw [if_pos (by decide +kernel)]; kernel_rfl) | (rw [if_neg (by decide +kernel)]; exact ⟨rfl, rfl⟩))
    (fun os started H enc _ => ends_lifted os started H enc)
theorem proveEnds_holds : Rows.ProveEndsCardSaid :=
  Claim7.holds_tied_plain_at .later [] [.funcs] true (true, "ee78f3fea5e62ac867fb12881a9742dfec09454aa8e9067a5bd6c84d4de512dc") false
    proveEnds_said (fun _ h => by cases h) (by kernel_rfl) (fun _ h => by cases h) proveEnds_row_tie rfl ⟨rfl, rfl⟩ (by kernel_rfl) rfl
    (fun f fn hf hfn => by
      obtain rfl : f = 7 := Option.some.inj ((show Tryd.prog.funcNamed "halation/halationlaw12.ProveEnds" = some 7 by kernel_rfl).symm.trans hf) |>.symm
      obtain rfl : fn = Tryd.f7 := (Option.some.inj (Tryd.func7.symm.trans hfn)).symm
      exact ⟨by kernel_rfl, fun j t ht => by
        rw [Tryd.params7] at ht
        have hm : t ∈ [28, 91, 92] := by simpa using Array.mem_of_getElem? ht
        have hall : ([28, 91, 92].all fun u => !Tryd.prog.wantsStandIn u) = true := by kernel_rfl
        exact (show Tryd.prog.wantsStandIn t = false by simpa using List.all_eq_true.1 hall t hm)⟩)
    (by kernel_rfl)
#print axioms proveEnds_holds
end Go.Proofs.YtfhjkkjaaeohhaaDoor
