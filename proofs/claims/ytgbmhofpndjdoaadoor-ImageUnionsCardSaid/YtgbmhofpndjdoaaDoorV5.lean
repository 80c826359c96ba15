/- A part of the proof that the law answers true for every input; the conditions are those of the card: the listed variable reads as the program lays it. -/
import Derived.Test.YtgbmhofpndjdoaaDoorV4
set_option linter.unusedSimpArgs false
set_option linter.unusedVariables false
/- Chapter 04, functions: the reference's boxes. -/
set_option maxRecDepth 100000
set_option maxHeartbeats 1000000
namespace Go.Vm.P4D
open Go Go.Vm Go.Vm.P4
theorem okQWhen (n : Nat) (b : Bool) (x : Int) : callP (level E (n+1)) 29 [.bool b, .int .i64 x] = some (.int .i64 (if b then x else 0)) := by
  rw [p29]
  cases b <;> simp only [go_sem, Nat.reduceAdd, Nat.reduceSub, Nat.reduceMul, Nat.reduceDiv, Nat.reduceMod, Nat.reduceLeDiff, Nat.reduceLT, Nat.reduceBEq, Int.reduceToNat, Int.reduceLT, Int.reduceLE, Int.reduceEq, Bool.false_eq_true]
theorem okQFirst (n : Nat) (b : Bool) (l : List Int) (hl : l.length < 1000000000) : callP (level E (n+1)) 27 [slD b 1 (l.map ic)] = some (.int .i64 (fnz l)) := by
  rw [p27]
  simp only [go_sem, Nat.reduceAdd, Nat.reduceSub, Nat.reduceMul, Nat.reduceDiv, Nat.reduceMod, Nat.reduceLeDiff, Nat.reduceLT, Nat.reduceBEq, Int.reduceToNat, Int.reduceLT, Int.reduceLE, Int.reduceEq]
  have h := loop_run (f := aCode (level E (n)) ⟨0, false⟩ b27_0) (h := head ⟨0, false⟩ [1, 0, 1, 0, 0]) (Φ := outC ⟨0, false⟩ [0, 1, 0, 0, 0]) l (fun (_ : Unit) i => ⟨[.imm (slD b 1 (l.map ic)), .junk, .imm (.int .i64 i), .junk, .junk], [], none⟩) (fun _ _ => True)
    (fun _ x => if x = 0 then .inl () else .inr (some (.ret, ⟨[.junk, .imm (.int .i64 x), .junk, .junk, .junk], [], none⟩))) (fun _ => some (.exit 0, ⟨[.junk, .junk, .junk, .junk, .junk], [], none⟩)) () trivial
    (fun _ i x _ h2 h1 => ⟨by
      rw [rnd_eq]
      by_cases h0 : x = 0
      · subst h0
        simp only [go_sem, Nat.reduceAdd, Nat.reduceSub, Nat.reduceMul, Nat.reduceDiv, Nat.reduceMod, Nat.reduceLeDiff, Nat.reduceLT, Nat.reduceBEq, Int.reduceToNat, Int.reduceLT, Int.reduceLE, Int.reduceEq, lt_t h2, h1, ne_eq, not_true_eq_false]
        rw [wrpS (by omega)]
      · simp only [go_sem, Nat.reduceAdd, Nat.reduceSub, Nat.reduceMul, Nat.reduceDiv, Nat.reduceMod, Nat.reduceLeDiff, Nat.reduceLT, Nat.reduceBEq, Int.reduceToNat, Int.reduceLT, Int.reduceLE, Int.reduceEq, lt_t h2, h1, ne_eq, h0, not_false_eq_true], fun _ _ => trivial⟩)
    (fun _ _ => by
      rw [rnd_eq]
      simp only [go_sem, Nat.reduceAdd, Nat.reduceSub, Nat.reduceMul, Nat.reduceDiv, Nat.reduceMod, Nat.reduceLeDiff, Nat.reduceLT, Nat.reduceBEq, Int.reduceToNat, Int.reduceLT, Int.reduceLE, Int.reduceEq, lt_f (Nat.le_refl _)])
  rw [cast_0] at h
  rw [h]
  clear h hl
  induction l with
  | nil => simp only [go_sem, Nat.reduceAdd, Nat.reduceSub, Nat.reduceMul, Nat.reduceDiv, Nat.reduceMod, Nat.reduceLeDiff, Nat.reduceLT, Nat.reduceBEq, Int.reduceToNat, Int.reduceLT, Int.reduceLE, Int.reduceEq, runL_nil, fnz]
  | cons x r ih =>
    by_cases h0 : x = 0
    · simp only [runL_cons, h0, if_true, fnz]; exact ih
    · simp only [go_sem, Nat.reduceAdd, Nat.reduceSub, Nat.reduceMul, Nat.reduceDiv, Nat.reduceMod, Nat.reduceLeDiff, Nat.reduceLT, Nat.reduceBEq, Int.reduceToNat, Int.reduceLT, Int.reduceLE, Int.reduceEq, runL_cons, h0, fnz]
theorem okQFirstL (n : Nat) (es : List (List D)) (l : List Int) (he : es = l.map ic) (hl : l.length < 1000000000) : callP (level E (n+1)) 27 [.sl 1 es] = some (.int .i64 (fnz l)) := by
  subst he
  exact okQFirst n false l hl
theorem okRProduct (n : Nat) (b : Bool) (l : Bx) (hl : l.length < 1000000000) : callP (level E (n+1)) 17 [enB b l] = some (.int .i64 (many l)) := by
  rw [p17]
  simp only [go_sem, Nat.reduceAdd, Nat.reduceSub, Nat.reduceMul, Nat.reduceDiv, Nat.reduceMod, Nat.reduceLeDiff, Nat.reduceLT, Nat.reduceBEq, Int.reduceToNat, Int.reduceLT, Int.reduceLE, Int.reduceEq]
  have h := loop_fold (f := aCode (level E (n)) ⟨0, false⟩ b17_0) (h := head ⟨0, false⟩ [1, 0, 1, 1, 0]) (Φ := outC ⟨0, false⟩ [0, 0, 1, 0, 0]) l (fun (a : Int) i => ⟨[.imm (slD b 2 (l.map enR)), .junk, .imm (.int .i64 a), .imm (.int .i64 i), .junk], [], none⟩) (fun _ _ => True)
    (fun a x => ml a x.ex) (fun a => some (.exit 0, ⟨[.junk, .junk, .imm (.int .i64 a), .junk, .junk], [], none⟩)) 1 trivial
    (fun a i x _ h2 h1 => ⟨by
      rw [rnd_eq]
      simp only [go_sem, Nat.reduceAdd, Nat.reduceSub, Nat.reduceMul, Nat.reduceDiv, Nat.reduceMod, Nat.reduceLeDiff, Nat.reduceLT, Nat.reduceBEq, Int.reduceToNat, Int.reduceLT, Int.reduceLE, Int.reduceEq, lt_t h2, h1, ml]
      rw [wrpS (by omega)], trivial⟩)
    (fun _ _ => by
      rw [rnd_eq]
      simp only [go_sem, Nat.reduceAdd, Nat.reduceSub, Nat.reduceMul, Nat.reduceDiv, Nat.reduceMod, Nat.reduceLeDiff, Nat.reduceLT, Nat.reduceBEq, Int.reduceToNat, Int.reduceLT, Int.reduceLE, Int.reduceEq, lt_f (Nat.le_refl _)])
  rw [cast_0] at h
  rw [h]
  simp only [go_sem, Nat.reduceAdd, Nat.reduceSub, Nat.reduceMul, Nat.reduceDiv, Nat.reduceMod, Nat.reduceLeDiff, Nat.reduceLT, Nat.reduceBEq, Int.reduceToNat, Int.reduceLT, Int.reduceLE, Int.reduceEq, many]
def shortN (l : Bx) : Int := (l.take 4).foldl (fun n r => ml n (max 0 (min r.ex 100))) 1
theorem okShortBox (n : Nat) (b : Bool) (l : Bx) : callP (level E (n+1)) 8 [enB b l] = some (.bool (decide (l.length ≤ 4) && decide (shortN l ≤ 64))) := by
  rw [p8]
  simp only [go_sem, Nat.reduceAdd, Nat.reduceSub, Nat.reduceMul, Nat.reduceDiv, Nat.reduceMod, Nat.reduceLeDiff, Nat.reduceLT, Nat.reduceBEq, Int.reduceToNat, Int.reduceLT, Int.reduceLE, Int.reduceEq]
  have h := loop_fold (f := aCode (level E (n)) ⟨0, false⟩ b8_0) (h := head ⟨0, false⟩ [1, 0, 1, 1, 0]) (Φ := outC ⟨0, false⟩ [1, 0, 1, 0, 0]) (l.take 4) (fun (a : Int) i => ⟨[.imm (slD b 2 (l.map enR)), .junk, .imm (.int .i64 a), .imm (.int .i64 i), .junk], [], none⟩) (fun _ _ => True)
    (fun a x => ml a (max 0 (min x.ex 100))) (fun a => some (.exit 0, ⟨[.imm (slD b 2 (l.map enR)), .junk, .imm (.int .i64 a), .junk, .junk], [], none⟩)) 1 trivial
    (fun a i x _ h2 h1 => ⟨by
      rw [List.length_take] at h2
      rw [List.getElem?_take_of_lt (by omega)] at h1
      have h4 : (i : Int) < 4 := by omega
      rw [rnd_eq]
      simp only [go_sem, Nat.reduceAdd, Nat.reduceSub, Nat.reduceMul, Nat.reduceDiv, Nat.reduceMod, Nat.reduceLeDiff, Nat.reduceLT, Nat.reduceBEq, Int.reduceToNat, Int.reduceLT, Int.reduceLE, Int.reduceEq, lt_t (show i < l.length by omega), h1, h4, ml]
      rw [wrpS (by omega)], trivial⟩)
    (fun a _ => by
      rw [rnd_eq]
      rw [List.length_take]
      by_cases h5 : l.length ≤ 4
      · rw [Nat.min_eq_right h5]
        simp only [go_sem, Nat.reduceAdd, Nat.reduceSub, Nat.reduceMul, Nat.reduceDiv, Nat.reduceMod, Nat.reduceLeDiff, Nat.reduceLT, Nat.reduceBEq, Int.reduceToNat, Int.reduceLT, Int.reduceLE, Int.reduceEq, lt_f (Nat.le_refl _)]
      · rw [Nat.min_eq_left (by omega)]
        have h6 : (4 : Int) < l.length := by omega
        have h7 : ¬ (4 : Int) < 4 := by omega
        simp only [go_sem, Nat.reduceAdd, Nat.reduceSub, Nat.reduceMul, Nat.reduceDiv, Nat.reduceMod, Nat.reduceLeDiff, Nat.reduceLT, Nat.reduceBEq, Int.reduceToNat, Int.reduceLT, Int.reduceLE, Int.reduceEq, h6, h7])
  rw [cast_0] at h
  rw [h]
  by_cases h5 : (l.length : Int) ≤ 4
  · have h6 : l.length ≤ 4 := by omega
    simp only [go_sem, Nat.reduceAdd, Nat.reduceSub, Nat.reduceMul, Nat.reduceDiv, Nat.reduceMod, Nat.reduceLeDiff, Nat.reduceLT, Nat.reduceBEq, Int.reduceToNat, Int.reduceLT, Int.reduceLE, Int.reduceEq, h5, h6, shortN]
  · have h6 : ¬ l.length ≤ 4 := by omega
    simp only [go_sem, Nat.reduceAdd, Nat.reduceSub, Nat.reduceMul, Nat.reduceDiv, Nat.reduceMod, Nat.reduceLeDiff, Nat.reduceLT, Nat.reduceBEq, Int.reduceToNat, Int.reduceLT, Int.reduceLE, Int.reduceEq, h5, h6, shortN]
theorem okOwnBox (n : Nat) (b : Bool) (l : Bx) (hl : l.length < 1000000) : callP (level E (n+1)) 20 [enB b l] = some (enB true l) := by
  rw [p20]
  rcases l with _ | ⟨x, t⟩
  · cases b <;> simp only [go_sem, Nat.reduceAdd, Nat.reduceSub, Nat.reduceMul, Nat.reduceDiv, Nat.reduceMod, Nat.reduceLeDiff, Nat.reduceLT, Nat.reduceBEq, Int.reduceToNat, Int.reduceLT, Int.reduceLE, Int.reduceEq, slD] <;> rfl
  · have e : (t.length + 1) * 17 ≤ 70368744177664 := by simp at hl; omega
    have e0 : enB b (x :: t) = .sl 2 ((x :: t).map enR) := by cases b <;> rfl
    rw [e0]
    simp only [go_sem, Nat.reduceAdd, Nat.reduceSub, Nat.reduceMul, Nat.reduceDiv, Nat.reduceMod, Nat.reduceLeDiff, Nat.reduceLT, Nat.reduceBEq, Int.reduceToNat, Int.reduceLT, Int.reduceLE, Int.reduceEq, e] <;> rfl
theorem okRCheckBox (n : Nat) (b : Bool) (l : Bx) (hl : l.length < 1000000) : callP (level E (n+2)) 28 [enB b l] = some (.int .i64 (ckBox l)) := by
  rw [p28]
  by_cases h1 : l.length < 1
  · have h1' : (l.length : Int) < 1 := by omega
    simp only [go_sem, Nat.reduceAdd, Nat.reduceSub, Nat.reduceMul, Nat.reduceDiv, Nat.reduceMod, Nat.reduceLeDiff, Nat.reduceLT, Nat.reduceBEq, Int.reduceToNat, Int.reduceLT, Int.reduceLE, Int.reduceEq, h1', ckBox, h1, true_or]
  · have h1' : ¬ (l.length : Int) < 1 := by omega
    by_cases h2 : 3 < l.length
    · have h2' : (3 : Int) < l.length := by omega
      simp only [go_sem, Nat.reduceAdd, Nat.reduceSub, Nat.reduceMul, Nat.reduceDiv, Nat.reduceMod, Nat.reduceLeDiff, Nat.reduceLT, Nat.reduceBEq, Int.reduceToNat, Int.reduceLT, Int.reduceLE, Int.reduceEq, h1', h2', ckBox, h1, h2, or_true]
    · have h2' : ¬ (3 : Int) < l.length := by omega
      simp only [go_sem, Nat.reduceAdd, Nat.reduceSub, Nat.reduceMul, Nat.reduceDiv, Nat.reduceMod, Nat.reduceLeDiff, Nat.reduceLT, Nat.reduceBEq, Int.reduceToNat, Int.reduceLT, Int.reduceLE, Int.reduceEq, h1', h2', ckBox, h1, h2, or_self]
      have h := loop_run (f := aCode (level E (n+1)) ⟨0, false⟩ b28_0) (h := head ⟨0, false⟩ [1, 0, 1, 0, 0, 0, 0]) (Φ := outC ⟨0, false⟩ [1, 1, 0, 0, 0, 0, 0]) l (fun (_ : Unit) i => ⟨[.imm (slD b 2 (l.map enR)), .junk, .imm (.int .i64 i), .junk, .junk, .junk, .junk], [], none⟩) (fun _ _ => True)
        (fun _ r => if ckRange r = 0 then .inl () else .inr (some (.ret, ⟨[.imm (slD b 2 (l.map enR)), .imm (.int .i64 3), .junk, .junk, .junk, .junk, .junk], [], none⟩))) (fun _ => some (.exit 0, ⟨[.imm (slD b 2 (l.map enR)), .junk, .junk, .junk, .junk, .junk, .junk], [], none⟩)) () trivial
        (fun _ i r _ h2 h1 => ⟨by
          rw [rnd_eq]
          by_cases k1 : r.lo < -1048576
          · have k : ¬ ckRange r = 0 := by rw [ckRange, if_pos (by omega)]; omega
            simp only [go_sem, Nat.reduceAdd, Nat.reduceSub, Nat.reduceMul, Nat.reduceDiv, Nat.reduceMod, Nat.reduceLeDiff, Nat.reduceLT, Nat.reduceBEq, Int.reduceToNat, Int.reduceLT, Int.reduceLE, Int.reduceEq, lt_t h2, h1, k1, k]
          · by_cases k2 : r.lo > 1048576
            · have k : ¬ ckRange r = 0 := by rw [ckRange, if_pos (by omega)]; omega
              simp only [go_sem, Nat.reduceAdd, Nat.reduceSub, Nat.reduceMul, Nat.reduceDiv, Nat.reduceMod, Nat.reduceLeDiff, Nat.reduceLT, Nat.reduceBEq, Int.reduceToNat, Int.reduceLT, Int.reduceLE, Int.reduceEq, lt_t h2, h1, k1, k2, k]
            · by_cases k3 : r.ex < 0
              · have k : ¬ ckRange r = 0 := by rw [ckRange, if_pos (by omega)]; omega
                simp only [go_sem, Nat.reduceAdd, Nat.reduceSub, Nat.reduceMul, Nat.reduceDiv, Nat.reduceMod, Nat.reduceLeDiff, Nat.reduceLT, Nat.reduceBEq, Int.reduceToNat, Int.reduceLT, Int.reduceLE, Int.reduceEq, lt_t h2, h1, k1, k2, k3, k]
              · by_cases k4 : r.ex > 64
                · have k : ¬ ckRange r = 0 := by rw [ckRange, if_pos (by omega)]; omega
                  simp only [go_sem, Nat.reduceAdd, Nat.reduceSub, Nat.reduceMul, Nat.reduceDiv, Nat.reduceMod, Nat.reduceLeDiff, Nat.reduceLT, Nat.reduceBEq, Int.reduceToNat, Int.reduceLT, Int.reduceLE, Int.reduceEq, lt_t h2, h1, k1, k2, k3, k4, k]
                · have e : wrp .i64 (r.lo + r.ex) = r.lo + r.ex := wrp_ok (by omega)
                  by_cases k5 : r.lo + r.ex > 1048577
                  · have k : ¬ ckRange r = 0 := by rw [ckRange, if_pos (by omega)]; omega
                    simp only [go_sem, Nat.reduceAdd, Nat.reduceSub, Nat.reduceMul, Nat.reduceDiv, Nat.reduceMod, Nat.reduceLeDiff, Nat.reduceLT, Nat.reduceBEq, Int.reduceToNat, Int.reduceLT, Int.reduceLE, Int.reduceEq, lt_t h2, h1, k1, k2, k3, k4, e, k5, k]
                  · have k : ckRange r = 0 := by rw [ckRange, if_neg (by omega)]
                    simp only [go_sem, Nat.reduceAdd, Nat.reduceSub, Nat.reduceMul, Nat.reduceDiv, Nat.reduceMod, Nat.reduceLeDiff, Nat.reduceLT, Nat.reduceBEq, Int.reduceToNat, Int.reduceLT, Int.reduceLE, Int.reduceEq, lt_t h2, h1, k1, k2, k3, k4, e, k5, k]
                    rw [wrpS (by omega)], fun _ _ => trivial⟩)
        (fun _ _ => by
          rw [rnd_eq]
          simp only [go_sem, Nat.reduceAdd, Nat.reduceSub, Nat.reduceMul, Nat.reduceDiv, Nat.reduceMod, Nat.reduceLeDiff, Nat.reduceLT, Nat.reduceBEq, Int.reduceToNat, Int.reduceLT, Int.reduceLE, Int.reduceEq, lt_f (Nat.le_refl _)])
      rw [cast_0] at h
      rw [h]
      clear h
      have hm := okRProduct n b l (by omega)
      have e : ∀ l' : Bx, runL (γ := Option (AExit × S)) (fun (_ : Unit) r => if ckRange r = 0 then .inl () else .inr (some (AExit.ret, ⟨[.imm (slD b 2 (l.map enR)), .imm (.int .i64 3), .junk, .junk, .junk, .junk, .junk], [], none⟩))) (fun _ => some (AExit.exit 0, ⟨[.imm (slD b 2 (l.map enR)), .junk, .junk, .junk, .junk, .junk, .junk], [], none⟩)) () l'
          = if fnz (l'.map ckRange) = 0 then some (AExit.exit 0, ⟨[.imm (slD b 2 (l.map enR)), .junk, .junk, .junk, .junk, .junk, .junk], [], none⟩) else some (AExit.ret, ⟨[.imm (slD b 2 (l.map enR)), .imm (.int .i64 3), .junk, .junk, .junk, .junk, .junk], [], none⟩) := by
        intro l'
        induction l' with
        | nil => simp [runL_nil, fnz]
        | cons x r ih =>
          by_cases h0 : ckRange x = 0
          · simp only [runL_cons, h0, if_true, List.map_cons, fnz]; exact ih
          · simp only [runL_cons, h0, if_false, List.map_cons, fnz]
      rw [e]
      have e3 : fnz (l.map ckRange) = 0 ∨ fnz (l.map ckRange) = 3 := by
        clear e hm hl h1 h1' h2 h2'
        induction l with
        | nil => exact .inl rfl
        | cons x r ih =>
          rw [List.map_cons, fnz_cons]
          by_cases h0 : ckRange x = 0
          · rw [if_pos h0]; exact ih
          · rw [if_neg h0]
            right
            unfold ckRange at h0 ⊢
            split
            · rfl
            · rename_i h; rw [if_neg h] at h0; exact absurd rfl h0
      rcases e3 with e3 | e3
      · by_cases h3 : 4096 < many l
        · simp only [go_sem, Nat.reduceAdd, Nat.reduceSub, Nat.reduceMul, Nat.reduceDiv, Nat.reduceMod, Nat.reduceLeDiff, Nat.reduceLT, Nat.reduceBEq, Int.reduceToNat, Int.reduceLT, Int.reduceLE, Int.reduceEq, e3, hm, h3, okQWhen, fnz]
        · simp only [go_sem, Nat.reduceAdd, Nat.reduceSub, Nat.reduceMul, Nat.reduceDiv, Nat.reduceMod, Nat.reduceLeDiff, Nat.reduceLT, Nat.reduceBEq, Int.reduceToNat, Int.reduceLT, Int.reduceLE, Int.reduceEq, e3, hm, h3, okQWhen, fnz]
      · simp only [go_sem, Nat.reduceAdd, Nat.reduceSub, Nat.reduceMul, Nat.reduceDiv, Nat.reduceMod, Nat.reduceLeDiff, Nat.reduceLT, Nat.reduceBEq, Int.reduceToNat, Int.reduceLT, Int.reduceLE, Int.reduceEq, e3, fnz, show ¬ (3 : Int) = 0 by omega]
theorem okRIntersect (n : Nat) (b c : Bool) (l m : Bx) (hl : l.length < 1000000) (hm : l.length ≤ m.length) : callP (level E (n+1)) 30 [enB b l, enB c m] = some (enB true (List.zipWith rmeet l m)) := by
  rw [p30]
  simp only [go_sem, Nat.reduceAdd, Nat.reduceSub, Nat.reduceMul, Nat.reduceDiv, Nat.reduceMod, Nat.reduceLeDiff, Nat.reduceLT, Nat.reduceBEq, Int.reduceToNat, Int.reduceLT, Int.reduceLE, Int.reduceEq]
  have h := loop_fold (f := aCode (level E (n)) ⟨0, false⟩ b30_0) (h := head ⟨0, false⟩ [1, 1, 0, 1, 1, 0, 0, 0]) (Φ := outC ⟨0, false⟩ [0, 0, 0, 1, 0, 0, 0, 0]) l (fun (a : Bx × Bx) i => ⟨[.imm (slD b 2 (l.map enR)), .imm (slD c 2 (m.map enR)), .junk, vK 0 2 (a.1.map enR), .imm (.int .i64 i), .junk, .junk, .junk], oK 2 (a.1.map enR), none⟩) (fun a i => a.1.length = i ∧ m.drop i = a.2)
    (fun a x => (a.1 ++ [rmeet x (a.2.headD ⟨0, 0⟩)], a.2.tail)) (fun a => some (.exit 0, ⟨[.junk, .junk, .junk, vK 0 2 (a.1.map enR), .junk, .junk, .junk, .junk], oK 2 (a.1.map enR), none⟩)) ([], m) ⟨rfl, rfl⟩
    (fun a i x hI h2 h1 => by
      rcases a with ⟨a, _ | ⟨y, t⟩⟩
      · have := drop_n hI.2; omega
      obtain ⟨q1, q2, q3⟩ := drop_c hI.2
      refine ⟨?_, by simp [hI.1], q3⟩
      rw [rnd_eq]
      have e1 : (a.length + 1) * 17 ≤ 70368744177664 := by have hI1 : a.length = i := hI.1; omega
      rcases a with _ | ⟨z, a⟩
      · simp only [go_sem, Nat.reduceAdd, Nat.reduceSub, Nat.reduceMul, Nat.reduceDiv, Nat.reduceMod, Nat.reduceLeDiff, Nat.reduceLT, Nat.reduceBEq, Int.reduceToNat, Int.reduceLT, Int.reduceLE, Int.reduceEq, lt_t h2, h1, q1, vK, oK, rmeet, ad, sb]
        rw [wrpS (by omega), Int.max_comm 0]
      · simp only [List.length_cons] at e1
        simp only [go_sem, Nat.reduceAdd, Nat.reduceSub, Nat.reduceMul, Nat.reduceDiv, Nat.reduceMod, Nat.reduceLeDiff, Nat.reduceLT, Nat.reduceBEq, Int.reduceToNat, Int.reduceLT, Int.reduceLE, Int.reduceEq, lt_t h2, h1, q1, vK, oK, e1, rmeet, ad, sb]
        rw [wrpS (by omega), Int.max_comm 0])
    (fun a _ => by
      rw [rnd_eq]
      rcases a with ⟨_ | ⟨y, t⟩, m⟩ <;> simp only [go_sem, Nat.reduceAdd, Nat.reduceSub, Nat.reduceMul, Nat.reduceDiv, Nat.reduceMod, Nat.reduceLeDiff, Nat.reduceLT, Nat.reduceBEq, Int.reduceToNat, Int.reduceLT, Int.reduceLE, Int.reduceEq, lt_f (Nat.le_refl _), vK, oK])
  rw [cast_0] at h
  simp only [List.map_nil, vK, oK] at h
  rw [h]
  clear h
  generalize hA : (l.foldl (fun (a : Bx × Bx) x => (a.1 ++ [rmeet x (a.2.headD ⟨0, 0⟩)], a.2.tail)) ([], m)).1 = A
  have e := zip_fold rmeet l [] m hm
  rw [hA, List.nil_append] at e
  rw [← e]
  rcases A with _ | ⟨y, t⟩ <;> simp only [go_sem, Nat.reduceAdd, Nat.reduceSub, Nat.reduceMul, Nat.reduceDiv, Nat.reduceMod, Nat.reduceLeDiff, Nat.reduceLT, Nat.reduceBEq, Int.reduceToNat, Int.reduceLT, Int.reduceLE, Int.reduceEq] <;> rfl
def runion (a b : Bx) : Bx := if many b = 0 then a else if many a = 0 then b else List.zipWith rspan a b
theorem okRUnion (n : Nat) (b c : Bool) (l m : Bx) (hl : l.length < 1000000) (hm2 : m.length < 1000000) (hm : l.length ≤ m.length) : callP (level E (n+2)) 31 [enB b l, enB c m] = some (enB true (runion l m)) := by
  rw [p31]
  have m1 := okRProduct n b l (by omega)
  have m2 := okRProduct n c m (by omega)
  have o1 := okOwnBox n b l hl
  have o2 := okOwnBox n c m hm2
  by_cases k1 : many m = 0
  · simp only [go_sem, Nat.reduceAdd, Nat.reduceSub, Nat.reduceMul, Nat.reduceDiv, Nat.reduceMod, Nat.reduceLeDiff, Nat.reduceLT, Nat.reduceBEq, Int.reduceToNat, Int.reduceLT, Int.reduceLE, Int.reduceEq, m2, k1, o1, runion]
  by_cases k2 : many l = 0
  · simp only [go_sem, Nat.reduceAdd, Nat.reduceSub, Nat.reduceMul, Nat.reduceDiv, Nat.reduceMod, Nat.reduceLeDiff, Nat.reduceLT, Nat.reduceBEq, Int.reduceToNat, Int.reduceLT, Int.reduceLE, Int.reduceEq, m1, m2, k1, k2, o2, runion]
  simp only [go_sem, Nat.reduceAdd, Nat.reduceSub, Nat.reduceMul, Nat.reduceDiv, Nat.reduceMod, Nat.reduceLeDiff, Nat.reduceLT, Nat.reduceBEq, Int.reduceToNat, Int.reduceLT, Int.reduceLE, Int.reduceEq, m1, m2, k1, k2, runion]
  have h := loop_fold (f := aCode (level E (n+1)) ⟨0, false⟩ b31_0) (h := head ⟨0, false⟩ [1, 1, 0, 1, 1, 0, 0, 0, 0, 0]) (Φ := outC ⟨0, false⟩ [0, 0, 0, 1, 0, 0, 0, 0, 0, 0]) l (fun (a : Bx × Bx) i => ⟨[.imm (slD b 2 (l.map enR)), .imm (slD c 2 (m.map enR)), .junk, vK 0 2 (a.1.map enR), .imm (.int .i64 i), .junk, .junk, .junk, .junk, .junk], oK 2 (a.1.map enR), none⟩) (fun a i => a.1.length = i ∧ m.drop i = a.2)
    (fun a x => (a.1 ++ [rspan x (a.2.headD ⟨0, 0⟩)], a.2.tail)) (fun a => some (.exit 0, ⟨[.junk, .junk, .junk, vK 0 2 (a.1.map enR), .junk, .junk, .junk, .junk, .junk, .junk], oK 2 (a.1.map enR), none⟩)) ([], m) ⟨rfl, rfl⟩
    (fun a i x hI h2 h1 => by
      rcases a with ⟨a, _ | ⟨y, t⟩⟩
      · have := drop_n hI.2; omega
      obtain ⟨q1, q2, q3⟩ := drop_c hI.2
      refine ⟨?_, by simp [hI.1], q3⟩
      rw [rnd_eq]
      have e1 : (a.length + 1) * 17 ≤ 70368744177664 := by have hI1 : a.length = i := hI.1; omega
      rcases a with _ | ⟨z, a⟩
      · simp only [go_sem, Nat.reduceAdd, Nat.reduceSub, Nat.reduceMul, Nat.reduceDiv, Nat.reduceMod, Nat.reduceLeDiff, Nat.reduceLT, Nat.reduceBEq, Int.reduceToNat, Int.reduceLT, Int.reduceLE, Int.reduceEq, lt_t h2, h1, q1, vK, oK, rspan, ad, sb]
        rw [wrpS (by omega)]
      · simp only [List.length_cons] at e1
        simp only [go_sem, Nat.reduceAdd, Nat.reduceSub, Nat.reduceMul, Nat.reduceDiv, Nat.reduceMod, Nat.reduceLeDiff, Nat.reduceLT, Nat.reduceBEq, Int.reduceToNat, Int.reduceLT, Int.reduceLE, Int.reduceEq, lt_t h2, h1, q1, vK, oK, e1, rspan, ad, sb]
        rw [wrpS (by omega)])
    (fun a _ => by
      rw [rnd_eq]
      rcases a with ⟨_ | ⟨y, t⟩, m⟩ <;> simp only [go_sem, Nat.reduceAdd, Nat.reduceSub, Nat.reduceMul, Nat.reduceDiv, Nat.reduceMod, Nat.reduceLeDiff, Nat.reduceLT, Nat.reduceBEq, Int.reduceToNat, Int.reduceLT, Int.reduceLE, Int.reduceEq, lt_f (Nat.le_refl _), vK, oK])
  rw [cast_0] at h
  simp only [List.map_nil, vK, oK] at h
  rw [h]
  clear h
  generalize hA : (l.foldl (fun (a : Bx × Bx) x => (a.1 ++ [rspan x (a.2.headD ⟨0, 0⟩)], a.2.tail)) ([], m)).1 = A
  have e := zip_fold rspan l [] m hm
  rw [hA, List.nil_append] at e
  rw [← e]
  rcases A with _ | ⟨y, t⟩ <;> simp only [go_sem, Nat.reduceAdd, Nat.reduceSub, Nat.reduceMul, Nat.reduceDiv, Nat.reduceMod, Nat.reduceLeDiff, Nat.reduceLT, Nat.reduceBEq, Int.reduceToNat, Int.reduceLT, Int.reduceLE, Int.reduceEq] <;> rfl
theorem okSameBox (n : Nat) (b c : Bool) (l : Bx) (hl : l.length < 1000000000) : callP (level E (n+1)) 32 [enB b l, enB c l] = some (.bool true) := by
  rw [p32]
  simp only [go_sem, Nat.reduceAdd, Nat.reduceSub, Nat.reduceMul, Nat.reduceDiv, Nat.reduceMod, Nat.reduceLeDiff, Nat.reduceLT, Nat.reduceBEq, Int.reduceToNat, Int.reduceLT, Int.reduceLE, Int.reduceEq, ne_eq, not_true_eq_false]
  have h := loop_fold (f := aCode (level E (n)) ⟨0, false⟩ b32_0) (h := head ⟨0, false⟩ [1, 1, 0, 1, 0, 0, 0]) (Φ := outC ⟨0, false⟩ [0, 0, 1, 0, 0, 0, 0]) l (fun (a : Unit) i => ⟨[.imm (slD b 2 (l.map enR)), .imm (slD c 2 (l.map enR)), .junk, .imm (.int .i64 i), .junk, .junk, .junk], [], none⟩) (fun _ _ => True)
    (fun a x => ()) (fun a => some (.exit 0, ⟨[.junk, .junk, .junk, .junk, .junk, .junk, .junk], [], none⟩)) () trivial
    (fun a i x hI h2 h1 => by
      refine ⟨?_, trivial⟩
      rw [rnd_eq]
      simp only [go_sem, Nat.reduceAdd, Nat.reduceSub, Nat.reduceMul, Nat.reduceDiv, Nat.reduceMod, Nat.reduceLeDiff, Nat.reduceLT, Nat.reduceBEq, Int.reduceToNat, Int.reduceLT, Int.reduceLE, Int.reduceEq, lt_t h2, h1, aEq, eqL, eqE, intEq, beq_self_eq_true]
      rw [wrpS (by omega)])
    (fun a _ => by
      rw [rnd_eq]
      simp only [go_sem, Nat.reduceAdd, Nat.reduceSub, Nat.reduceMul, Nat.reduceDiv, Nat.reduceMod, Nat.reduceLeDiff, Nat.reduceLT, Nat.reduceBEq, Int.reduceToNat, Int.reduceLT, Int.reduceLE, Int.reduceEq, lt_f (Nat.le_refl _)])
  rw [cast_0] at h
  rw [h]
  simp only [go_sem, Nat.reduceAdd, Nat.reduceSub, Nat.reduceMul, Nat.reduceDiv, Nat.reduceMod, Nat.reduceLeDiff, Nat.reduceLT, Nat.reduceBEq, Int.reduceToNat, Int.reduceLT, Int.reduceLE, Int.reduceEq]
end Go.Vm.P4D

/- Chapter 04: the law ImageUnions, given the examples. -/
set_option maxRecDepth 100000
set_option maxHeartbeats 1000000
namespace Go.Vm.P4D
open Go Go.Vm Go.Vm.P4
theorem ckBoth0 {a b : Bx} (h : ckBoth a b = 0) : ckBox a = 0 ∧ ckBox b = 0 ∧ a.length = b.length ∧ a ≠ [] ∧ b ≠ [] := by
  have h1 := fz0 _ h (ckBox a) (by simp)
  have h2 := fz0 _ h (ckBox b) (by simp)
  have h3 := fz0 _ h (if a.length = b.length then 0 else 13) (by simp)
  refine ⟨h1, h2, ?_, ?_, ?_⟩
  · split at h3
    · assumption
    · omega
  · rintro rfl; simp [ckBox] at h1
  · rintro rfl; simp [ckBox] at h2
theorem okImageUnions (n : Nat) (hA : callP (level E (n+60)) 9 [] = some (.bool true)) (b c : Bool) (l m : Bx) : callP (level E (n+61)) 4 [enB b l, enB c m] = some (.bool true) := by
  rw [p4]
  have s1 := okShortBox (n+59) b l
  have s2 := okShortBox (n+59) c m
  cases hs1 : (decide (l.length ≤ 4) && decide (shortN l ≤ 64)) with
  | false =>
    rw [hs1] at s1
    simp only [go_sem, Nat.reduceAdd, Nat.reduceSub, Nat.reduceMul, Nat.reduceDiv, Nat.reduceMod, Nat.reduceLeDiff, Nat.reduceLT, Nat.reduceBEq, Int.reduceToNat, Int.reduceLT, Int.reduceLE, Int.reduceEq, s1, hA]
  | true =>
    rw [hs1] at s1
    cases hs2 : (decide (m.length ≤ 4) && decide (shortN m ≤ 64)) with
    | false =>
      rw [hs2] at s2
      simp only [go_sem, Nat.reduceAdd, Nat.reduceSub, Nat.reduceMul, Nat.reduceDiv, Nat.reduceMod, Nat.reduceLeDiff, Nat.reduceLT, Nat.reduceBEq, Int.reduceToNat, Int.reduceLT, Int.reduceLE, Int.reduceEq, s1, s2, hA]
    | true =>
      rw [hs2] at s2
      have hl : l.length < 1000000 := by simp at hs1; omega
      have hm : m.length < 1000000 := by simp at hs2; omega
      have o1 := okOwnBox (n+59) b l hl
      have o2 := okOwnBox (n+59) c m hm
      have i1 := okIntersect (n+54) true true l m hl hm (fun h => (ckBoth0 h).2.2.1)
      have u1 := okUnion (n+54) true true l m hl hm (fun h => (ckBoth0 h).2.2)
      have c1 := okRCheckBox (n+58) b l hl
      have c2 := okRCheckBox (n+58) c m hm
      have hf := okQFirstL (n+59) [[.int .i64 (ckBox l)], [.int .i64 (ckBox m)], [.int .i64 (if l.length = m.length then 0 else 13)]] [ckBox l, ckBox m, if l.length = m.length then 0 else 13] rfl (by simp)
      have hw : callP (level E (n+60)) 29 [.bool (decide (¬ (l.length : Int) = m.length)), .int .i64 13] = some (.int .i64 (if l.length = m.length then 0 else 13)) := by
        rw [okQWhen (n+59)]
        by_cases h : l.length = m.length
        · simp [h]
        · have : ¬ (l.length : Int) = m.length := by omega
          simp [h, this]
      by_cases h0 : ckBoth l m = 0
      · obtain ⟨k1, k2, k3, k4, k5⟩ := ckBoth0 h0
        have ri := okRIntersect (n+59) b c l m hl (Nat.le_of_eq k3)
        have ru := okRUnion (n+58) b c l m hl hm (Nat.le_of_eq k3)
        have e0 : fnz [ckBox l, ckBox m, if l.length = m.length then 0 else 13] = 0 := h0
        rw [e0, k1, k2, if_pos k3] at hf
        rw [k1] at c1
        rw [k2] at c2
        rw [if_pos k3] at hw
        rw [h0, interD, if_pos h0] at i1
        have sb1 := okSameBox (n+59) true true (List.zipWith rmeet l m) (by simp; omega)
        rw [unionD, if_pos h0] at u1
        have hlu : (runion l m).length < 1000000 := by
          unfold runion; split
          · exact hl
          · split
            · exact hm
            · simp; omega
        have cu := okRCheckBox (n+58) true (runion l m) hlu
        by_cases hb : many m = 0
        · rw [if_pos hb] at u1
          have e1 : runion l m = l := by rw [runion, if_pos hb]
          rw [e1] at ru cu
          have sb2 := okSameBox (n+59) false true l (by omega)
          simp only [go_sem, Nat.reduceAdd, Nat.reduceSub, Nat.reduceMul, Nat.reduceDiv, Nat.reduceMod, Nat.reduceLeDiff, Nat.reduceLT, Nat.reduceBEq, Int.reduceToNat, Int.reduceLT, Int.reduceLE, Int.reduceEq, s1, s2, o1, o2, i1, u1, c1, c2, hw, hf, ri, ru, cu, k1, ne_eq, not_true_eq_false, okQWhen, sb1, sb2, hA, Bool.false_eq_true]
        · rw [if_neg hb] at u1
          by_cases ha : many l = 0
          · rw [if_pos ha] at u1
            have e1 : runion l m = m := by rw [runion, if_neg hb, if_pos ha]
            rw [e1] at ru cu
            have sb2 := okSameBox (n+59) false true m (by omega)
            simp only [go_sem, Nat.reduceAdd, Nat.reduceSub, Nat.reduceMul, Nat.reduceDiv, Nat.reduceMod, Nat.reduceLeDiff, Nat.reduceLT, Nat.reduceBEq, Int.reduceToNat, Int.reduceLT, Int.reduceLE, Int.reduceEq, s1, s2, o1, o2, i1, u1, c1, c2, hw, hf, ri, ru, cu, k2, ne_eq, not_true_eq_false, okQWhen, sb1, sb2, hA, Bool.false_eq_true]
          · rw [if_neg ha] at u1
            have e1 : runion l m = List.zipWith rspan l m := by rw [runion, if_neg hb, if_neg ha]
            rw [e1] at ru cu
            by_cases hc : ckBox (List.zipWith rspan l m) = 0
            · rw [if_pos hc] at u1
              have sb2 := okSameBox (n+59) true true (List.zipWith rspan l m) (by simp; omega)
              simp only [go_sem, Nat.reduceAdd, Nat.reduceSub, Nat.reduceMul, Nat.reduceDiv, Nat.reduceMod, Nat.reduceLeDiff, Nat.reduceLT, Nat.reduceBEq, Int.reduceToNat, Int.reduceLT, Int.reduceLE, Int.reduceEq, s1, s2, o1, o2, i1, u1, c1, c2, hw, hf, ri, ru, cu, hc, ne_eq, not_true_eq_false, okQWhen, sb1, sb2, hA, Bool.false_eq_true]
            · rw [if_neg hc] at u1
              have sb2 : callP (level E (n+60)) 32 [.nil, .nil] = some (.bool true) := okSameBox (n+59) true true [] (by simp)
              simp only [go_sem, Nat.reduceAdd, Nat.reduceSub, Nat.reduceMul, Nat.reduceDiv, Nat.reduceMod, Nat.reduceLeDiff, Nat.reduceLT, Nat.reduceBEq, Int.reduceToNat, Int.reduceLT, Int.reduceLE, Int.reduceEq, s1, s2, o1, o2, i1, u1, c1, c2, hw, hf, ri, ru, cu, hc, ne_eq, not_true_eq_false, not_false_eq_true, okQWhen, sb1, sb2, hA, Bool.false_eq_true]
              done
      · have e0 : fnz [ckBox l, ckBox m, if l.length = m.length then 0 else 13] = ckBoth l m := rfl
        rw [e0] at hf
        rw [interD, if_neg h0] at i1
        rw [unionD, if_neg h0] at u1
        dsimp only at u1
        have sb2 : callP (level E (n+60)) 32 [.nil, .nil] = some (.bool true) := okSameBox (n+59) true true [] (by simp)
        simp only [go_sem, Nat.reduceAdd, Nat.reduceSub, Nat.reduceMul, Nat.reduceDiv, Nat.reduceMod, Nat.reduceLeDiff, Nat.reduceLT, Nat.reduceBEq, Int.reduceToNat, Int.reduceLT, Int.reduceLE, Int.reduceEq, s1, s2, o1, o2, i1, u1, c1, c2, hw, hf, h0, sb2, hA]
        done
end Go.Vm.P4D

/- Chapter 04, functions: the points of a box, one after the other. -/
set_option maxRecDepth 100000
set_option maxHeartbeats 2000000
namespace Go.Vm.P4D
open Go Go.Vm Go.Vm.P4
def nextW : Bx → List Int → List Int
  | r :: b, x :: p => if ad x 1 < ad r.lo r.ex then ad x 1 :: p else r.lo :: nextW b p
  | _, p => p
def plc0 (l : Bx) : List Int := (l.map Rg.lo ++ [0, 0, 0]).take 3
def plc (l : Bx) : Nat → List Int
  | 0 => plc0 l
  | i + 1 => nextW l (plc l i)
theorem nextW_len : ∀ (l : Bx) (p : List Int), (nextW l p).length = p.length
  | [], p => by simp [nextW]
  | r :: b, [] => by simp [nextW]
  | r :: b, x :: p => by
    unfold nextW; split
    · simp
    · simp [nextW_len b p]
theorem plc_len (l : Bx) : ∀ i, (plc l i).length = 3
  | 0 => by simp [plc, plc0]
  | i + 1 => by rw [plc, nextW_len, plc_len l i]
abbrev cI (p : List Int) : List AV := p.map (fun x => AV.imm (.int .i64 x))
theorem slD_c {b : Bool} {sz : Nat} {x : List D} {r : List (List D)} : slD b sz (x :: r) = .sl sz (x :: r) := by cases b <;> rfl
theorem iL_cI : ∀ p : List Int, idsL (p.map (fun x => AV.imm (.int .i64 x))) = []
  | [] => rfl
  | x :: p => by simp only [List.map_cons, iL_cons, id_imm, iL_cI p, List.append_nil]
theorem rL_cI (f : Nat → Option Nat) : ∀ p : List Int, renL f (p.map (fun x => AV.imm (.int .i64 x))) = p.map (fun x => AV.imm (.int .i64 x))
  | [] => rfl
  | x :: p => by simp only [List.map_cons, rL_cons, rn_imm, rL_cI f p]
theorem okNext (n : Nat) (b : Bool) (l : Bx) (p : List Int) (q : List Int) (tot i : D) (e : Ext) (hl : l.length ≤ 3) (hp : p.length = 3) (hq : q = plc0 l) :
    outC ⟨0, false⟩ [1, 1, 0, 1, 1, 0, 0, 0, 0, 0, 0, 0, 0, 0, 1, 1, 0, 0, 0, 0, 0, 0, 0] (rnd (aCode (level E n) ⟨0, false⟩ b95_1) (head ⟨0, false⟩ [1, 1, 0, 1, 1, 0, 0, 0, 0, 0, 0, 0, 0, 0, 1, 1, 0, 0, 1, 1, 1, 0, 0])
      ⟨[.yield, .imm (.ptr [enB b l]), .junk, .ptr 0 0, .ptr 1 0, .junk, .junk, .junk, .junk, .junk, .junk, .junk, .junk, .junk, .imm tot, .imm i, .junk, .junk, .imm (enB b l), .imm (.int .i64 l.length), .imm (.int .i64 0), .junk, .junk], [.box (cI p), .box (cI q)], some e⟩) =
    some (.exit 4, ⟨[.yield, .imm (.ptr [enB b l]), .junk, .ptr 0 0, .ptr 1 0, .junk, .junk, .junk, .junk, .junk, .junk, .junk, .junk, .junk, .imm tot, .imm i, .junk, .junk, .junk, .junk, .junk, .junk, .junk], [.box (cI (nextW l p)), .box (cI q)], some e⟩) := by
  obtain ⟨x, y, z, rfl⟩ : ∃ x y z, p = [x, y, z] := by
    match p, hp with
    | [x, y, z], _ => exact ⟨x, y, z, rfl⟩
  subst hq
  have i0 : (0 : Int) < ((3 : Nat) : Int) := by decide
  have i1 : (1 : Int) < ((3 : Nat) : Int) := by decide
  have i2 : (2 : Int) < ((3 : Nat) : Int) := by decide
  have j1 : ((1 : Nat) : Int) = 1 := rfl
  have j2 : ((2 : Nat) : Int) = 2 := rfl
  have j3 : ((3 : Nat) : Int) = 3 := rfl
  rcases l with _ | ⟨r, _ | ⟨s, _ | ⟨t, _ | ⟨u, l⟩⟩⟩⟩
  · simp only [go_sem, Nat.reduceAdd, Nat.reduceSub, Nat.reduceMul, Nat.reduceDiv, Nat.reduceMod, Nat.reduceLeDiff, Nat.reduceLT, Nat.reduceBEq, Int.reduceToNat, Int.reduceLT, Int.reduceLE, Int.reduceEq, rnd_eq, nextW, cI, plc0]
  · by_cases h0 : ad x 1 < ad r.lo r.ex
    · have h0' := h0
      unfold ad at h0'
      simp only [go_sem, Nat.reduceAdd, Nat.reduceSub, Nat.reduceMul, Nat.reduceDiv, Nat.reduceMod, Nat.reduceLeDiff, Nat.reduceLT, Nat.reduceBEq, Int.reduceToNat, Int.reduceLT, Int.reduceLE, Int.reduceEq, rnd_eq, nextW, h0, h0', cI, plc0, i0, i1, i2, j1, j2, j3, ad, enB, slD_c, ia_sl]
    have h0' := h0
    unfold ad at h0'
    simp only [go_sem, Nat.reduceAdd, Nat.reduceSub, Nat.reduceMul, Nat.reduceDiv, Nat.reduceMod, Nat.reduceLeDiff, Nat.reduceLT, Nat.reduceBEq, Int.reduceToNat, Int.reduceLT, Int.reduceLE, Int.reduceEq, rnd_eq, nextW, h0, h0', cI, plc0, i0, i1, i2, j1, j2, j3, ad, enB, slD_c, ia_sl]
  · by_cases h0 : ad x 1 < ad r.lo r.ex
    · have h0' := h0
      unfold ad at h0'
      simp only [go_sem, Nat.reduceAdd, Nat.reduceSub, Nat.reduceMul, Nat.reduceDiv, Nat.reduceMod, Nat.reduceLeDiff, Nat.reduceLT, Nat.reduceBEq, Int.reduceToNat, Int.reduceLT, Int.reduceLE, Int.reduceEq, rnd_eq, nextW, h0, h0', cI, plc0, i0, i1, i2, j1, j2, j3, ad, enB, slD_c, ia_sl]
    have h0' := h0
    unfold ad at h0'
    by_cases h1 : ad y 1 < ad s.lo s.ex
    · have h1' := h1
      unfold ad at h1'
      simp only [go_sem, Nat.reduceAdd, Nat.reduceSub, Nat.reduceMul, Nat.reduceDiv, Nat.reduceMod, Nat.reduceLeDiff, Nat.reduceLT, Nat.reduceBEq, Int.reduceToNat, Int.reduceLT, Int.reduceLE, Int.reduceEq, rnd_eq, nextW, h0, h0', h1, h1', cI, plc0, i0, i1, i2, j1, j2, j3, ad, enB, slD_c, ia_sl]
    have h1' := h1
    unfold ad at h1'
    simp only [go_sem, Nat.reduceAdd, Nat.reduceSub, Nat.reduceMul, Nat.reduceDiv, Nat.reduceMod, Nat.reduceLeDiff, Nat.reduceLT, Nat.reduceBEq, Int.reduceToNat, Int.reduceLT, Int.reduceLE, Int.reduceEq, rnd_eq, nextW, h0, h0', h1, h1', cI, plc0, i0, i1, i2, j1, j2, j3, ad, enB, slD_c, ia_sl]
  · by_cases h0 : ad x 1 < ad r.lo r.ex
    · have h0' := h0
      unfold ad at h0'
      simp only [go_sem, Nat.reduceAdd, Nat.reduceSub, Nat.reduceMul, Nat.reduceDiv, Nat.reduceMod, Nat.reduceLeDiff, Nat.reduceLT, Nat.reduceBEq, Int.reduceToNat, Int.reduceLT, Int.reduceLE, Int.reduceEq, rnd_eq, nextW, h0, h0', cI, plc0, i0, i1, i2, j1, j2, j3, ad, enB, slD_c, ia_sl]
    have h0' := h0
    unfold ad at h0'
    by_cases h1 : ad y 1 < ad s.lo s.ex
    · have h1' := h1
      unfold ad at h1'
      simp only [go_sem, Nat.reduceAdd, Nat.reduceSub, Nat.reduceMul, Nat.reduceDiv, Nat.reduceMod, Nat.reduceLeDiff, Nat.reduceLT, Nat.reduceBEq, Int.reduceToNat, Int.reduceLT, Int.reduceLE, Int.reduceEq, rnd_eq, nextW, h0, h0', h1, h1', cI, plc0, i0, i1, i2, j1, j2, j3, ad, enB, slD_c, ia_sl]
    have h1' := h1
    unfold ad at h1'
    by_cases h2 : ad z 1 < ad t.lo t.ex
    · have h2' := h2
      unfold ad at h2'
      simp only [go_sem, Nat.reduceAdd, Nat.reduceSub, Nat.reduceMul, Nat.reduceDiv, Nat.reduceMod, Nat.reduceLeDiff, Nat.reduceLT, Nat.reduceBEq, Int.reduceToNat, Int.reduceLT, Int.reduceLE, Int.reduceEq, rnd_eq, nextW, h0, h0', h1, h1', h2, h2', cI, plc0, i0, i1, i2, j1, j2, j3, ad, enB, slD_c, ia_sl]
    have h2' := h2
    unfold ad at h2'
    simp only [go_sem, Nat.reduceAdd, Nat.reduceSub, Nat.reduceMul, Nat.reduceDiv, Nat.reduceMod, Nat.reduceLeDiff, Nat.reduceLT, Nat.reduceBEq, Int.reduceToNat, Int.reduceLT, Int.reduceLE, Int.reduceEq, rnd_eq, nextW, h0, h0', h1, h1', h2, h2', cI, plc0, i0, i1, i2, j1, j2, j3, ad, enB, slD_c, ia_sl]
  · simp at hl
end Go.Vm.P4D

/- Chapter 04, functions: the loop over the points of a box. -/
set_option maxRecDepth 100000
set_option maxHeartbeats 2000000
namespace Go.Vm.P4D
open Go Go.Vm Go.Vm.P4
theorem okBegin (n : Nat) (b : Bool) (l : Bx) (tot : D) (e : Ext) (hl : l.length ≤ 3) :
    outC ⟨0, false⟩ [1, 1, 1, 1, 1, 0, 0, 0, 0, 0, 0, 0, 0, 0, 0, 0, 0, 0, 0, 0, 0, 0, 0] (rnd (aCode (level E n) ⟨0, false⟩ b95_0) (head ⟨0, false⟩ [1, 1, 1, 1, 1, 0, 0, 0, 0, 0, 1, 1, 1, 0, 0, 0, 0, 0, 0, 0, 0, 0, 0])
      ⟨[.yield, .imm (.ptr [enB b l]), .imm tot, .ptr 0 0, .ptr 1 0, .junk, .junk, .junk, .junk, .junk, .imm (enB b l), .imm (.int .i64 l.length), .imm (.int .i64 0), .junk, .junk, .junk, .junk, .junk, .junk, .junk, .junk, .junk, .junk], [.box (cI [0, 0, 0]), .box (cI [0, 0, 0])], some e⟩) =
    some (.exit 0, ⟨[.yield, .imm (.ptr [enB b l]), .imm tot, .ptr 0 0, .ptr 1 0, .junk, .junk, .junk, .junk, .junk, .junk, .junk, .junk, .junk, .junk, .junk, .junk, .junk, .junk, .junk, .junk, .junk, .junk], [.box (cI [0, 0, 0]), .box (cI (plc0 l))], some e⟩) := by
  have i0 : (0 : Int) < ((3 : Nat) : Int) := by decide
  have i1 : (1 : Int) < ((3 : Nat) : Int) := by decide
  have i2 : (2 : Int) < ((3 : Nat) : Int) := by decide
  have j1 : ((1 : Nat) : Int) = 1 := rfl
  have j2 : ((2 : Nat) : Int) = 2 := rfl
  have j3 : ((3 : Nat) : Int) = 3 := rfl
  rcases l with _ | ⟨r, _ | ⟨s, _ | ⟨t, _ | ⟨u, l⟩⟩⟩⟩
  · simp only [go_sem, Nat.reduceAdd, Nat.reduceSub, Nat.reduceMul, Nat.reduceDiv, Nat.reduceMod, Nat.reduceLeDiff, Nat.reduceLT, Nat.reduceBEq, Int.reduceToNat, Int.reduceLT, Int.reduceLE, Int.reduceEq, rnd_eq, cI, plc0]
  · simp only [go_sem, Nat.reduceAdd, Nat.reduceSub, Nat.reduceMul, Nat.reduceDiv, Nat.reduceMod, Nat.reduceLeDiff, Nat.reduceLT, Nat.reduceBEq, Int.reduceToNat, Int.reduceLT, Int.reduceLE, Int.reduceEq, rnd_eq, cI, plc0, i0, i1, i2, j1, j2, j3, enB, slD_c, ia_sl]
  · simp only [go_sem, Nat.reduceAdd, Nat.reduceSub, Nat.reduceMul, Nat.reduceDiv, Nat.reduceMod, Nat.reduceLeDiff, Nat.reduceLT, Nat.reduceBEq, Int.reduceToNat, Int.reduceLT, Int.reduceLE, Int.reduceEq, rnd_eq, cI, plc0, i0, i1, i2, j1, j2, j3, enB, slD_c, ia_sl]
  · simp only [go_sem, Nat.reduceAdd, Nat.reduceSub, Nat.reduceMul, Nat.reduceDiv, Nat.reduceMod, Nat.reduceLeDiff, Nat.reduceLT, Nat.reduceBEq, Int.reduceToNat, Int.reduceLT, Int.reduceLE, Int.reduceEq, rnd_eq, cI, plc0, i0, i1, i2, j1, j2, j3, enB, slD_c, ia_sl]
  · simp at hl
theorem getRange {N i x : Nat} (h : (List.range N)[i]? = some x) : x = i := by
  obtain ⟨h1, h2⟩ := List.getElem?_eq_some_iff.1 h
  simpa using h2.symm
theorem okAll1 {β : Type} (n : Nat) (b : Bool) (l : Bx) (hl : l.length ≤ 3) (N : Nat) (hN : many l = N) (hN2 : N < 1000000000) (St : β → Ext) (I : β → Nat → Prop) (g : β → Nat → β ⊕ Ext) (a0 : β) (h0 : I a0 0)
    (hr : ∀ a i, I a i → i < N → ((level E (n+1)).round (St a) [.int .i64 (i : Int), enP (plc l i)] = match g a i with | .inl a' => some (St a', true) | .inr e => some (e, false)) ∧ ∀ a', g a i = .inl a' → I a' (i + 1)) :
    (level E (n+2)).call 95 [.yield, .imm (.ptr [enB b l])] [] (some (St a0)) = some (.imm (.tup []), [], some (runL g St a0 (List.range N))) := by
  have e : (level E (n+2)).call 95 [.yield, .imm (.ptr [enB b l])] [] (some (St a0)) = fin [] (aCode (level E (n+1)) ⟨0, false⟩ c95 ⟨[.yield, .imm (.ptr [enB b l]), .junk, .junk, .junk, .junk, .junk, .junk, .junk, .junk, .junk, .junk, .junk, .junk, .junk, .junk, .junk, .junk, .junk, .junk, .junk, .junk, .junk], [], some (St a0)⟩) := call_go e95 rfl rfl rfl rfl
  rw [e]
  have hm := okMany n b l (by omega)
  have hb := okBegin (n+1) b l (.int .i64 (many l)) (St a0) hl
  simp only [cI, List.map_cons, List.map_nil] at hb
  simp only [go_sem, Nat.reduceAdd, Nat.reduceSub, Nat.reduceMul, Nat.reduceDiv, Nat.reduceMod, Nat.reduceLeDiff, Nat.reduceLT, Nat.reduceBEq, Int.reduceToNat, Int.reduceLT, Int.reduceLE, Int.reduceEq, hm]
  rw [hb]
  obtain ⟨u, v, w, hq⟩ : ∃ u v w, plc0 l = [u, v, w] := by
    match hh : plc0 l, (show (plc0 l).length = 3 from plc_len l 0) with
    | [u, v, w], _ => exact ⟨u, v, w, rfl⟩
  simp only [go_sem, Nat.reduceAdd, Nat.reduceSub, Nat.reduceMul, Nat.reduceDiv, Nat.reduceMod, Nat.reduceLeDiff, Nat.reduceLT, Nat.reduceBEq, Int.reduceToNat, Int.reduceLT, Int.reduceLE, Int.reduceEq, hq, cI]
  have h := loop_run (f := aCode (level E (n+1)) ⟨0, false⟩ b95_2) (h := head ⟨0, false⟩ [1, 1, 0, 1, 1, 0, 0, 0, 0, 0, 0, 0, 0, 0, 1, 1, 0, 0, 0, 0, 0, 0, 0]) (Φ := outC ⟨0, false⟩ [0, 0, 0, 0, 0, 0, 0, 0, 0, 0, 0, 0, 0, 0, 0, 0, 0, 0, 0, 0, 0, 0, 0]) (List.range N) (fun (a : β) i => ⟨[.yield, .imm (.ptr [enB b l]), .junk, .ptr 0 0, .ptr 1 0, .junk, .junk, .junk, .junk, .junk, .junk, .junk, .junk, .junk, .imm (.int .i64 (many l)), .imm (.int .i64 i), .junk, .junk, .junk, .junk, .junk, .junk, .junk], [.box (cI (plc l i)), .box (cI [u, v, w])], some (St a)⟩) I
    (fun a i => match g a i with | .inl a' => .inl a' | .inr e => .inr (some (.ret, ⟨[.junk, .junk, .junk, .junk, .junk, .junk, .junk, .junk, .junk, .junk, .junk, .junk, .junk, .junk, .junk, .junk, .junk, .junk, .junk, .junk, .junk, .junk, .junk], [], some e⟩))) (fun a => some (.exit 2, ⟨[.junk, .junk, .junk, .junk, .junk, .junk, .junk, .junk, .junk, .junk, .junk, .junk, .junk, .junk, .junk, .junk, .junk, .junk, .junk, .junk, .junk, .junk, .junk], [], some (St a)⟩)) a0 h0
    (fun a i j hI h2 h1 => by
      have := getRange h1
      subst this
      rw [List.length_range] at h2
      obtain ⟨k1, k2⟩ := hr a j hI h2
      obtain ⟨x, y, z, hp⟩ : ∃ x y z, plc l j = [x, y, z] := by
        match hh : plc l j, plc_len l j with
        | [x, y, z], _ => exact ⟨x, y, z, rfl⟩
      have hx := fun e => okNext (n+1) b l [x, y, z] [u, v, w] (.int .i64 (many l)) (.int .i64 (j : Int)) e hl rfl hq.symm
      rw [hp] at k1 ⊢
      simp only [enP, List.map_cons, List.map_nil] at k1
      have hlt : (j : Int) < many l := by omega
      rw [rnd_eq]
      cases hg : g a j with
      | inl a' =>
        rw [hg] at k1
        dsimp only at k1
        refine ⟨?_, fun b hb => by injection hb with hb; subst hb; exact k2 a' hg⟩
        simp only [cI, List.map_cons, List.map_nil] at hx
        simp only [go_sem, Nat.reduceAdd, Nat.reduceSub, Nat.reduceMul, Nat.reduceDiv, Nat.reduceMod, Nat.reduceLeDiff, Nat.reduceLT, Nat.reduceBEq, Int.reduceToNat, Int.reduceLT, Int.reduceLE, Int.reduceEq, hlt, k1, cI]
        rw [hx]
        simp only [go_sem, Nat.reduceAdd, Nat.reduceSub, Nat.reduceMul, Nat.reduceDiv, Nat.reduceMod, Nat.reduceLeDiff, Nat.reduceLT, Nat.reduceBEq, Int.reduceToNat, Int.reduceLT, Int.reduceLE, Int.reduceEq, plc, hp, iL_cI, rL_cI]
        rw [wrpS (by omega)]
      | inr e =>
        rw [hg] at k1
        dsimp only at k1
        refine ⟨?_, fun b hb => by cases hb⟩
        simp only [go_sem, Nat.reduceAdd, Nat.reduceSub, Nat.reduceMul, Nat.reduceDiv, Nat.reduceMod, Nat.reduceLeDiff, Nat.reduceLT, Nat.reduceBEq, Int.reduceToNat, Int.reduceLT, Int.reduceLE, Int.reduceEq, hlt, k1, cI])
    (fun a _ => by
      rw [rnd_eq]
      rw [List.length_range]
      obtain ⟨x, y, z, hp⟩ : ∃ x y z, plc l N = [x, y, z] := by
        match hh : plc l N, plc_len l N with
        | [x, y, z], _ => exact ⟨x, y, z, rfl⟩
      have hlt : ¬ (N : Int) < many l := by omega
      simp only [go_sem, Nat.reduceAdd, Nat.reduceSub, Nat.reduceMul, Nat.reduceDiv, Nat.reduceMod, Nat.reduceLeDiff, Nat.reduceLT, Nat.reduceBEq, Int.reduceToNat, Int.reduceLT, Int.reduceLE, Int.reduceEq, hlt, hp, cI])
  rw [cast_0] at h
  simp only [plc, hq, cI, List.map_cons, List.map_nil] at h
  rw [h]
  clear h
  have k : ∀ (r : List Nat) (a : β), runL (γ := Option (AExit × S)) (fun a i => match g a i with | .inl a' => .inl a' | .inr e => .inr (some (.ret, ⟨[.junk, .junk, .junk, .junk, .junk, .junk, .junk, .junk, .junk, .junk, .junk, .junk, .junk, .junk, .junk, .junk, .junk, .junk, .junk, .junk, .junk, .junk, .junk], [], some e⟩))) (fun a => some (.exit 2, ⟨[.junk, .junk, .junk, .junk, .junk, .junk, .junk, .junk, .junk, .junk, .junk, .junk, .junk, .junk, .junk, .junk, .junk, .junk, .junk, .junk, .junk, .junk, .junk], [], some (St a)⟩)) a r = some (.ret, ⟨[.junk, .junk, .junk, .junk, .junk, .junk, .junk, .junk, .junk, .junk, .junk, .junk, .junk, .junk, .junk, .junk, .junk, .junk, .junk, .junk, .junk, .junk, .junk], [], some (runL g St a r)⟩) ∨
      runL (γ := Option (AExit × S)) (fun a i => match g a i with | .inl a' => .inl a' | .inr e => .inr (some (.ret, ⟨[.junk, .junk, .junk, .junk, .junk, .junk, .junk, .junk, .junk, .junk, .junk, .junk, .junk, .junk, .junk, .junk, .junk, .junk, .junk, .junk, .junk, .junk, .junk], [], some e⟩))) (fun a => some (.exit 2, ⟨[.junk, .junk, .junk, .junk, .junk, .junk, .junk, .junk, .junk, .junk, .junk, .junk, .junk, .junk, .junk, .junk, .junk, .junk, .junk, .junk, .junk, .junk, .junk], [], some (St a)⟩)) a r = some (.exit 2, ⟨[.junk, .junk, .junk, .junk, .junk, .junk, .junk, .junk, .junk, .junk, .junk, .junk, .junk, .junk, .junk, .junk, .junk, .junk, .junk, .junk, .junk, .junk, .junk], [], some (runL g St a r)⟩) := by
    intro r
    induction r with
    | nil => intro a; exact .inr rfl
    | cons i r ih =>
      intro a
      simp only [runL_cons]
      cases hg : g a i with
      | inl a' => exact ih a'
      | inr e => exact .inl rfl
  rcases k (List.range N) a0 with k | k <;> rw [k] <;> simp only [go_sem, Nat.reduceAdd, Nat.reduceSub, Nat.reduceMul, Nat.reduceDiv, Nat.reduceMod, Nat.reduceLeDiff, Nat.reduceLT, Nat.reduceBEq, Int.reduceToNat, Int.reduceLT, Int.reduceLE, Int.reduceEq]
end Go.Vm.P4D

/- Chapter 04, functions: points. -/
set_option maxRecDepth 100000
set_option maxHeartbeats 2000000
namespace Go.Vm.P4D
open Go Go.Vm Go.Vm.P4
theorem okCloneI (n : Nat) (b : Bool) (l : List Int) (hl : l.length < 1000000) : callI (level E (n+1)) 79 [slD b 1 (l.map ic)] = some (clV b 1 (l.map ic), clO 1 (l.map ic)) := by
  rw [i79]
  rcases l with _ | ⟨x, t⟩
  · cases b <;> simp only [go_sem, Nat.reduceAdd, Nat.reduceSub, Nat.reduceMul, Nat.reduceDiv, Nat.reduceMod, Nat.reduceLeDiff, Nat.reduceLT, Nat.reduceBEq, Int.reduceToNat, Int.reduceLT, Int.reduceLE, Int.reduceEq, slD, clV, clO, isNilSl, aEq] <;> rfl
  · have e : (t.length + 1) * 9 ≤ 70368744177664 := by simp at hl; omega
    have e0 : slD b 1 ((x :: t).map ic) = .sl 1 ((x :: t).map ic) := by cases b <;> rfl
    have e1 : clV b 1 ((x :: t).map ic) = .ref 0 1 0 (t.length + 1) := by cases b <;> simp [clV]
    rw [e0, e1]
    simp only [go_sem, Nat.reduceAdd, Nat.reduceSub, Nat.reduceMul, Nat.reduceDiv, Nat.reduceMod, Nat.reduceLeDiff, Nat.reduceLT, Nat.reduceBEq, Int.reduceToNat, Int.reduceLT, Int.reduceLE, Int.reduceEq, clO, e, isNilSl, aEq]
    done
theorem okAll (n : Nat) (b : Bool) (l : Bx) : callP (level E (n+1)) 65 [enB b l] = some (.fn 95 [] [.ptr [enB b l]]) := by
  rw [p65]
  simp only [go_sem, Nat.reduceAdd, Nat.reduceSub, Nat.reduceMul, Nat.reduceDiv, Nat.reduceMod, Nat.reduceLeDiff, Nat.reduceLT, Nat.reduceBEq, Int.reduceToNat, Int.reduceLT, Int.reduceLE, Int.reduceEq]
  done
theorem okOf (n : Nat) (c : Bool) (p : List Int) (hp : p.length ≤ 3) : callP (level E (n+1)) 75 [slD c 1 (p.map ic)] = some (enP ((p ++ [0, 0, 0]).take 3)) := by
  rw [p75]
  rcases p with _ | ⟨x, _ | ⟨y, _ | ⟨z, _ | ⟨u, p⟩⟩⟩⟩
  · simp only [go_sem, Nat.reduceAdd, Nat.reduceSub, Nat.reduceMul, Nat.reduceDiv, Nat.reduceMod, Nat.reduceLeDiff, Nat.reduceLT, Nat.reduceBEq, Int.reduceToNat, Int.reduceLT, Int.reduceLE, Int.reduceEq, enP, src_0]
  · simp only [go_sem, Nat.reduceAdd, Nat.reduceSub, Nat.reduceMul, Nat.reduceDiv, Nat.reduceMod, Nat.reduceLeDiff, Nat.reduceLT, Nat.reduceBEq, Int.reduceToNat, Int.reduceLT, Int.reduceLE, Int.reduceEq, enP, slD_c, ic]
  · simp only [go_sem, Nat.reduceAdd, Nat.reduceSub, Nat.reduceMul, Nat.reduceDiv, Nat.reduceMod, Nat.reduceLeDiff, Nat.reduceLT, Nat.reduceBEq, Int.reduceToNat, Int.reduceLT, Int.reduceLE, Int.reduceEq, enP, slD_c, ic]
  · simp only [go_sem, Nat.reduceAdd, Nat.reduceSub, Nat.reduceMul, Nat.reduceDiv, Nat.reduceMod, Nat.reduceLeDiff, Nat.reduceLT, Nat.reduceBEq, Int.reduceToNat, Int.reduceLT, Int.reduceLE, Int.reduceEq, enP, slD_c, ic]
  · simp at hp
theorem okCheckPoint (n : Nat) (b c : Bool) (l : Bx) (p : List Int) (hl : l.length < 1000000) : callP (level E (n+5)) 80 [enB b l, slD c 1 (p.map ic)] = some (.int .i64 (fnz [ckBox l, if p.length = l.length then 0 else 13])) := by
  rw [p80]
  have h1 := okCheckBox n b l hl
  have hf := okFirstL (n+3) [[.int .i64 (ckBox l)], [.int .i64 (if p.length = l.length then 0 else 13)]] [ckBox l, if p.length = l.length then 0 else 13] rfl (by simp)
  by_cases h : p.length = l.length
  · simp only [if_pos h] at hf
    simp only [go_sem, Nat.reduceAdd, Nat.reduceSub, Nat.reduceMul, Nat.reduceDiv, Nat.reduceMod, Nat.reduceLeDiff, Nat.reduceLT, Nat.reduceBEq, Int.reduceToNat, Int.reduceLT, Int.reduceLE, Int.reduceEq, h1, h, okWhen, ne_eq, not_true_eq_false, hf]
  · have h' : ¬ (p.length : Int) = l.length := by omega
    simp only [if_neg h] at hf
    simp only [go_sem, Nat.reduceAdd, Nat.reduceSub, Nat.reduceMul, Nat.reduceDiv, Nat.reduceMod, Nat.reduceLeDiff, Nat.reduceLT, Nat.reduceBEq, Int.reduceToNat, Int.reduceLT, Int.reduceLE, Int.reduceEq, h1, h, h', okWhen, ne_eq, not_false_eq_true, hf]
end Go.Vm.P4D

/- Chapter 04, functions: Has, Index, Points. -/
set_option maxRecDepth 100000
set_option maxHeartbeats 2000000
namespace Go.Vm.P4D
open Go Go.Vm Go.Vm.P4
def ckPoint (l : Bx) (p : List Int) : Int := fnz [ckBox l, if p.length = l.length then 0 else 13]
theorem ckPoint0 {l : Bx} {p : List Int} (h : ckPoint l p = 0) : ckBox l = 0 ∧ p.length = l.length := by
  have h1 := fz0 _ h (ckBox l) (by simp)
  have h3 := fz0 _ h (if p.length = l.length then 0 else 13) (by simp)
  refine ⟨h1, ?_⟩
  split at h3
  · assumption
  · omega
theorem ckBox0 {l : Bx} (h : ckBox l = 0) : 1 ≤ l.length ∧ l.length ≤ 3 ∧ (∀ r ∈ l, ckRange r = 0) ∧ many l ≤ 4096 := by
  unfold ckBox at h
  split at h
  · omega
  · have h1 := fz0 _ h (fnz (l.map ckRange)) (by simp)
    have h3 := fz0 _ h (if 4096 < many l then 5 else 0) (by simp)
    refine ⟨by omega, by omega, fun r hr => fz0 _ h1 _ (List.mem_map_of_mem hr), ?_⟩
    split at h3
    · omega
    · omega
theorem okIndex (n : Nat) (b c : Bool) (l : Bx) (p : List Int) (hl : l.length < 1000000) : callP (level E (n+6)) 36 [enB b l, slD c 1 (p.map ic)] =
    some (.tup (if ckPoint l p = 0 then (if hasB l p then [.int .i64 (elt l ((p ++ [0, 0, 0]).take 3) (strides 1 l) 0), .int .i64 0] else [.int .i64 0, .int .i64 14]) else [.int .i64 0, .int .i64 (ckPoint l p)])) := by
  rw [p36]
  have h1 : callP (level E (n+5)) 80 [enB b l, slD c 1 (p.map ic)] = some (.int .i64 (ckPoint l p)) := okCheckPoint n b c l p hl
  by_cases h : ckPoint l p = 0
  · obtain ⟨k1, k2⟩ := ckPoint0 h
    obtain ⟨k3, k4, _, _⟩ := ckBox0 k1
    have h2 := okHas0 (n+4) b c l p (by omega) (by omega)
    have h3 := okDense (n+4) b l (by omega)
    have h4 := okOf (n+4) c p (by omega)
    have h5 := okElement (n+4) b true l (strides 1 l) ((p ++ [0, 0, 0]).take 3) k4 (by rw [strides_len]; omega) (by simp)
    cases hh : hasB l p
    · rw [hh] at h2
      simp only [go_sem, Nat.reduceAdd, Nat.reduceSub, Nat.reduceMul, Nat.reduceDiv, Nat.reduceMod, Nat.reduceLeDiff, Nat.reduceLT, Nat.reduceBEq, Int.reduceToNat, Int.reduceLT, Int.reduceLE, Int.reduceEq, h1, h, ne_eq, not_true_eq_false, h2]
    · rw [hh] at h2
      simp only [go_sem, Nat.reduceAdd, Nat.reduceSub, Nat.reduceMul, Nat.reduceDiv, Nat.reduceMod, Nat.reduceLeDiff, Nat.reduceLT, Nat.reduceBEq, Int.reduceToNat, Int.reduceLT, Int.reduceLE, Int.reduceEq, h1, h, ne_eq, not_true_eq_false, h2, h3, h4, h5]
  · simp only [go_sem, Nat.reduceAdd, Nat.reduceSub, Nat.reduceMul, Nat.reduceDiv, Nat.reduceMod, Nat.reduceLeDiff, Nat.reduceLT, Nat.reduceBEq, Int.reduceToNat, Int.reduceLT, Int.reduceLE, Int.reduceEq, h1, h, ne_eq, not_false_eq_true]
def pD (l : Bx) (i : Nat) : D := .sl 1 (((plc l i).take l.length).map ic)
def PoSt (b : Bool) (l : Bx) (acc : List (List D)) : Ext :=
  ⟨[9, 10], b34_0, b34_1, [.imm (enB b l), .imm .nil, .imm (.int .i64 0), .imm (.ptr [enB b l]), .imm (.int .i64 0), .ptr 0 0, .junk, .imm (.bool false), .imm (.fn 95 [] [.ptr [enB b l]]), .junk, .junk], .box [vK 1 1 acc] :: oK 1 acc, 0, none⟩
theorem okPointsR (n : Nat) (b : Bool) (l : Bx) (h1 : 1 ≤ l.length) (h3 : l.length ≤ 3) (acc : List (List D)) (i : Nat) (ha : acc.length = i) (hi : i < 1000000) :
    (level E (n+2)).round (PoSt b l acc) [.int .i64 (i : Int), enP (plc l i)] = some (PoSt b l (acc ++ [[pD l i]]), true) := by
  obtain ⟨x, y, z, hp⟩ : ∃ x y z, plc l i = [x, y, z] := by
    match hh : plc l i, plc_len l i with
    | [x, y, z], _ => exact ⟨x, y, z, rfl⟩
  have c1 := okCloneI n false [x] (by simp)
  have c2 := okCloneI n false [x, y] (by simp)
  have c3 := okCloneI n false [x, y, z] (by simp)
  unfold PoSt pD
  rw [hp, round_go rfl]
  have e1 : (acc.length + 1) * 25 ≤ 70368744177664 := by omega
  simp only [clV, clO, slD, List.map_cons, List.map_nil, ic] at c1 c2 c3
  rcases l with _ | ⟨r, _ | ⟨s, _ | ⟨t, _ | ⟨u, l⟩⟩⟩⟩
  · simp at h1
  · rcases acc with _ | ⟨w, acc⟩
    · simp only [go_sem, Nat.reduceAdd, Nat.reduceSub, Nat.reduceMul, Nat.reduceDiv, Nat.reduceMod, Nat.reduceLeDiff, Nat.reduceLT, Nat.reduceBEq, Int.reduceToNat, Int.reduceLT, Int.reduceLE, Int.reduceEq, enP, vK, oK, ic, c1]
    · simp only [List.length_cons] at e1
      simp only [go_sem, Nat.reduceAdd, Nat.reduceSub, Nat.reduceMul, Nat.reduceDiv, Nat.reduceMod, Nat.reduceLeDiff, Nat.reduceLT, Nat.reduceBEq, Int.reduceToNat, Int.reduceLT, Int.reduceLE, Int.reduceEq, enP, vK, oK, ic, c1, e1]
  · rcases acc with _ | ⟨w, acc⟩
    · simp only [go_sem, Nat.reduceAdd, Nat.reduceSub, Nat.reduceMul, Nat.reduceDiv, Nat.reduceMod, Nat.reduceLeDiff, Nat.reduceLT, Nat.reduceBEq, Int.reduceToNat, Int.reduceLT, Int.reduceLE, Int.reduceEq, enP, vK, oK, ic, c2]
    · simp only [List.length_cons] at e1
      simp only [go_sem, Nat.reduceAdd, Nat.reduceSub, Nat.reduceMul, Nat.reduceDiv, Nat.reduceMod, Nat.reduceLeDiff, Nat.reduceLT, Nat.reduceBEq, Int.reduceToNat, Int.reduceLT, Int.reduceLE, Int.reduceEq, enP, vK, oK, ic, c2, e1]
  · rcases acc with _ | ⟨w, acc⟩
    · simp only [go_sem, Nat.reduceAdd, Nat.reduceSub, Nat.reduceMul, Nat.reduceDiv, Nat.reduceMod, Nat.reduceLeDiff, Nat.reduceLT, Nat.reduceBEq, Int.reduceToNat, Int.reduceLT, Int.reduceLE, Int.reduceEq, enP, vK, oK, ic, c3]
    · simp only [List.length_cons] at e1
      simp only [go_sem, Nat.reduceAdd, Nat.reduceSub, Nat.reduceMul, Nat.reduceDiv, Nat.reduceMod, Nat.reduceLeDiff, Nat.reduceLT, Nat.reduceBEq, Int.reduceToNat, Int.reduceLT, Int.reduceLE, Int.reduceEq, enP, vK, oK, ic, c3, e1]
  · simp at h3
end Go.Vm.P4D

/- Chapter 04, functions: Points of right boxes. -/
set_option maxRecDepth 100000
set_option maxHeartbeats 2000000
namespace Go.Vm.P4D
open Go Go.Vm Go.Vm.P4
theorem ckRange0 {r : Rg} (h : ckRange r = 0) : -1048576 ≤ r.lo ∧ r.lo ≤ 1048576 ∧ 0 ≤ r.ex ∧ r.ex ≤ 64 ∧ r.lo + r.ex ≤ 1048577 := by
  unfold ckRange at h
  split at h
  · omega
  · omega
theorem ml_ok {a b m : Int} (ha : 0 ≤ a) (ha2 : a ≤ m) (hb : 0 ≤ b) (hb2 : b ≤ 64) (hm : m ≤ 1000000) : ml a b = a * b ∧ 0 ≤ a * b ∧ a * b ≤ m * 64 := by
  have h1 : 0 ≤ a * b := Int.mul_nonneg ha hb
  have h2 : a * b ≤ m * 64 := Int.mul_le_mul ha2 hb2 hb (by omega)
  exact ⟨wrp_ok (by omega), h1, h2⟩
theorem many_nn {l : Bx} (hl : l.length ≤ 3) (h : ∀ r ∈ l, ckRange r = 0) : 0 ≤ many l ∧ many l ≤ 262144 := by
  rcases l with _ | ⟨r, _ | ⟨s, _ | ⟨t, _ | ⟨u, l⟩⟩⟩⟩
  · exact ⟨by decide, by decide⟩
  · have hr := ckRange0 (h r (by simp))
    obtain ⟨e1, e2, e3⟩ := ml_ok (a := 1) (m := 1) (by omega) (by omega) hr.2.2.1 hr.2.2.2.1 (by omega)
    simp only [many, List.foldl_cons, List.foldl_nil, e1]
    exact ⟨e2, by omega⟩
  · have hr := ckRange0 (h r (by simp))
    have hs := ckRange0 (h s (by simp))
    obtain ⟨e1, e2, e3⟩ := ml_ok (a := 1) (m := 1) (by omega) (by omega) hr.2.2.1 hr.2.2.2.1 (by omega)
    obtain ⟨f1, f2, f3⟩ := ml_ok (m := 64) e2 (by omega) hs.2.2.1 hs.2.2.2.1 (by omega)
    simp only [many, List.foldl_cons, List.foldl_nil, e1, f1]
    exact ⟨f2, by omega⟩
  · have hr := ckRange0 (h r (by simp))
    have hs := ckRange0 (h s (by simp))
    have ht := ckRange0 (h t (by simp))
    obtain ⟨e1, e2, e3⟩ := ml_ok (a := 1) (m := 1) (by omega) (by omega) hr.2.2.1 hr.2.2.2.1 (by omega)
    obtain ⟨f1, f2, f3⟩ := ml_ok (m := 64) e2 (by omega) hs.2.2.1 hs.2.2.2.1 (by omega)
    obtain ⟨g1, g2, g3⟩ := ml_ok (m := 4096) f2 (by omega) ht.2.2.1 ht.2.2.2.1 (by omega)
    simp only [many, List.foldl_cons, List.foldl_nil, e1, f1, g1]
    exact ⟨g2, by omega⟩
  · simp at hl
theorem many_nat {l : Bx} (hc : ckBox l = 0) : ∃ N : Nat, many l = N ∧ N ≤ 4096 := by
  obtain ⟨h1, h2, h3, h4⟩ := ckBox0 hc
  obtain ⟨h5, h6⟩ := many_nn h2 h3
  exact ⟨(many l).toNat, by omega, by omega⟩
theorem fold_snoc {α β : Type} (f : α → β) : ∀ (l : List α) (acc : List β), l.foldl (fun a x => a ++ [f x]) acc = acc ++ l.map f
  | [], acc => by simp
  | x :: l, acc => by simp only [List.foldl_cons, fold_snoc f l, List.map_cons, List.append_assoc, List.cons_append, List.nil_append]
def ptsD (l : Bx) (N : Nat) : D := slD true 1 ((List.range N).map fun i => [pD l i])
theorem okPointsS (n : Nat) (b : Bool) (l : Bx) (hc : ckBox l = 0) (N : Nat) (hN : many l = N) : callP (level E (n+5)) 34 [enB b l] = some (.tup [ptsD l N, .int .i64 0]) := by
  obtain ⟨h1, h2, h3, h4⟩ := ckBox0 hc
  have hN2 : N ≤ 4096 := by omega
  rw [p34]
  have c1 := okCheckBox n b l (by omega)
  have a1 := okAll (n+3) b l
  have h := okAll1 (n+2) b l h2 N hN (by omega) (PoSt b l) (fun a i => a.length = i) (fun a i => .inl (a ++ [[pD l i]])) [] rfl
    (fun a i hI hi => ⟨okPointsR (n+1) b l h1 h2 a i hI (by omega), fun a' ha => by injection ha with ha; subst ha; simp [hI]⟩)
  rw [runL_fold, fold_snoc, List.nil_append] at h
  simp only [PoSt, enB, vK, oK] at h
  simp only [go_sem, Nat.reduceAdd, Nat.reduceSub, Nat.reduceMul, Nat.reduceDiv, Nat.reduceMod, Nat.reduceLeDiff, Nat.reduceLT, Nat.reduceBEq, Int.reduceToNat, Int.reduceLT, Int.reduceLE, Int.reduceEq, c1, hc, ne_eq, not_true_eq_false, a1]
  rw [h]
  cases hq : (List.range N).map (fun i => [pD l i]) with
  | nil =>
    simp only [go_sem, Nat.reduceAdd, Nat.reduceSub, Nat.reduceMul, Nat.reduceDiv, Nat.reduceMod, Nat.reduceLeDiff, Nat.reduceLT, Nat.reduceBEq, Int.reduceToNat, Int.reduceLT, Int.reduceLE, Int.reduceEq, ptsD, hq] <;> rfl
  | cons w t =>
    simp only [go_sem, Nat.reduceAdd, Nat.reduceSub, Nat.reduceMul, Nat.reduceDiv, Nat.reduceMod, Nat.reduceLeDiff, Nat.reduceLT, Nat.reduceBEq, Int.reduceToNat, Int.reduceLT, Int.reduceLE, Int.reduceEq, ptsD, hq] <;> rfl
end Go.Vm.P4D

/- Chapter 04, functions: values and elements are checked. -/
set_option maxRecDepth 100000
set_option maxHeartbeats 2000000
namespace Go.Vm.P4D
open Go Go.Vm Go.Vm.P4
theorem okIsKind (n : Nat) (k : Int) : callP (level E (n+1)) 93 [.int .i64 k] = some (.bool (decide (0 ≤ k) && decide (k < 11))) := by
  rw [p93]
  by_cases h : k ≥ 0
  · have h' : 0 ≤ k := h
    simp only [go_sem, Nat.reduceAdd, Nat.reduceSub, Nat.reduceMul, Nat.reduceDiv, Nat.reduceMod, Nat.reduceLeDiff, Nat.reduceLT, Nat.reduceBEq, Int.reduceToNat, Int.reduceLT, Int.reduceLE, Int.reduceEq, h, h']
  · have h' : ¬ 0 ≤ k := h
    simp only [go_sem, Nat.reduceAdd, Nat.reduceSub, Nat.reduceMul, Nat.reduceDiv, Nat.reduceMod, Nat.reduceLeDiff, Nat.reduceLT, Nat.reduceBEq, Int.reduceToNat, Int.reduceLT, Int.reduceLE, Int.reduceEq, h, h']
def ckKind (k : Int) : Int := if 0 ≤ k ∧ k < 11 then 0 else 11
theorem okCheckKind (n : Nat) (k : Int) : callP (level E (n+2)) 56 [.int .i64 k] = some (.int .i64 (ckKind k)) := by
  rw [p56]
  have h1 := okIsKind n k
  by_cases h : 0 ≤ k
  · by_cases h2 : k < 11
    · simp only [go_sem, Nat.reduceAdd, Nat.reduceSub, Nat.reduceMul, Nat.reduceDiv, Nat.reduceMod, Nat.reduceLeDiff, Nat.reduceLT, Nat.reduceBEq, Int.reduceToNat, Int.reduceLT, Int.reduceLE, Int.reduceEq, h1, h, h2, okNwhen, ckKind, and_self, Bool.false_eq_true]
    · simp only [go_sem, Nat.reduceAdd, Nat.reduceSub, Nat.reduceMul, Nat.reduceDiv, Nat.reduceMod, Nat.reduceLeDiff, Nat.reduceLT, Nat.reduceBEq, Int.reduceToNat, Int.reduceLT, Int.reduceLE, Int.reduceEq, h1, h, h2, okNwhen, ckKind, and_false, Bool.false_eq_true]
  · simp only [go_sem, Nat.reduceAdd, Nat.reduceSub, Nat.reduceMul, Nat.reduceDiv, Nat.reduceMod, Nat.reduceLeDiff, Nat.reduceLT, Nat.reduceBEq, Int.reduceToNat, Int.reduceLT, Int.reduceLE, Int.reduceEq, h1, h, okNwhen, ckKind, false_and, Bool.false_eq_true]
def bits8 (v : Int) : Prop := wrp .u64 ((BitVec.ofInt 64 v &&& ~~~ BitVec.ofInt 64 255).toNat : Nat) = 0
theorem okOnes8 (n : Nat) : callP (level E (n+1)) 103 [.int .i64 8] = some (.int .u64 255) := by
  rw [p103]
  have s8 : aBin .shl (.imm (.int .u64 1)) (.imm (.int .i64 8)) = some (.imm (.int .u64 256)) := rfl
  have w8 : wrp .u64 (256 - 1) = 255 := by decide
  simp only [go_sem, Nat.reduceAdd, Nat.reduceSub, Nat.reduceMul, Nat.reduceDiv, Nat.reduceMod, Nat.reduceLeDiff, Nat.reduceLT, Nat.reduceBEq, Int.reduceToNat, Int.reduceLT, Int.reduceLE, Int.reduceEq, s8, w8]
theorem okRight8 (n : Nat) (v : Int) (hv : bits8 v) : callP (level E (n+2)) 97 [.int .i64 1, .int .u64 v] = some (.bool true) := by
  rw [p97]
  have h := okOnes8 n
  have hv' : wrp .u64 ((BitVec.ofInt 64 v &&& ~~~ BitVec.ofInt 64 255).toNat : Nat) = 0 := hv
  simp only [go_sem, Nat.reduceAdd, Nat.reduceSub, Nat.reduceMul, Nat.reduceDiv, Nat.reduceMod, Nat.reduceLeDiff, Nat.reduceLT, Nat.reduceBEq, Int.reduceToNat, Int.reduceLT, Int.reduceLE, Int.reduceEq, h]
  exact congrArg (fun b => some (D.bool b)) (decide_eq_true hv)
theorem okCheckValue8 (n : Nat) (v : Int) (hv : bits8 v) : callP (level E (n+3)) 73 [.agg [.int .i64 1, .int .u64 v]] = some (.int .i64 0) := by
  rw [p73]
  have h := okRight8 n v hv
  have h1 := okIsKind (n+1) 1
  simp only [go_sem, Nat.reduceAdd, Nat.reduceSub, Nat.reduceMul, Nat.reduceDiv, Nat.reduceMod, Nat.reduceLeDiff, Nat.reduceLT, Nat.reduceBEq, Int.reduceToNat, Int.reduceLT, Int.reduceLE, Int.reduceEq, h1, h, okNwhen, Bool.false_eq_true]
theorem okCheck8 (n : Nat) (v : Int) (hv : bits8 v) : callP (level E (n+4)) 61 [.int .i64 1, .int .u64 v] = some (.int .i64 0) := by
  rw [p61]
  have h := okCheckValue8 n v hv
  simp only [go_sem, Nat.reduceAdd, Nat.reduceSub, Nat.reduceMul, Nat.reduceDiv, Nat.reduceMod, Nat.reduceLeDiff, Nat.reduceLT, Nat.reduceBEq, Int.reduceToNat, Int.reduceLT, Int.reduceLE, Int.reduceEq, h, ne_eq, not_true_eq_false, okWhen, Bool.false_eq_true]
def ub (v : Int) : List D := [.int .u64 v]
attribute [go_sem] ub
theorem okMapU (n : Nat) (b : Bool) (l : List Int) (f : FuncId) (caps : List D) (k : Int → Int) (hl : l.length < 1000000) (H : ∀ v ∈ l, callP (level E n) f ([.int .u64 v] ++ caps) = some (.int .i64 (k v))) :
    callP (level E (n+1)) 100 [slD b 1 (l.map ub), .fn f [] caps] = some (slD false 1 ((l.map k).map ic)) := by
  rw [p100]
  have e0 : (8 : Int) * (l.length : Int) ≤ 70368744177664 := by omega
  have e2 : (l.length : Int) ≤ 70368744177664 := by omega
  have e3 : (0 : Int) ≤ (l.length : Int) := by omega
  simp only [go_sem, Nat.reduceAdd, Nat.reduceSub, Nat.reduceMul, Nat.reduceDiv, Nat.reduceMod, Nat.reduceLeDiff, Nat.reduceLT, Nat.reduceBEq, Int.reduceToNat, Int.reduceLT, Int.reduceLE, Int.reduceEq, e0, e2, e3]
  have h := loop_fold (f := aCode (level E (n)) ⟨0, false⟩ b100_0) (h := head ⟨0, false⟩ [0, 1, 0, 1, 0, 1, 1, 1, 0]) (Φ := outC ⟨0, false⟩ [0, 0, 0, 1, 0, 0, 0, 0, 0]) l (fun (a : List Int) i => ⟨[.junk, .imm (.fn f [] caps), .junk, .ref 0 1 0 a.length, .junk, .imm (slD b 1 (l.map ub)), .imm (.int .i64 l.length), .imm (.int .i64 i), .junk], [.arr 1 (a.map ic)], none⟩) (fun a i => a.length = i)
    (fun a x => a ++ [k x]) (fun a => some (.exit 0, ⟨[.junk, .junk, .junk, .ref 0 1 0 a.length, .junk, .junk, .junk, .junk, .junk], [.arr 1 (a.map ic)], none⟩)) [] rfl
    (fun a i x hI h2 h1 => by
      refine ⟨?_, by simp [hI]⟩
      rw [rnd_eq]
      have e1 : (a.length + 1) * 9 ≤ 70368744177664 := by omega
      have H' := H x (List.mem_of_getElem? h1)
      simp only [List.cons_append, List.nil_append] at H'
      simp only [go_sem, Nat.reduceAdd, Nat.reduceSub, Nat.reduceMul, Nat.reduceDiv, Nat.reduceMod, Nat.reduceLeDiff, Nat.reduceLT, Nat.reduceBEq, Int.reduceToNat, Int.reduceLT, Int.reduceLE, Int.reduceEq, lt_t h2, h1, e1, H']
      rw [wrpS (by omega)])
    (fun a _ => by
      rw [rnd_eq]
      simp only [go_sem, Nat.reduceAdd, Nat.reduceSub, Nat.reduceMul, Nat.reduceDiv, Nat.reduceMod, Nat.reduceLeDiff, Nat.reduceLT, Nat.reduceBEq, Int.reduceToNat, Int.reduceLT, Int.reduceLE, Int.reduceEq, lt_f (Nat.le_refl _)])
  rw [cast_0] at h
  simp only [List.map_nil, List.length_nil] at h
  rw [h]
  clear h
  rw [fold_snoc, List.nil_append]
  simp only [go_sem, Nat.reduceAdd, Nat.reduceSub, Nat.reduceMul, Nat.reduceDiv, Nat.reduceMod, Nat.reduceLeDiff, Nat.reduceLT, Nat.reduceBEq, Int.reduceToNat, Int.reduceLT, Int.reduceLE, Int.reduceEq, slD]
theorem okElements (n : Nat) (b : Bool) (kd : Int) (l : List Int) (k : Int → Int) (hl : l.length < 1000000) (H : ∀ v ∈ l, callP (level E (n+1)) 61 [.int .i64 kd, .int .u64 v] = some (.int .i64 (k v))) :
    callP (level E (n+4)) 90 [.int .i64 kd, slD b 1 (l.map ub)] = some (.int .i64 (fnz (l.map k))) := by
  rw [p90]
  have h1 := okMapU (n+2) b l 101 [.ptr [.int .i64 kd]] k hl (fun v hv => by
    have h := H v hv
    show callP (level E (n+1+1)) 101 [.int .u64 v, .ptr [.int .i64 kd]] = _
    rw [p101]
    simp only [go_sem, Nat.reduceAdd, Nat.reduceSub, Nat.reduceMul, Nat.reduceDiv, Nat.reduceMod, Nat.reduceLeDiff, Nat.reduceLT, Nat.reduceBEq, Int.reduceToNat, Int.reduceLT, Int.reduceLE, Int.reduceEq, h])
  have h2 := okFirst (n+2) false (l.map k) (by simp; omega)
  simp only [go_sem, Nat.reduceAdd, Nat.reduceSub, Nat.reduceMul, Nat.reduceDiv, Nat.reduceMod, Nat.reduceLeDiff, Nat.reduceLT, Nat.reduceBEq, Int.reduceToNat, Int.reduceLT, Int.reduceLE, Int.reduceEq, h1, h2]
theorem okCheck_1 (n : Nat) (x : Int) : callP (level E (n+2)) 89 [.int .i64 x] = some (.bool (!(decide (x ≥ 0) && decide (x ≤ 4096)))) := by
  rw [p89]
  have h1 := okWithin n x 0 4096
  simp only [go_sem, Nat.reduceAdd, Nat.reduceSub, Nat.reduceMul, Nat.reduceDiv, Nat.reduceMod, Nat.reduceLeDiff, Nat.reduceLT, Nat.reduceBEq, Int.reduceToNat, Int.reduceLT, Int.reduceLE, Int.reduceEq, h1]
def idxOf (q : Int → Bool) : List Int → Nat → Int
  | [], _ => -1
  | x :: r, i => if q x then i else idxOf q r (i + 1)
theorem okIndexf (n : Nat) (b : Bool) (l : List Int) (f : FuncId) (q : Int → Bool) (hl : l.length < 1000000000) (H : ∀ x ∈ l, callP (level E n) f [.int .i64 x] = some (.bool (q x))) :
    callP (level E (n+1)) 96 [slD b 1 (l.map ic), .fn f [] []] = some (.int .i64 (idxOf q l 0)) := by
  rw [p96]
  simp only [go_sem, Nat.reduceAdd, Nat.reduceSub, Nat.reduceMul, Nat.reduceDiv, Nat.reduceMod, Nat.reduceLeDiff, Nat.reduceLT, Nat.reduceBEq, Int.reduceToNat, Int.reduceLT, Int.reduceLE, Int.reduceEq]
  have h := loop_run (f := aCode (level E (n)) ⟨0, false⟩ b96_0) (h := head ⟨0, false⟩ [1, 1, 0, 0, 1, 1, 0, 0]) (Φ := outC ⟨0, false⟩ [0, 0, 1, 0, 0, 0, 0, 0]) l (fun (j : Nat) i => ⟨[.imm (slD b 1 (l.map ic)), .imm (.fn f [] []), .junk, .junk, .imm (.int .i64 l.length), .imm (.int .i64 i), .junk, .junk], [], none⟩) (fun j i => j = i)
    (fun j x => if q x then .inr (some (.ret, ⟨[.junk, .junk, .imm (.int .i64 j), .junk, .junk, .junk, .junk, .junk], [], none⟩)) else .inl (j + 1)) (fun _ => some (.exit 0, ⟨[.junk, .junk, .junk, .junk, .junk, .junk, .junk, .junk], [], none⟩)) 0 rfl
    (fun j i x hI h2 h1 => by
      subst hI
      refine ⟨?_, fun j' hj => ?_⟩
      · rw [rnd_eq]
        have H' := H x (List.mem_of_getElem? h1)
        cases hq : q x
        · rw [hq] at H'
          simp only [go_sem, Nat.reduceAdd, Nat.reduceSub, Nat.reduceMul, Nat.reduceDiv, Nat.reduceMod, Nat.reduceLeDiff, Nat.reduceLT, Nat.reduceBEq, Int.reduceToNat, Int.reduceLT, Int.reduceLE, Int.reduceEq, lt_t h2, h1, H']
          rw [wrpS (by omega)]
        · rw [hq] at H'
          simp only [go_sem, Nat.reduceAdd, Nat.reduceSub, Nat.reduceMul, Nat.reduceDiv, Nat.reduceMod, Nat.reduceLeDiff, Nat.reduceLT, Nat.reduceBEq, Int.reduceToNat, Int.reduceLT, Int.reduceLE, Int.reduceEq, lt_t h2, h1, H']
      · split at hj
        · cases hj
        · injection hj with hj; exact hj.symm)
    (fun _ _ => by
      rw [rnd_eq]
      simp only [go_sem, Nat.reduceAdd, Nat.reduceSub, Nat.reduceMul, Nat.reduceDiv, Nat.reduceMod, Nat.reduceLeDiff, Nat.reduceLT, Nat.reduceBEq, Int.reduceToNat, Int.reduceLT, Int.reduceLE, Int.reduceEq, lt_f (Nat.le_refl _)])
  rw [cast_0] at h
  rw [h]
  clear h hl H
  have e : ∀ (l : List Int) (j : Nat), runL (γ := Option (AExit × S)) (fun (j : Nat) x => if q x then .inr (some (.ret, ⟨[.junk, .junk, .imm (.int .i64 j), .junk, .junk, .junk, .junk, .junk], [], none⟩)) else .inl (j + 1)) (fun _ => some (.exit 0, ⟨[.junk, .junk, .junk, .junk, .junk, .junk, .junk, .junk], [], none⟩)) j l =
      (if idxOf q l j < 0 then some (.exit 0, ⟨[.junk, .junk, .junk, .junk, .junk, .junk, .junk, .junk], [], none⟩) else some (.ret, ⟨[.junk, .junk, .imm (.int .i64 (idxOf q l j)), .junk, .junk, .junk, .junk, .junk], [], none⟩)) := by
    intro l
    induction l with
    | nil => intro j; simp [runL_nil, idxOf]
    | cons x r ih =>
      intro j
      cases hq : q x
      · simp only [runL_cons, hq, Bool.false_eq_true, if_false, idxOf]; exact ih _
      · have : ¬ (j : Int) < 0 := by omega
        simp only [runL_cons, hq, if_true, idxOf, this, if_false]
  have e2 : ∀ (l : List Int) (j : Nat), idxOf q l j < 0 → idxOf q l j = -1 := by
    intro l
    induction l with
    | nil => intro j _; rfl
    | cons x r ih =>
      intro j
      cases hq : q x
      · simp only [hq, Bool.false_eq_true, if_false, idxOf]; exact ih _
      · simp only [hq, if_true, idxOf]; intro h; omega
  rw [e]
  by_cases h0 : idxOf q l 0 < 0
  · have h1 := e2 l 0 h0
    simp only [go_sem, Nat.reduceAdd, Nat.reduceSub, Nat.reduceMul, Nat.reduceDiv, Nat.reduceMod, Nat.reduceLeDiff, Nat.reduceLT, Nat.reduceBEq, Int.reduceToNat, Int.reduceLT, Int.reduceLE, Int.reduceEq, h0, h1]
  · simp only [go_sem, Nat.reduceAdd, Nat.reduceSub, Nat.reduceMul, Nat.reduceDiv, Nat.reduceMod, Nat.reduceLeDiff, Nat.reduceLT, Nat.reduceBEq, Int.reduceToNat, Int.reduceLT, Int.reduceLE, Int.reduceEq, h0]
theorem idxOf_nn (q : Int → Bool) : ∀ (l : List Int) (j : Nat), decide (idxOf q l j ≥ 0) = l.any q
  | [], j => by simp [idxOf]
  | x :: r, j => by
    cases hq : q x
    · simp only [idxOf, hq, Bool.false_eq_true, if_false, List.any_cons, Bool.false_or]; exact idxOf_nn q r _
    · have : (j : Int) ≥ 0 := by omega
      simp [idxOf, hq, this]
theorem okContains (n : Nat) (b : Bool) (l : List Int) (f : FuncId) (q : Int → Bool) (hl : l.length < 1000000000) (H : ∀ x ∈ l, callP (level E n) f [.int .i64 x] = some (.bool (q x))) :
    callP (level E (n+2)) 72 [slD b 1 (l.map ic), .fn f [] []] = some (.bool (l.any q)) := by
  rw [p72]
  have h := okIndexf n b l f q hl H
  simp only [go_sem, Nat.reduceAdd, Nat.reduceSub, Nat.reduceMul, Nat.reduceDiv, Nat.reduceMod, Nat.reduceLeDiff, Nat.reduceLT, Nat.reduceBEq, Int.reduceToNat, Int.reduceLT, Int.reduceLE, Int.reduceEq, h, idxOf_nn]
end Go.Vm.P4D

/- Chapter 04, functions: Check. -/
set_option maxRecDepth 100000
set_option maxHeartbeats 4000000
namespace Go.Vm.P4D
open Go Go.Vm Go.Vm.P4
structure Im where
  kd : Int
  bb : Bool
  bx : Bx
  tb : Bool
  st : List Int
  db : Bool
  dt : List Int
def enIm (m : Im) : D := .agg [.int .i64 m.kd, enB m.bb m.bx, slD m.tb 1 (m.st.map ic), slD m.db 1 (m.dt.map ub)]
def ckA (m : Im) : Int := fnz [ckKind m.kd, ckBox m.bx, if m.st.length = m.bx.length then 0 else 2]
def ckB (m : Im) : Int := fnz [if m.st.any (fun x => !(decide (x ≥ 0) && decide (x ≤ 4096))) then 3 else 0, if 4096 < m.dt.length then 5 else 0]
def elAt (m : Im) (i : Nat) : Int := elt m.bx (plc m.bx i) m.st 0
def tkD (T : List Int) : List (Int × D) := T.map (fun k => (k, .bool true))
def CkV (m : Im) (p7 p8 : Nat) : List AV := [.imm (enIm m), .imm (.int .i64 0), .imm (.ptr [.int .i64 m.kd, enB m.bb m.bx, slD m.tb 1 (m.st.map ic), slD m.db 1 (m.dt.map ub)]), .imm (.int .i64 0), .imm (.fn 89 [] []), .imm (.int .i64 0), .imm (.int .i64 0), .ptr p7 0, .ptr p8 0, .junk, .junk, .imm (.bool false), .imm (.bool false), .imm (.bool false), .imm (.fn 95 [] [.ptr [enB m.bb m.bx]]), .junk, .junk, .junk, .junk]
def CkSt (m : Im) : Option (List Int) → Ext
  | none => ⟨[15, 16], b48_0, b48_1, CkV m 1 2, [.imap [], .box [.map 0], .box [.imm (.int .i64 0)]], 0, none⟩
  | some T => ⟨[15, 16], b48_0, b48_1, CkV m 0 1, [.box [.map 2], .box [.imm (.int .i64 0)], .imap (tkD T)], 0, none⟩
def CkEnd (m : Im) (T : List Int) (e : Int) : Ext := ⟨[15, 16], b48_0, b48_1, CkV m 0 1, [.box [.map 2], .box [.imm (.int .i64 e)], .imap (tkD T)], 0, some (.exit 0)⟩
def CkG (m : Im) (a : Option (List Int)) (i : Nat) : Option (List Int) ⊕ Ext :=
  let T := a.getD []
  if (m.dt.length : Int) ≤ elAt m i then .inr (CkEnd m T 14) else if elAt m i ∈ T then .inr (CkEnd m T 26) else .inl (some (T ++ [elAt m i]))
theorem look_tk : ∀ (T : List Int) (k : Int), lookI (tkD T) k = if k ∈ T then some (.bool true) else none
  | [], k => by simp [lookI, tkD]
  | x :: T, k => by
    have ih := look_tk T k
    simp only [lookI, tkD] at ih ⊢
    by_cases h : x = k
    · subst h; simp
    · have h' : ¬ k = x := fun e => h e.symm
      simp only [List.map_cons, List.find?_cons, List.mem_cons, h', false_or, show (x == k) = false from by simp [h]]
      exact ih
theorem set_tk : ∀ (T : List Int) (k : Int), k ∉ T → mapSet (tkD T) k (.bool true) = tkD (T ++ [k])
  | [], k, _ => by simp [mapSet, tkD]
  | x :: T, k, h => by
    have ih := set_tk T k (fun hc => h (List.mem_cons_of_mem _ hc))
    have h' : ¬ x = k := fun e => h (by subst e; simp)
    simp only [tkD, List.map_cons, List.cons_append, mapSet, h', if_false] at ih ⊢
    rw [ih]
theorem okCheckR (n : Nat) (m : Im) (h3 : m.bx.length ≤ 3) (hs : m.bx.length = m.st.length) (a : Option (List Int)) (i : Nat) (hi : i < 1000000) :
    (level E (n+2)).round (CkSt m a) [.int .i64 (i : Int), enP (plc m.bx i)] = match CkG m a i with | .inl a' => some (CkSt m a', true) | .inr e => some (e, false) := by
  have he := okElement n m.bb m.tb m.bx m.st (plc m.bx i) h3 (by omega) (plc_len m.bx i)
  obtain ⟨x, y, z, hp⟩ : ∃ x y z, plc m.bx i = [x, y, z] := by
    match hh : plc m.bx i, plc_len m.bx i with
    | [x, y, z], _ => exact ⟨x, y, z, rfl⟩
  have hel : elt m.bx [x, y, z] m.st 0 = elAt m i := by rw [elAt, hp]
  rw [hp] at he ⊢
  rw [hel] at he
  simp only [enP, List.map_cons, List.map_nil] at he
  cases a with
  | none =>
    unfold CkSt
    dsimp only
    rw [round_go rfl]
    simp only [CkV, CkG, Option.getD_none, enP]
    by_cases h1 : (m.dt.length : Int) ≤ elAt m i
    · simp only [go_sem, Nat.reduceAdd, Nat.reduceSub, Nat.reduceMul, Nat.reduceDiv, Nat.reduceMod, Nat.reduceLeDiff, Nat.reduceLT, Nat.reduceBEq, Int.reduceToNat, Int.reduceLT, Int.reduceLE, Int.reduceEq, he, h1, CkEnd, CkV, tkD]
    · simp only [go_sem, Nat.reduceAdd, Nat.reduceSub, Nat.reduceMul, Nat.reduceDiv, Nat.reduceMod, Nat.reduceLeDiff, Nat.reduceLT, Nat.reduceBEq, Int.reduceToNat, Int.reduceLT, Int.reduceLE, Int.reduceEq, he, h1, CkEnd, CkV, tkD, List.not_mem_nil, CkSt, lookI, List.find?_nil, mapSet]
  | some T =>
    unfold CkSt
    dsimp only
    rw [round_go rfl]
    simp only [CkV, CkG, Option.getD_some, enP]
    by_cases h1 : (m.dt.length : Int) ≤ elAt m i
    · simp only [go_sem, Nat.reduceAdd, Nat.reduceSub, Nat.reduceMul, Nat.reduceDiv, Nat.reduceMod, Nat.reduceLeDiff, Nat.reduceLT, Nat.reduceBEq, Int.reduceToNat, Int.reduceLT, Int.reduceLE, Int.reduceEq, he, h1, CkEnd, CkV]
    · by_cases h2 : elAt m i ∈ T
      · simp only [go_sem, Nat.reduceAdd, Nat.reduceSub, Nat.reduceMul, Nat.reduceDiv, Nat.reduceMod, Nat.reduceLeDiff, Nat.reduceLT, Nat.reduceBEq, Int.reduceToNat, Int.reduceLT, Int.reduceLE, Int.reduceEq, he, h1, h2, CkEnd, CkV, look_tk]
      · simp only [go_sem, Nat.reduceAdd, Nat.reduceSub, Nat.reduceMul, Nat.reduceDiv, Nat.reduceMod, Nat.reduceLeDiff, Nat.reduceLT, Nat.reduceBEq, Int.reduceToNat, Int.reduceLT, Int.reduceLE, Int.reduceEq, he, h1, h2, CkSt, CkV, look_tk, set_tk T _ h2]
def ckPts (m : Im) : List Int → List Nat → Int
  | _, [] => 0
  | T, i :: r => if (m.dt.length : Int) ≤ elAt m i then 14 else if elAt m i ∈ T then 26 else ckPts m (T ++ [elAt m i]) r
theorem ck_run (m : Im) : ∀ (r : List Nat) (a : Option (List Int)), (ckPts m (a.getD []) r = 0 ∧ ∃ a', runL (CkG m) (CkSt m) a r = CkSt m a') ∨ ∃ T, runL (CkG m) (CkSt m) a r = CkEnd m T (ckPts m (a.getD []) r)
  | [], a => .inl ⟨rfl, a, rfl⟩
  | i :: r, a => by
    rw [runL_cons]
    unfold CkG ckPts
    dsimp only
    by_cases h1 : (m.dt.length : Int) ≤ elAt m i
    · simp only [h1, if_true]
      exact .inr ⟨_, rfl⟩
    · by_cases h2 : elAt m i ∈ a.getD []
      · simp only [h1, h2, if_true, if_false]
        exact .inr ⟨_, rfl⟩
      · simp only [h1, h2, if_false]
        exact ck_run m r (some (a.getD [] ++ [elAt m i]))
def ckIm (cb : Int → Int) (m : Im) : Int := if ckA m = 0 then (if ckB m = 0 then (if fnz (m.dt.map cb) = 0 then ckPts m [] (List.range (many m.bx).toNat) else fnz (m.dt.map cb)) else ckB m) else ckA m
theorem ckA0 {m : Im} (h : ckA m = 0) : ckKind m.kd = 0 ∧ ckBox m.bx = 0 ∧ m.st.length = m.bx.length := by
  have h1 := fz0 _ h (ckKind m.kd) (by simp)
  have h2 := fz0 _ h (ckBox m.bx) (by simp)
  have h3 := fz0 _ h (if m.st.length = m.bx.length then 0 else 2) (by simp)
  refine ⟨h1, h2, ?_⟩
  split at h3
  · assumption
  · omega
theorem okCheck (n : Nat) (m : Im) (cb : Int → Int) (hx : m.bx.length < 1000000) (hs : m.st.length < 1000000) (hd : m.dt.length < 1000000) (H : ∀ v ∈ m.dt, callP (level E (n+5)) 61 [.int .i64 m.kd, .int .u64 v] = some (.int .i64 (cb v))) :
    callP (level E (n+9)) 48 [enIm m] = some (.int .i64 (ckIm cb m)) := by
  rw [p48]
  have k1 := okCheckKind (n+6) m.kd
  have b1 := okCheckBox (n+4) m.bb m.bx hx
  have f1 := okFirstL (n+7) [[.int .i64 (ckKind m.kd)], [.int .i64 (ckBox m.bx)], [.int .i64 (if m.st.length = m.bx.length then 0 else 2)]] [ckKind m.kd, ckBox m.bx, if m.st.length = m.bx.length then 0 else 2] rfl (by simp)
  have w1 : callP (level E (n+8)) 54 [.bool (decide (¬ (m.st.length : Int) = m.bx.length)), .int .i64 2] = some (.int .i64 (if m.st.length = m.bx.length then 0 else 2)) := by
    rw [okWhen (n+7)]
    by_cases h : m.st.length = m.bx.length
    · simp [h]
    · have : ¬ (m.st.length : Int) = m.bx.length := by omega
      simp [h, this]
  have f1' : callP (level E (n+8)) 55 [.sl 1 [[.int .i64 (ckKind m.kd)], [.int .i64 (ckBox m.bx)], [.int .i64 (if m.st.length = m.bx.length then 0 else 2)]]] = some (.int .i64 (ckA m)) := f1
  have c1 := okContains (n+6) m.tb m.st 89 (fun x => !(decide (x ≥ 0) && decide (x ≤ 4096))) (by omega) (fun x _ => okCheck_1 (n+4) x)
  have w2 := okWhen (n+7) (m.st.any (fun x => !(decide (x ≥ 0) && decide (x ≤ 4096)))) 3
  have w3 : callP (level E (n+8)) 54 [.bool (decide ((m.dt.length : Int) > 4096)), .int .i64 5] = some (.int .i64 (if 4096 < m.dt.length then 5 else 0)) := by
    rw [okWhen (n+7)]
    by_cases h : 4096 < m.dt.length
    · have : (m.dt.length : Int) > 4096 := by omega
      simp [h, this]
    · have : ¬ (m.dt.length : Int) > 4096 := by omega
      simp [h, this]
  have f2 := okFirstL (n+7) [[.int .i64 (if m.st.any (fun x => !(decide (x ≥ 0) && decide (x ≤ 4096))) then 3 else 0)], [.int .i64 (if 4096 < m.dt.length then 5 else 0)]] [if m.st.any (fun x => !(decide (x ≥ 0) && decide (x ≤ 4096))) then 3 else 0, if 4096 < m.dt.length then 5 else 0] rfl (by simp)
  have f2' : callP (level E (n+8)) 55 [.sl 1 [[.int .i64 (if m.st.any (fun x => !(decide (x ≥ 0) && decide (x ≤ 4096))) then 3 else 0)], [.int .i64 (if 4096 < m.dt.length then 5 else 0)]]] = some (.int .i64 (ckB m)) := f2
  have e1 := okElements (n+4) m.db m.kd m.dt cb hd H
  by_cases h1 : ckA m = 0
  · obtain ⟨g1, g2, g3⟩ := ckA0 h1
    obtain ⟨q1, q2, q3, q4⟩ := ckBox0 g2
    obtain ⟨N, hN, hN2⟩ := many_nat g2
    by_cases h2 : ckB m = 0
    · by_cases h3 : fnz (m.dt.map cb) = 0
      · have a1 := okAll (n+7) m.bb m.bx
        have h := okAll1 (n+6) m.bb m.bx q2 N hN (by omega) (CkSt m) (fun _ _ => True) (CkG m) none trivial
          (fun a i _ hi => ⟨by
            have hr := okCheckR (n+5) m q2 g3.symm a i (by omega)
            cases hg : CkG m a i with
            | inl a' => rw [hg] at hr; exact hr
            | inr e => rw [hg] at hr; exact hr, fun _ _ => trivial⟩)
        simp only [CkSt, CkV] at h
        have hNt : (many m.bx).toNat = N := by omega
        simp only [go_sem, Nat.reduceAdd, Nat.reduceSub, Nat.reduceMul, Nat.reduceDiv, Nat.reduceMod, Nat.reduceLeDiff, Nat.reduceLT, Nat.reduceBEq, Int.reduceToNat, Int.reduceLT, Int.reduceLE, Int.reduceEq, enIm, k1, b1, w1, f1', h1, c1, w2, w3, f2', h2, e1, h3, a1, ne_eq, not_true_eq_false, ckIm, hNt]
        simp only [enIm] at h
        rw [h]
        rcases ck_run m (List.range N) none with ⟨h5, a', h6⟩ | ⟨T, h6⟩
        · rw [h6]
          simp only [Option.getD_none] at h5
          rcases a' with _ | T <;> simp only [go_sem, Nat.reduceAdd, Nat.reduceSub, Nat.reduceMul, Nat.reduceDiv, Nat.reduceMod, Nat.reduceLeDiff, Nat.reduceLT, Nat.reduceBEq, Int.reduceToNat, Int.reduceLT, Int.reduceLE, Int.reduceEq, CkSt, CkV, h5]
        · rw [h6]
          simp only [go_sem, Nat.reduceAdd, Nat.reduceSub, Nat.reduceMul, Nat.reduceDiv, Nat.reduceMod, Nat.reduceLeDiff, Nat.reduceLT, Nat.reduceBEq, Int.reduceToNat, Int.reduceLT, Int.reduceLE, Int.reduceEq, CkEnd, CkV]
      · simp only [go_sem, Nat.reduceAdd, Nat.reduceSub, Nat.reduceMul, Nat.reduceDiv, Nat.reduceMod, Nat.reduceLeDiff, Nat.reduceLT, Nat.reduceBEq, Int.reduceToNat, Int.reduceLT, Int.reduceLE, Int.reduceEq, enIm, k1, b1, w1, f1', h1, c1, w2, w3, f2', h2, e1, h3, ne_eq, not_true_eq_false, not_false_eq_true, ckIm]
    · simp only [go_sem, Nat.reduceAdd, Nat.reduceSub, Nat.reduceMul, Nat.reduceDiv, Nat.reduceMod, Nat.reduceLeDiff, Nat.reduceLT, Nat.reduceBEq, Int.reduceToNat, Int.reduceLT, Int.reduceLE, Int.reduceEq, enIm, k1, b1, w1, f1', h1, c1, w2, w3, f2', h2, ne_eq, not_true_eq_false, not_false_eq_true, ckIm]
  · simp only [go_sem, Nat.reduceAdd, Nat.reduceSub, Nat.reduceMul, Nat.reduceDiv, Nat.reduceMod, Nat.reduceLeDiff, Nat.reduceLT, Nat.reduceBEq, Int.reduceToNat, Int.reduceLT, Int.reduceLE, Int.reduceEq, enIm, k1, b1, w1, f1', h1, ne_eq, not_false_eq_true, ckIm]
end Go.Vm.P4D

/- Chapter 04, functions: elements of points, images made of a function. -/
set_option maxRecDepth 100000
set_option maxHeartbeats 4000000
namespace Go.Vm.P4D
open Go Go.Vm Go.Vm.P4
theorem okViewAt (n : Nat) (m : Im) (p : List Int) (k : Nat) (v : Int) (hp : p.length = 3) (h3 : m.bx.length ≤ 3) (hs : m.bx.length ≤ m.st.length) (he : elt m.bx p m.st 0 = k) (hv : m.dt[k]? = some v) :
    callP (level E (n+2)) 62 [enIm m, enP p] = some (.int .u64 v) := by
  rw [p62]
  have h1 := okElement n m.bb m.tb m.bx m.st p h3 hs hp
  obtain ⟨x, y, z, rfl⟩ : ∃ x y z, p = [x, y, z] := by
    match p, hp with
    | [x, y, z], _ => exact ⟨x, y, z, rfl⟩
  rw [he] at h1
  simp only [enP, List.map_cons, List.map_nil] at h1 ⊢
  simp only [go_sem, Nat.reduceAdd, Nat.reduceSub, Nat.reduceMul, Nat.reduceDiv, Nat.reduceMod, Nat.reduceLeDiff, Nat.reduceLT, Nat.reduceBEq, Int.reduceToNat, Int.reduceLT, Int.reduceLE, Int.reduceEq, enIm, h1, hv]
def ckAt (cb : Int → Int) (m : Im) (p : List Int) : Int := if fnz [ckIm cb m, if p.length = m.bx.length then 0 else 13] = 0 then (if hasB m.bx p then 0 else 14) else fnz [ckIm cb m, if p.length = m.bx.length then 0 else 13]
theorem okCheckAt (n : Nat) (m : Im) (c : Bool) (p : List Int) (cb : Int → Int) (hx : m.bx.length < 1000000) (hs : m.st.length < 1000000) (hd : m.dt.length < 1000000) (H : ∀ v ∈ m.dt, callP (level E (n+5)) 61 [.int .i64 m.kd, .int .u64 v] = some (.int .i64 (cb v))) :
    callP (level E (n+10)) 76 [enIm m, slD c 1 (p.map ic)] = some (.int .i64 (ckAt cb m p)) := by
  rw [p76]
  have h1 := okCheck n m cb hx hs hd H
  have f1 := okFirstL (n+8) [[.int .i64 (ckIm cb m)], [.int .i64 (if p.length = m.bx.length then 0 else 13)]] [ckIm cb m, if p.length = m.bx.length then 0 else 13] rfl (by simp)
  have w1 : callP (level E (n+9)) 54 [.bool (decide (¬ (p.length : Int) = m.bx.length)), .int .i64 13] = some (.int .i64 (if p.length = m.bx.length then 0 else 13)) := by
    rw [okWhen (n+8)]
    by_cases h : p.length = m.bx.length
    · simp [h]
    · have : ¬ (p.length : Int) = m.bx.length := by omega
      simp [h, this]
  by_cases h2 : fnz [ckIm cb m, if p.length = m.bx.length then 0 else 13] = 0
  · have h4 := fz0 _ h2 (if p.length = m.bx.length then 0 else 13) (by simp)
    have h5 : p.length = m.bx.length := by
      split at h4
      · assumption
      · omega
    have h6 := okHas0 (n+8) m.bb c m.bx p (by omega) (by omega)
    rw [h2] at f1
    simp only [enIm] at h1
    cases h7 : hasB m.bx p
    · rw [h7] at h6
      simp only [go_sem, Nat.reduceAdd, Nat.reduceSub, Nat.reduceMul, Nat.reduceDiv, Nat.reduceMod, Nat.reduceLeDiff, Nat.reduceLT, Nat.reduceBEq, Int.reduceToNat, Int.reduceLT, Int.reduceLE, Int.reduceEq, enIm, h1, w1, f1, h2, h6, h7, okWhen, ckAt, ne_eq, not_true_eq_false, Bool.false_eq_true]
    · rw [h7] at h6
      simp only [go_sem, Nat.reduceAdd, Nat.reduceSub, Nat.reduceMul, Nat.reduceDiv, Nat.reduceMod, Nat.reduceLeDiff, Nat.reduceLT, Nat.reduceBEq, Int.reduceToNat, Int.reduceLT, Int.reduceLE, Int.reduceEq, enIm, h1, w1, f1, h2, h6, h7, okWhen, ckAt, ne_eq, not_true_eq_false, Bool.false_eq_true]
  · simp only [enIm] at h1
    simp only [go_sem, Nat.reduceAdd, Nat.reduceSub, Nat.reduceMul, Nat.reduceDiv, Nat.reduceMod, Nat.reduceLeDiff, Nat.reduceLT, Nat.reduceBEq, Int.reduceToNat, Int.reduceLT, Int.reduceLE, Int.reduceEq, enIm, h1, w1, f1, h2, ckAt, ne_eq, not_false_eq_true]
theorem okAtS (n : Nat) (m : Im) (c : Bool) (p : List Int) (h1 : callP (level E (n+10)) 76 [enIm m, slD c 1 (p.map ic)] = some (.int .i64 0)) (h3 : m.bx.length ≤ 3) (hpl : p.length ≤ 3) (hs : m.bx.length ≤ m.st.length)
    (k : Nat) (v : Int) (he : elt m.bx ((p ++ [0, 0, 0]).take 3) m.st 0 = k) (hv : m.dt[k]? = some v) :
    callP (level E (n+11)) 24 [enIm m, slD c 1 (p.map ic)] = some (.tup [.agg [.int .i64 m.kd, .int .u64 v], .int .i64 0]) := by
  rw [p24]
  have h2 := okOf (n+9) c p hpl
  have h4 := okViewAt (n+8) m ((p ++ [0, 0, 0]).take 3) k v (by simp) h3 hs he hv
  simp only [enIm] at h1 h4
  simp only [go_sem, Nat.reduceAdd, Nat.reduceSub, Nat.reduceMul, Nat.reduceDiv, Nat.reduceMod, Nat.reduceLeDiff, Nat.reduceLT, Nat.reduceBEq, Int.reduceToNat, Int.reduceLT, Int.reduceLE, Int.reduceEq, enIm, h1, h2, h4, ne_eq, not_true_eq_false]
end Go.Vm.P4D

/- Chapter 04, functions: images made of a function. -/
set_option maxRecDepth 100000
set_option maxHeartbeats 4000000
namespace Go.Vm.P4D
open Go Go.Vm Go.Vm.P4
def CoV (kd : Int) (b : Bool) (l : Bx) (f : D) (q : Nat) : List AV := [.imm (.int .i64 kd), .imm (enB b l), .imm f, .ptr 0 0, .imm (.ptr [f]), .ptr q 0, .junk, .imm (.fn 95 [] [.ptr [enB b l]]), .junk, .junk]
def z4 : List AV := [.imm (.int .i64 0), .imm .nil, .imm .nil, .imm .nil]
def CoSt (kd : Int) (b : Bool) (l : Bx) (f : D) : List (List D) → Ext
  | [] => ⟨[8, 9], b63_0, b63_1, CoV kd b l f 2, [.box z4, .arr 2 (l.map enR), .box [.imm (.int .i64 kd), .ref 1 2 0 l.length, .imm (slD true 1 ((strides 1 l).map ic)), .imm .nil]], 0, none⟩
  | acc => ⟨[8, 9], b63_0, b63_1, CoV kd b l f 1, [.box z4, .box [.imm (.int .i64 kd), .ref 2 2 0 l.length, .imm (slD true 1 ((strides 1 l).map ic)), .ref 3 1 0 acc.length], .arr 2 (l.map enR), .arr 1 acc], 0, none⟩
theorem dL_cat (st : List AO) (fs cs : List D) (a : D) : deepL st (fs.map AV.imm ++ [.imm a] ++ cs.map AV.imm) = some (fs ++ [a] ++ cs) := by
  rw [show fs.map AV.imm ++ [.imm a] ++ cs.map AV.imm = (fs ++ [a] ++ cs).map AV.imm from by simp]
  exact dL_map _
theorem iL_cat (fs cs : List D) (a : D) : idsL (fs.map AV.imm ++ [.imm a] ++ cs.map AV.imm) = [] := by
  rw [show fs.map AV.imm ++ [.imm a] ++ cs.map AV.imm = (fs ++ [a] ++ cs).map AV.imm from by simp]
  exact iL_map _
theorem okCollectR (n : Nat) (kd : Int) (b : Bool) (l : Bx) (fid : FuncId) (fs cs : List D) (F : List Int → Int) (acc : List (List D)) (i : Nat) (ha : acc.length = i) (hi : i < 1000000)
    (H : callP (level E (n+1)) fid (fs ++ [enP (plc l i)] ++ cs) = some (.int .u64 (F (plc l i)))) :
    (level E (n+2)).round (CoSt kd b l (.fn fid fs cs) acc) [.int .i64 (i : Int), enP (plc l i)] = some (CoSt kd b l (.fn fid fs cs) (acc ++ [ub (F (plc l i))]), true) := by
  obtain ⟨x, y, z, hp⟩ : ∃ x y z, plc l i = [x, y, z] := by
    match hh : plc l i, plc_len l i with
    | [x, y, z], _ => exact ⟨x, y, z, rfl⟩
  rw [hp] at H ⊢
  have e1 : (acc.length + 1) * 9 ≤ 70368744177664 := by omega
  simp only [enP, List.map_cons, List.map_nil] at H
  rcases acc with _ | ⟨w, acc⟩
  · unfold CoSt
    dsimp only
    rw [round_go rfl]
    simp only [CoV, enP, z4]
    simp only [go_sem, Nat.reduceAdd, Nat.reduceSub, Nat.reduceMul, Nat.reduceDiv, Nat.reduceMod, Nat.reduceLeDiff, Nat.reduceLT, Nat.reduceBEq, Int.reduceToNat, Int.reduceLT, Int.reduceLE, Int.reduceEq, dL_cat, iL_cat, H]
  · simp only [List.length_cons] at e1
    unfold CoSt
    dsimp only
    rw [round_go rfl]
    simp only [CoV, enP, z4]
    simp only [go_sem, Nat.reduceAdd, Nat.reduceSub, Nat.reduceMul, Nat.reduceDiv, Nat.reduceMod, Nat.reduceLeDiff, Nat.reduceLT, Nat.reduceBEq, Int.reduceToNat, Int.reduceLT, Int.reduceLE, Int.reduceEq, e1, dL_cat, iL_cat, H]
def mkIm (kd : Int) (l : Bx) (N : Nat) (F : List Int → Int) : Im := ⟨kd, false, l, true, strides 1 l, true, (List.range N).map fun i => F (plc l i)⟩
theorem okCollect (n : Nat) (kd : Int) (b : Bool) (l : Bx) (fid : FuncId) (fs cs : List D) (F : List Int → Int) (h1 : 1 ≤ l.length) (h3 : l.length ≤ 3) (N : Nat) (hN : many l = N) (hN2 : N < 1000000)
    (H : ∀ i, i < N → callP (level E (n+1)) fid (fs ++ [enP (plc l i)] ++ cs) = some (.int .u64 (F (plc l i)))) :
    callP (level E (n+4)) 63 [.int .i64 kd, enB b l, .fn fid fs cs] = some (enIm (mkIm kd l N F)) := by
  rw [p63]
  have a1 := okAll (n+2) b l
  have c1 := okCloneB (n+2) b l (by omega)
  have d1 := okDense (n+2) b l (by omega)
  have h := okAll1 (n+1) b l h3 N hN (by omega) (CoSt kd b l (.fn fid fs cs)) (fun a i => a.length = i) (fun a i => .inl (a ++ [ub (F (plc l i))])) [] rfl
    (fun a i hI hi => ⟨okCollectR n kd b l fid fs cs F a i hI (by omega) (H i hi), fun a' ha => by injection ha with ha; subst ha; simp [hI]⟩)
  rw [runL_fold, fold_snoc, List.nil_append] at h
  have e1 : clV b 2 (l.map enR) = .ref 0 2 0 l.length := by
    rcases l with _ | ⟨x, t⟩
    · simp at h1
    · cases b <;> simp [clV]
  have e2 : clO 2 (l.map enR) = [.arr 2 (l.map enR)] := by
    rcases l with _ | ⟨x, t⟩
    · simp at h1
    · simp [clO]
  have e3 : flatDLL (l.map enR) = true := by
    clear h h1 h3 hN H c1 d1 a1 e1 e2
    induction l with
    | nil => rfl
    | cons x t ih => simp only [go_sem, Nat.reduceAdd, Nat.reduceSub, Nat.reduceMul, Nat.reduceDiv, Nat.reduceMod, Nat.reduceLeDiff, Nat.reduceLT, Nat.reduceBEq, Int.reduceToNat, Int.reduceLT, Int.reduceLE, Int.reduceEq, ih]
  rw [e1, e2] at c1
  simp only [go_sem, Nat.reduceAdd, Nat.reduceSub, Nat.reduceMul, Nat.reduceDiv, Nat.reduceMod, Nat.reduceLeDiff, Nat.reduceLT, Nat.reduceBEq, Int.reduceToNat, Int.reduceLT, Int.reduceLE, Int.reduceEq, c1, d1, e3, a1]
  simp only [CoSt, CoV, z4] at h
  rw [h]
  have e4 : (List.range N).map (fun i => ub (F (plc l i))) = ((List.range N).map fun i => F (plc l i)).map ub := by simp
  rw [e4]
  cases hq : (List.range N).map (fun i => F (plc l i)) with
  | nil => simp only [go_sem, Nat.reduceAdd, Nat.reduceSub, Nat.reduceMul, Nat.reduceDiv, Nat.reduceMod, Nat.reduceLeDiff, Nat.reduceLT, Nat.reduceBEq, Int.reduceToNat, Int.reduceLT, Int.reduceLE, Int.reduceEq, CoSt, CoV, z4, enIm, mkIm, hq] <;> rfl
  | cons w t => simp only [go_sem, Nat.reduceAdd, Nat.reduceSub, Nat.reduceMul, Nat.reduceDiv, Nat.reduceMod, Nat.reduceLeDiff, Nat.reduceLT, Nat.reduceBEq, Int.reduceToNat, Int.reduceLT, Int.reduceLE, Int.reduceEq, CoSt, CoV, z4, enIm, mkIm, hq] <;> rfl
end Go.Vm.P4D

/- Chapter 04, functions: Crop, Delete, Insert, Slice. -/
set_option maxRecDepth 100000
set_option maxHeartbeats 4000000
namespace Go.Vm.P4D
open Go Go.Vm Go.Vm.P4
theorem okEqualB (n : Nat) (b c : Bool) (l : Bx) (hl : l.length < 1000000000) : callP (level E (n+1)) 68 [enB b l, enB c l] = some (.bool true) := by
  rw [p68]
  simp only [go_sem, Nat.reduceAdd, Nat.reduceSub, Nat.reduceMul, Nat.reduceDiv, Nat.reduceMod, Nat.reduceLeDiff, Nat.reduceLT, Nat.reduceBEq, Int.reduceToNat, Int.reduceLT, Int.reduceLE, Int.reduceEq, ne_eq, not_true_eq_false]
  have h := loop_fold (f := aCode (level E (n)) ⟨0, false⟩ b68_0) (h := head ⟨0, false⟩ [1, 1, 0, 0, 0, 1, 1, 0, 0]) (Φ := outC ⟨0, false⟩ [0, 0, 1, 0, 0, 0, 0, 0, 0]) l (fun (a : Unit) i => ⟨[.imm (slD b 2 (l.map enR)), .imm (slD c 2 (l.map enR)), .junk, .junk, .junk, .imm (.int .i64 l.length), .imm (.int .i64 i), .junk, .junk], [], none⟩) (fun _ _ => True)
    (fun a x => ()) (fun a => some (.exit 0, ⟨[.junk, .junk, .junk, .junk, .junk, .junk, .junk, .junk, .junk], [], none⟩)) () trivial
    (fun a i x hI h2 h1 => by
      refine ⟨?_, trivial⟩
      rw [rnd_eq]
      simp only [go_sem, Nat.reduceAdd, Nat.reduceSub, Nat.reduceMul, Nat.reduceDiv, Nat.reduceMod, Nat.reduceLeDiff, Nat.reduceLT, Nat.reduceBEq, Int.reduceToNat, Int.reduceLT, Int.reduceLE, Int.reduceEq, lt_t h2, h1, aEq, eqL, eqE, intEq, beq_self_eq_true]
      rw [wrpS (by omega)])
    (fun a _ => by
      rw [rnd_eq]
      simp only [go_sem, Nat.reduceAdd, Nat.reduceSub, Nat.reduceMul, Nat.reduceDiv, Nat.reduceMod, Nat.reduceLeDiff, Nat.reduceLT, Nat.reduceBEq, Int.reduceToNat, Int.reduceLT, Int.reduceLE, Int.reduceEq, lt_f (Nat.le_refl _)])
  rw [cast_0] at h
  rw [h]
  simp only [go_sem, Nat.reduceAdd, Nat.reduceSub, Nat.reduceMul, Nat.reduceDiv, Nat.reduceMod, Nat.reduceLeDiff, Nat.reduceLT, Nat.reduceBEq, Int.reduceToNat, Int.reduceLT, Int.reduceLE, Int.reduceEq]
def Lies (m : Im) (l : Bx) (N : Nat) (F : List Int → Int) : Prop := ∀ i, i < N → ∃ k : Nat, elt m.bx (plc l i) m.st 0 = k ∧ m.dt[k]? = some (F (plc l i))
theorem okCropS (n : Nat) (m : Im) (c : Bool) (l : Bx) (h1 : callP (level E (n+9)) 48 [enIm m] = some (.int .i64 0)) (hm : ckBox m.bx = 0) (hs : m.st.length = m.bx.length) (h2 : ckBox l = 0) (h3 : l.length = m.bx.length) (hz : List.zipWith rmeet m.bx l = l)
    (N : Nat) (hN : many l = N) (F : List Int → Int) (hF : Lies m l N F) :
    callP (level E (n+10)) 19 [enIm m, enB c l] = some (.tup [enIm (mkIm m.kd l N F), .int .i64 0]) := by
  obtain ⟨q1, q2, _, q4⟩ := ckBox0 h2
  obtain ⟨r1, r2, _, _⟩ := ckBox0 hm
  rw [p19]
  have c1 := okCheckBox (n+5) c l (by omega)
  have m1 := okMany (n+8) c l (by omega)
  have f1 := okFirstL (n+8) [[.int .i64 0], [.int .i64 0], [.int .i64 0]] [0, 0, 0] rfl (by simp)
  have z1 := okZipped (n+8) m.bb c m.bx l 70 rmeet (by omega) (by omega) (fun r s => okMeet (n+7) r s)
  rw [hz] at z1
  have e1 := okEqualB (n+8) true c l (by omega)
  have k1 := okCollect (n+5) m.kd c l 62 [enIm m] [] F q1 q2 N hN (by omega) (fun i hi => by
    obtain ⟨k, hk1, hk2⟩ := hF i hi
    exact okViewAt (n+4) m (plc l i) k _ (plc_len l i) r2 (by omega) hk1 hk2)
  have hw := okWhen (n+8) false 13
  simp only [enIm] at h1 k1
  rw [h2] at c1
  simp only [fnz, if_true] at f1
  by_cases hp : many l > 0
  · simp only [go_sem, Nat.reduceAdd, Nat.reduceSub, Nat.reduceMul, Nat.reduceDiv, Nat.reduceMod, Nat.reduceLeDiff, Nat.reduceLT, Nat.reduceBEq, Int.reduceToNat, Int.reduceLT, Int.reduceLE, Int.reduceEq, enIm, h1, c1, m1, f1, h3, z1, e1, hp, hw, k1, ne_eq, not_true_eq_false, Bool.false_eq_true]
  · simp only [go_sem, Nat.reduceAdd, Nat.reduceSub, Nat.reduceMul, Nat.reduceDiv, Nat.reduceMod, Nat.reduceLeDiff, Nat.reduceLT, Nat.reduceBEq, Int.reduceToNat, Int.reduceLT, Int.reduceLE, Int.reduceEq, enIm, h1, c1, m1, f1, h3, hp, hw, k1, ne_eq, not_true_eq_false, Bool.false_eq_true]
theorem okDel20 (n : Nat) (r s : Rg) : callS (level E (n+1)) 86 [.ref 0 2 0 2, .imm (.int .i64 0), .imm (.int .i64 1)] [.arr 2 [enR r, enR s]] = some (.ref 1 2 0 1, [.dead, .arr 2 [enR s, [.int .i64 0, .int .i64 0]]]) := by
  rw [s86]
  simp only [go_sem, Nat.reduceAdd, Nat.reduceSub, Nat.reduceMul, Nat.reduceDiv, Nat.reduceMod, Nat.reduceLeDiff, Nat.reduceLT, Nat.reduceBEq, Int.reduceToNat, Int.reduceLT, Int.reduceLE, Int.reduceEq]
theorem ins_call (n : Nat) (es : List (List D)) (i : Nat) (a : D) (hi : i ≤ es.length) (hl : es.length < 1000000) : (level E (n+1)).call 88 [.ref 0 1 0 es.length, .imm (.int .i64 i), .ref 1 1 0 1] [.arr 1 es, .arr 1 [[a]]] none =
    some (.ref 2 1 0 (es.length + 1), [.dead, .arr 1 [[a]], .arr 1 (es.take i ++ [a] :: es.drop i)], none) := by
  have h1 : E.fn 88 = none := rfl
  have h2 : E.prim 88 = some insPrim := rfl
  have k1 : (0 : Int) ≤ (i : Int) := by omega
  have k2 : (i : Int) ≤ (es.length : Int) := by omega
  simp only [level, h1, runPrim, h2, insPrim, List.getElem?_cons_zero, List.getElem?_cons_succ, k1, k2, hl, and_self, ne_eq, Nat.zero_ne_one, not_false_eq_true, if_true, Int.toNat_natCast]
  rfl
theorem okIns (n : Nat) (es : List (List D)) (i : Nat) (a : D) (hi : i ≤ es.length) (hl : es.length < 1000000) : callS (level E (n+1)) 88 [.ref 0 1 0 es.length, .imm (.int .i64 i), .ref 1 1 0 1] [.arr 1 es, .arr 1 [[a]]] =
    some (.ref 2 1 0 (es.length + 1), [.dead, .arr 1 [[a]], .arr 1 (es.take i ++ [a] :: es.drop i)]) := by
  unfold callS
  rw [ins_call n es i a hi hl]
  simp only [go_sem, Nat.reduceAdd, Nat.reduceSub, Nat.reduceMul, Nat.reduceDiv, Nat.reduceMod, Nat.reduceLeDiff, Nat.reduceLT, Nat.reduceBEq, Int.reduceToNat, Int.reduceLT, Int.reduceLE, Int.reduceEq]
theorem okSlice_1 (n : Nat) (m : Im) (at' x y z : Int) (h3 : m.bx.length = 2) (hs : m.bx.length ≤ m.st.length) (k : Nat) (v : Int) (he : elt m.bx [at', x, 0] m.st 0 = k) (hv : m.dt[k]? = some v) :
    callP (level E (n+3)) 87 ([] ++ [enP [x, y, z]] ++ [.ptr [.int .i64 m.kd, enB m.bb m.bx, slD m.tb 1 (m.st.map ic), slD m.db 1 (m.dt.map ub)], .ptr [.int .i64 0], .ptr [.int .i64 at']]) = some (.int .u64 v) := by
  show callP (level E (n+3)) 87 [enP [x, y, z], .ptr [.int .i64 m.kd, enB m.bb m.bx, slD m.tb 1 (m.st.map ic), slD m.db 1 (m.dt.map ub)], .ptr [.int .i64 0], .ptr [.int .i64 at']] = _
  rw [p87]
  have c1 := okCloneI (n+1) false [x] (by simp)
  simp only [clV, clO, slD, List.map_cons, List.map_nil, ic] at c1
  have i1 := okIns (n+1) [[.int .i64 x]] 0 (.int .i64 at') (by simp) (by simp)
  have o1 := okOf (n+1) false [at', x] (by simp)
  simp only [List.map_cons, List.map_nil, ic, slD] at o1
  have v1 := okViewAt n m [at', x, 0] k v rfl (by omega) hs he hv
  have e2 : (m.bx.length : Int) = 2 := by omega
  simp only [enIm, enP, List.map_cons, List.map_nil] at v1
  have w21 : wrp .i64 (2 - 1) = 1 := by decide
  simp only [enP, go_sem, Nat.reduceAdd, Nat.reduceSub, Nat.reduceMul, Nat.reduceDiv, Nat.reduceMod, Nat.reduceLeDiff, Nat.reduceLT, Nat.reduceBEq, Int.reduceToNat, Int.reduceLT, Int.reduceLE, Int.reduceEq] at o1
  simp only [go_sem, Nat.reduceAdd, Nat.reduceSub, Nat.reduceMul, Nat.reduceDiv, Nat.reduceMod, Nat.reduceLeDiff, Nat.reduceLT, Nat.reduceBEq, Int.reduceToNat, Int.reduceLT, Int.reduceLE, Int.reduceEq] at i1
  simp only [go_sem, Nat.reduceAdd, Nat.reduceSub, Nat.reduceMul, Nat.reduceDiv, Nat.reduceMod, Nat.reduceLeDiff, Nat.reduceLT, Nat.reduceBEq, Int.reduceToNat, Int.reduceLT, Int.reduceLE, Int.reduceEq, enP, e2, w21, c1, i1, o1, v1]
theorem okSlice2 (n : Nat) (m : Im) (r s : Rg) (hb : m.bx = [r, s]) (at' : Int) (h1 : callP (level E (n+9)) 48 [enIm m] = some (.int .i64 0)) (hs : m.st.length = 2) (hk : ckBox m.bx = 0) (g1 : at' ≥ r.lo) (g2 : at' ≤ r.lo + r.ex - 1)
    (N : Nat) (hN : many [s] = N) (hN2 : N < 1000000) (F : List Int → Int) (hF : ∀ i, i < N → ∃ x y z k, plc [s] i = [x, y, z] ∧ elt m.bx [at', x, 0] m.st 0 = (k : Nat) ∧ m.dt[k]? = some (F [x, y, z])) :
    callP (level E (n+10)) 46 [enIm m, .int .i64 0, .int .i64 at'] = some (.tup [enIm (mkIm m.kd [s] N F), .int .i64 0]) := by
  obtain ⟨_, _, hr, _⟩ := ckBox0 hk
  have hr0 := ckRange0 (hr r (by rw [hb]; simp))
  rw [p46]
  have f1 := okFirstL (n+8) [[.int .i64 0], [.int .i64 0], [.int .i64 0]] [0, 0, 0] rfl (by simp)
  simp only [fnz, if_true] at f1
  have w1 := okWhen (n+8) false 13
  have w2 := okWhen (n+8) false 3
  have i1 := okWithin (n+8) 0 0 1
  have i2 := okWithin (n+8) at' r.lo (r.lo + r.ex - 1)
  have c1 := okCloneB (n+8) m.bb [r, s] (by simp)
  have e1 : clV m.bb 2 ([r, s].map enR) = .ref 0 2 0 2 := by cases m.bb <;> rfl
  have e2 : clO 2 ([r, s].map enR) = [.arr 2 [enR r, enR s]] := rfl
  rw [e1, e2] at c1
  have d1 := okDel20 (n+8) r s
  have k1 := okCollect (n+5) m.kd false [s] 87 [] [.ptr [.int .i64 m.kd, enB m.bb m.bx, slD m.tb 1 (m.st.map ic), slD m.db 1 (m.dt.map ub)], .ptr [.int .i64 0], .ptr [.int .i64 at']] F (by simp) (by simp) N hN hN2 (fun i hi => by
    obtain ⟨x, y, z, k, q1, q2, q3⟩ := hF i hi
    rw [q1]
    exact okSlice_1 (n+3) m at' x y z (by rw [hb]; rfl) (by rw [hb, hs]; exact Nat.le_refl _) k _ q2 q3)
  have w21 : wrp .i64 (2 - 1) = 1 := by decide
  have w01 : wrp .i64 (0 + 1) = 1 := by decide
  have w3 : wrp .i64 (r.lo + r.ex) = r.lo + r.ex := wrp_ok (by omega)
  have w4 : wrp .i64 (r.lo + r.ex - 1) = r.lo + r.ex - 1 := wrp_ok (by omega)
  have eb : enB false [s] = .sl 2 [enR s] := rfl
  simp only [enIm, hb, go_sem, Nat.reduceAdd, Nat.reduceSub, Nat.reduceMul, Nat.reduceDiv, Nat.reduceMod, Nat.reduceLeDiff, Nat.reduceLT, Nat.reduceBEq, Int.reduceToNat, Int.reduceLT, Int.reduceLE, Int.reduceEq, enB, slD_c] at h1 k1 c1 d1 i1 i2
  have g1' : r.lo ≤ at' := g1
  simp only [ge_iff_le, g1', g2, go_sem, Nat.reduceAdd, Nat.reduceSub, Nat.reduceMul, Nat.reduceDiv, Nat.reduceMod, Nat.reduceLeDiff, Nat.reduceLT, Nat.reduceBEq, Int.reduceToNat, Int.reduceLT, Int.reduceLE, Int.reduceEq] at i1 i2
  simp only [enIm, hb, go_sem, Nat.reduceAdd, Nat.reduceSub, Nat.reduceMul, Nat.reduceDiv, Nat.reduceMod, Nat.reduceLeDiff, Nat.reduceLT, Nat.reduceBEq, Int.reduceToNat, Int.reduceLT, Int.reduceLE, Int.reduceEq, h1, f1, w1, w2, i1, i2, c1, d1, w21, w01, w3, w4, ge_iff_le, ne_eq, not_true_eq_false, enB, slD_c, ia_sl, k1, mkIm]
  done
end Go.Vm.P4D

/- Chapter 04, functions: Transpose (the first two dimensions of a plane). -/
set_option maxRecDepth 100000
set_option maxHeartbeats 4000000
namespace Go.Vm.P4D
open Go Go.Vm Go.Vm.P4
theorem okTranspose_1 (n : Nat) (m : Im) (x y z : Int) (h3 : m.bx.length ≤ 3) (hs : m.bx.length ≤ m.st.length) (k : Nat) (v : Int) (he : elt m.bx [y, x, z] m.st 0 = k) (hv : m.dt[k]? = some v) :
    callP (level E (n+3)) 67 ([] ++ [enP [x, y, z]] ++ [.ptr [.int .i64 1], .ptr [.int .i64 0], .ptr [.int .i64 m.kd, enB m.bb m.bx, slD m.tb 1 (m.st.map ic), slD m.db 1 (m.dt.map ub)]]) = some (.int .u64 v) := by
  show callP (level E (n+3)) 67 [enP [x, y, z], .ptr [.int .i64 1], .ptr [.int .i64 0], .ptr [.int .i64 m.kd, enB m.bb m.bx, slD m.tb 1 (m.st.map ic), slD m.db 1 (m.dt.map ub)]] = _
  rw [p67]
  have v1 := okViewAt n m [y, x, z] k v rfl h3 hs he hv
  simp only [enIm, enP, List.map_cons, List.map_nil] at v1
  simp only [go_sem, Nat.reduceAdd, Nat.reduceSub, Nat.reduceMul, Nat.reduceDiv, Nat.reduceMod, Nat.reduceLeDiff, Nat.reduceLT, Nat.reduceBEq, Int.reduceToNat, Int.reduceLT, Int.reduceLE, Int.reduceEq, enP, v1]
  done
theorem okTranspose2 (n : Nat) (m : Im) (r s : Rg) (hb : m.bx = [r, s]) (h1 : callP (level E (n+9)) 48 [enIm m] = some (.int .i64 0)) (hs : m.st.length = 2)
    (N : Nat) (hN : many [s, r] = N) (hN2 : N < 1000000) (F : List Int → Int) (hF : ∀ i, i < N → ∃ x y z k, plc [s, r] i = [x, y, z] ∧ elt m.bx [y, x, z] m.st 0 = (k : Nat) ∧ m.dt[k]? = some (F [x, y, z])) :
    callP (level E (n+10)) 18 [enIm m, .int .i64 0, .int .i64 1] = some (.tup [enIm (mkIm m.kd [s, r] N F), .int .i64 0]) := by
  rw [p18]
  have f1 := okFirstL (n+8) [[.int .i64 0], [.int .i64 0], [.int .i64 0]] [0, 0, 0] rfl (by simp)
  simp only [fnz, if_true] at f1
  have w2 := okWhen (n+8) false 3
  have i1 := okWithin (n+8) 0 0 1
  have i2 := okWithin (n+8) 1 0 1
  have c1 := okCloneB (n+8) m.bb [r, s] (by simp)
  have e1 : clV m.bb 2 ([r, s].map enR) = .ref 0 2 0 2 := by cases m.bb <;> rfl
  have e2 : clO 2 ([r, s].map enR) = [.arr 2 [enR r, enR s]] := rfl
  rw [e1, e2] at c1
  have k1 := okCollect (n+5) m.kd false [s, r] 67 [] [.ptr [.int .i64 1], .ptr [.int .i64 0], .ptr [.int .i64 m.kd, enB m.bb m.bx, slD m.tb 1 (m.st.map ic), slD m.db 1 (m.dt.map ub)]] F (by simp) (by simp) N hN hN2 (fun i hi => by
    obtain ⟨x, y, z, k, q1, q2, q3⟩ := hF i hi
    rw [q1]
    exact okTranspose_1 (n+3) m x y z (by rw [hb]; simp) (by rw [hb, hs]; exact Nat.le_refl _) k _ q2 q3)
  have w21 : wrp .i64 (2 - 1) = 1 := by decide
  simp only [enIm, hb, go_sem, Nat.reduceAdd, Nat.reduceSub, Nat.reduceMul, Nat.reduceDiv, Nat.reduceMod, Nat.reduceLeDiff, Nat.reduceLT, Nat.reduceBEq, Int.reduceToNat, Int.reduceLT, Int.reduceLE, Int.reduceEq, enB, slD_c] at h1 k1 c1 i1 i2
  simp only [ge_iff_le, go_sem, Nat.reduceAdd, Nat.reduceSub, Nat.reduceMul, Nat.reduceDiv, Nat.reduceMod, Nat.reduceLeDiff, Nat.reduceLT, Nat.reduceBEq, Int.reduceToNat, Int.reduceLT, Int.reduceLE, Int.reduceEq] at i1 i2
  simp only [enIm, hb, go_sem, Nat.reduceAdd, Nat.reduceSub, Nat.reduceMul, Nat.reduceDiv, Nat.reduceMod, Nat.reduceLeDiff, Nat.reduceLT, Nat.reduceBEq, Int.reduceToNat, Int.reduceLT, Int.reduceLE, Int.reduceEq, h1, f1, w2, i1, i2, c1, w21, ge_iff_le, ne_eq, not_true_eq_false, enB, slD_c, ia_sl, k1, mkIm]
  done
end Go.Vm.P4D

/- Chapter 04, functions: Edge. -/
set_option maxRecDepth 100000
set_option maxHeartbeats 4000000
namespace Go.Vm.P4D
open Go Go.Vm Go.Vm.P4
def modW (a b : Int) : Int := (ad (a.tmod b) b).tmod b
theorem okModulo (n : Nat) (a b : Int) (hb : b ≠ 0) : callP (level E (n+1)) 130 [.int .i64 a, .int .i64 b] = some (.int .i64 (modW a b)) := by
  rw [p130]
  simp only [go_sem, Nat.reduceAdd, Nat.reduceSub, Nat.reduceMul, Nat.reduceDiv, Nat.reduceMod, Nat.reduceLeDiff, Nat.reduceLT, Nat.reduceBEq, Int.reduceToNat, Int.reduceLT, Int.reduceLE, Int.reduceEq, hb, modW, ad, ne_eq, not_false_eq_true]
def inW : Nat → Rg → Int → Int
  | 0, r, c => min (max c r.lo) (sb (ad r.lo r.ex) 1)
  | 1, r, c => ad r.lo (modW (sb c r.lo) r.ex)
  | _, r, c => ad r.lo (min (modW (sb c r.lo) (ml 2 r.ex)) (sb (sb (ml 2 r.ex) 1) (modW (sb c r.lo) (ml 2 r.ex))))
def bF : Nat → FuncId
  | 0 => 128
  | 1 => 129
  | _ => 131
theorem okBound (n : Nat) (rule : Nat) (r : Rg) (c : Int) (h1 : r.ex ≠ 0) (h2 : ml 2 r.ex ≠ 0) : callP (level E (n+2)) (bF rule) [enRD r, .int .i64 c] = some (.int .i64 (inW rule r c)) := by
  match rule with
  | 0 =>
    show callP (level E (n+2)) 128 [enRD r, .int .i64 c] = _
    rw [p128]
    simp only [go_sem, Nat.reduceAdd, Nat.reduceSub, Nat.reduceMul, Nat.reduceDiv, Nat.reduceMod, Nat.reduceLeDiff, Nat.reduceLT, Nat.reduceBEq, Int.reduceToNat, Int.reduceLT, Int.reduceLE, Int.reduceEq, inW, ad, sb]
  | 1 =>
    show callP (level E (n+2)) 129 [enRD r, .int .i64 c] = _
    rw [p129]
    have m1 := okModulo n (sb c r.lo) r.ex h1
    simp only [sb] at m1
    simp only [go_sem, Nat.reduceAdd, Nat.reduceSub, Nat.reduceMul, Nat.reduceDiv, Nat.reduceMod, Nat.reduceLeDiff, Nat.reduceLT, Nat.reduceBEq, Int.reduceToNat, Int.reduceLT, Int.reduceLE, Int.reduceEq, inW, ad, sb, m1]
  | k + 2 =>
    show callP (level E (n+2)) 131 [enRD r, .int .i64 c] = _
    rw [p131]
    have m1 := okModulo n (sb c r.lo) (ml 2 r.ex) h2
    simp only [sb, ml] at m1
    simp only [go_sem, Nat.reduceAdd, Nat.reduceSub, Nat.reduceMul, Nat.reduceDiv, Nat.reduceMod, Nat.reduceLeDiff, Nat.reduceLT, Nat.reduceBEq, Int.reduceToNat, Int.reduceLT, Int.reduceLE, Int.reduceEq, inW, ad, sb, ml, m1]
theorem okMoved (n : Nat) (b c : Bool) (rule : Nat) (hr : rule < 3) (l : Bx) (p : List Int) (h3 : l.length ≤ 3) (hp : p.length = l.length) (inn : Rg → Int → Int) (H : ∀ r ∈ l, ∀ c, callP (level E n) (bF rule) [enRD r, .int .i64 c] = some (.int .i64 (inn r c))) :
    callP (level E (n+1)) 74 [enB b l, .int .i64 rule, slD c 1 (p.map ic)] = some (enP ((List.zipWith inn l p ++ [0, 0, 0]).take 3)) := by
  rw [p74]
  rcases l with _ | ⟨r, _ | ⟨s, _ | ⟨t, _ | ⟨u, l⟩⟩⟩⟩
  · rcases p with _ | ⟨x, p⟩
    · simp only [go_sem, Nat.reduceAdd, Nat.reduceSub, Nat.reduceMul, Nat.reduceDiv, Nat.reduceMod, Nat.reduceLeDiff, Nat.reduceLT, Nat.reduceBEq, Int.reduceToNat, Int.reduceLT, Int.reduceLE, Int.reduceEq, rnd_eq, enP, List.zipWith_nil_left]
    · simp at hp
  · rcases p with _ | ⟨x, _ | ⟨w, p⟩⟩
    · simp at hp
    · have H0 := H r (by simp) x
      match rule, hr with
      | 0, _ =>
        simp only [bF, go_sem, Nat.reduceAdd, Nat.reduceSub, Nat.reduceMul, Nat.reduceDiv, Nat.reduceMod, Nat.reduceLeDiff, Nat.reduceLT, Nat.reduceBEq, Int.reduceToNat, Int.reduceLT, Int.reduceLE, Int.reduceEq] at H0
        simp only [go_sem, Nat.reduceAdd, Nat.reduceSub, Nat.reduceMul, Nat.reduceDiv, Nat.reduceMod, Nat.reduceLeDiff, Nat.reduceLT, Nat.reduceBEq, Int.reduceToNat, Int.reduceLT, Int.reduceLE, Int.reduceEq, rnd_eq, enP, List.zipWith_cons_cons, List.zipWith_nil_left, enB, slD_c, ia_sl, H0]
      | 1, _ =>
        simp only [bF, go_sem, Nat.reduceAdd, Nat.reduceSub, Nat.reduceMul, Nat.reduceDiv, Nat.reduceMod, Nat.reduceLeDiff, Nat.reduceLT, Nat.reduceBEq, Int.reduceToNat, Int.reduceLT, Int.reduceLE, Int.reduceEq] at H0
        simp only [go_sem, Nat.reduceAdd, Nat.reduceSub, Nat.reduceMul, Nat.reduceDiv, Nat.reduceMod, Nat.reduceLeDiff, Nat.reduceLT, Nat.reduceBEq, Int.reduceToNat, Int.reduceLT, Int.reduceLE, Int.reduceEq, rnd_eq, enP, List.zipWith_cons_cons, List.zipWith_nil_left, enB, slD_c, ia_sl, H0]
      | 2, _ =>
        simp only [bF, go_sem, Nat.reduceAdd, Nat.reduceSub, Nat.reduceMul, Nat.reduceDiv, Nat.reduceMod, Nat.reduceLeDiff, Nat.reduceLT, Nat.reduceBEq, Int.reduceToNat, Int.reduceLT, Int.reduceLE, Int.reduceEq] at H0
        simp only [go_sem, Nat.reduceAdd, Nat.reduceSub, Nat.reduceMul, Nat.reduceDiv, Nat.reduceMod, Nat.reduceLeDiff, Nat.reduceLT, Nat.reduceBEq, Int.reduceToNat, Int.reduceLT, Int.reduceLE, Int.reduceEq, rnd_eq, enP, List.zipWith_cons_cons, List.zipWith_nil_left, enB, slD_c, ia_sl, H0]
    · simp at hp
  · rcases p with _ | ⟨x, _ | ⟨y, _ | ⟨w, p⟩⟩⟩
    · simp at hp
    · simp at hp
    · have H0 := H r (by simp) x
      have H1 := H s (by simp) y
      match rule, hr with
      | 0, _ =>
        simp only [bF, go_sem, Nat.reduceAdd, Nat.reduceSub, Nat.reduceMul, Nat.reduceDiv, Nat.reduceMod, Nat.reduceLeDiff, Nat.reduceLT, Nat.reduceBEq, Int.reduceToNat, Int.reduceLT, Int.reduceLE, Int.reduceEq] at H0 H1
        simp only [go_sem, Nat.reduceAdd, Nat.reduceSub, Nat.reduceMul, Nat.reduceDiv, Nat.reduceMod, Nat.reduceLeDiff, Nat.reduceLT, Nat.reduceBEq, Int.reduceToNat, Int.reduceLT, Int.reduceLE, Int.reduceEq, rnd_eq, enP, List.zipWith_cons_cons, List.zipWith_nil_left, enB, slD_c, ia_sl, H0, H1]
      | 1, _ =>
        simp only [bF, go_sem, Nat.reduceAdd, Nat.reduceSub, Nat.reduceMul, Nat.reduceDiv, Nat.reduceMod, Nat.reduceLeDiff, Nat.reduceLT, Nat.reduceBEq, Int.reduceToNat, Int.reduceLT, Int.reduceLE, Int.reduceEq] at H0 H1
        simp only [go_sem, Nat.reduceAdd, Nat.reduceSub, Nat.reduceMul, Nat.reduceDiv, Nat.reduceMod, Nat.reduceLeDiff, Nat.reduceLT, Nat.reduceBEq, Int.reduceToNat, Int.reduceLT, Int.reduceLE, Int.reduceEq, rnd_eq, enP, List.zipWith_cons_cons, List.zipWith_nil_left, enB, slD_c, ia_sl, H0, H1]
      | 2, _ =>
        simp only [bF, go_sem, Nat.reduceAdd, Nat.reduceSub, Nat.reduceMul, Nat.reduceDiv, Nat.reduceMod, Nat.reduceLeDiff, Nat.reduceLT, Nat.reduceBEq, Int.reduceToNat, Int.reduceLT, Int.reduceLE, Int.reduceEq] at H0 H1
        simp only [go_sem, Nat.reduceAdd, Nat.reduceSub, Nat.reduceMul, Nat.reduceDiv, Nat.reduceMod, Nat.reduceLeDiff, Nat.reduceLT, Nat.reduceBEq, Int.reduceToNat, Int.reduceLT, Int.reduceLE, Int.reduceEq, rnd_eq, enP, List.zipWith_cons_cons, List.zipWith_nil_left, enB, slD_c, ia_sl, H0, H1]
    · simp at hp
  · rcases p with _ | ⟨x, _ | ⟨y, _ | ⟨z, _ | ⟨w, p⟩⟩⟩⟩
    · simp at hp
    · simp at hp
    · simp at hp
    · have H0 := H r (by simp) x
      have H1 := H s (by simp) y
      have H2 := H t (by simp) z
      match rule, hr with
      | 0, _ =>
        simp only [bF, go_sem, Nat.reduceAdd, Nat.reduceSub, Nat.reduceMul, Nat.reduceDiv, Nat.reduceMod, Nat.reduceLeDiff, Nat.reduceLT, Nat.reduceBEq, Int.reduceToNat, Int.reduceLT, Int.reduceLE, Int.reduceEq] at H0 H1 H2
        simp only [go_sem, Nat.reduceAdd, Nat.reduceSub, Nat.reduceMul, Nat.reduceDiv, Nat.reduceMod, Nat.reduceLeDiff, Nat.reduceLT, Nat.reduceBEq, Int.reduceToNat, Int.reduceLT, Int.reduceLE, Int.reduceEq, rnd_eq, enP, List.zipWith_cons_cons, List.zipWith_nil_left, enB, slD_c, ia_sl, H0, H1, H2]
      | 1, _ =>
        simp only [bF, go_sem, Nat.reduceAdd, Nat.reduceSub, Nat.reduceMul, Nat.reduceDiv, Nat.reduceMod, Nat.reduceLeDiff, Nat.reduceLT, Nat.reduceBEq, Int.reduceToNat, Int.reduceLT, Int.reduceLE, Int.reduceEq] at H0 H1 H2
        simp only [go_sem, Nat.reduceAdd, Nat.reduceSub, Nat.reduceMul, Nat.reduceDiv, Nat.reduceMod, Nat.reduceLeDiff, Nat.reduceLT, Nat.reduceBEq, Int.reduceToNat, Int.reduceLT, Int.reduceLE, Int.reduceEq, rnd_eq, enP, List.zipWith_cons_cons, List.zipWith_nil_left, enB, slD_c, ia_sl, H0, H1, H2]
      | 2, _ =>
        simp only [bF, go_sem, Nat.reduceAdd, Nat.reduceSub, Nat.reduceMul, Nat.reduceDiv, Nat.reduceMod, Nat.reduceLeDiff, Nat.reduceLT, Nat.reduceBEq, Int.reduceToNat, Int.reduceLT, Int.reduceLE, Int.reduceEq] at H0 H1 H2
        simp only [go_sem, Nat.reduceAdd, Nat.reduceSub, Nat.reduceMul, Nat.reduceDiv, Nat.reduceMod, Nat.reduceLeDiff, Nat.reduceLT, Nat.reduceBEq, Int.reduceToNat, Int.reduceLT, Int.reduceLE, Int.reduceEq, rnd_eq, enP, List.zipWith_cons_cons, List.zipWith_nil_left, enB, slD_c, ia_sl, H0, H1, H2]
    · simp at hp
  · simp at h3
theorem okEdge_1 (n : Nat) (x : Int) : callP (level E (n+2)) 71 [.int .i64 x] = some (.bool (!(decide (x ≥ -1048576) && decide (x ≤ 1048576)))) := by
  rw [p71]
  have h1 := okWithin n x (-1048576) 1048576
  simp only [go_sem, Nat.reduceAdd, Nat.reduceSub, Nat.reduceMul, Nat.reduceDiv, Nat.reduceMod, Nat.reduceLeDiff, Nat.reduceLT, Nat.reduceBEq, Int.reduceToNat, Int.reduceLT, Int.reduceLE, Int.reduceEq, h1]
def farB (x : Int) : Bool := !(decide (x ≥ -1048576) && decide (x ≤ 1048576))
theorem okEdgeS (n : Nat) (m : Im) (c : Bool) (p : List Int) (rule : Nat) (hr : rule < 3) (ko vo : Int) (h1 : callP (level E (n+9)) 48 [enIm m] = some (.int .i64 0)) (hm : ckBox m.bx = 0) (hs : m.st.length = m.bx.length) (hp : p.length = m.bx.length) (hf : p.any farB = false) (hmn : many m.bx ≠ 0) (hx : ∀ r ∈ m.bx, r.ex ≠ 0 ∧ ml 2 r.ex ≠ 0)
    (k : Nat) (v : Int) (he : elt m.bx ((List.zipWith (inW rule) m.bx p ++ [0, 0, 0]).take 3) m.st 0 = k) (hv : m.dt[k]? = some v) :
    callP (level E (n+10)) 22 [enIm m, .int .i64 rule, slD c 1 (p.map ic), .agg [.int .i64 ko, .int .u64 vo]] = some (.tup [.agg [.int .i64 m.kd, .int .u64 v], .int .i64 0]) := by
  obtain ⟨_, r2, _, _⟩ := ckBox0 hm
  rw [p22]
  have f1 := okFirstL (n+8) [[.int .i64 0], [.int .i64 0], [.int .i64 0]] [0, 0, 0] rfl (by simp)
  simp only [fnz, if_true] at f1
  have w1 := okWhen (n+8) false 11
  have w2 := okWhen (n+8) false 13
  have i1 := okWithin (n+8) rule 0 3
  have g1 : decide ((rule : Int) ≥ 0) = true := by simp
  have g2 : decide ((rule : Int) ≤ 3) = true := by simp; omega
  rw [g1, g2] at i1
  have c1 := okContains (n+7) c p 71 farB (by omega) (fun x _ => okEdge_1 (n+5) x)
  rw [hf] at c1
  have m1 := okMany (n+8) m.bb m.bx (by omega)
  have mv := okMoved (n+8) m.bb c rule hr m.bx p r2 hp (inW rule) (fun r hr' x => okBound (n+6) rule r x (hx r hr').1 (hx r hr').2)
  have v1 := okViewAt (n+7) m ((List.zipWith (inW rule) m.bx p ++ [0, 0, 0]).take 3) k v (by simp) r2 (by omega) he hv
  have hr3 : ¬ (rule : Int) = 3 := by omega
  simp only [enIm] at h1 v1
  obtain ⟨x, y, z, hq⟩ : ∃ x y z, (List.zipWith (inW rule) m.bx p ++ [0, 0, 0]).take 3 = [x, y, z] := by
    match hh : (List.zipWith (inW rule) m.bx p ++ [0, 0, 0]).take 3, (show ((List.zipWith (inW rule) m.bx p ++ [0, 0, 0]).take 3).length = 3 from by simp) with
    | [x, y, z], _ => exact ⟨x, y, z, rfl⟩
  rw [hq] at mv v1
  simp only [enP, List.map_cons, List.map_nil] at mv v1
  simp only [go_sem, Nat.reduceAdd, Nat.reduceSub, Nat.reduceMul, Nat.reduceDiv, Nat.reduceMod, Nat.reduceLeDiff, Nat.reduceLT, Nat.reduceBEq, Int.reduceToNat, Int.reduceLT, Int.reduceLE, Int.reduceEq, enIm, h1, f1, w1, w2, i1, c1, hp, m1, hmn, hr3, mv, v1, ne_eq, not_true_eq_false]
end Go.Vm.P4D

/- Chapter 04, functions: the bytes of an image. -/
set_option maxRecDepth 100000
set_option maxHeartbeats 4000000
namespace Go.Vm.P4D
open Go Go.Vm Go.Vm.P4
def u8 (b : Int) : List D := [.int .u8 b]
attribute [go_sem] u8
def leB : Nat → Int → List Int
  | 0, _ => []
  | k + 1, v => wrp .u8 v :: leB k (v.fdiv 256)
theorem p256 : (2 : Int) ^ min (8 : Int).toNat IntKind.u64.bits = 256 := by decide
theorem sh8 (v : Int) : aBin .shr (.imm (.int .u64 v)) (.imm (.int .u64 8)) = some (.imm (.int .u64 (v.fdiv 256))) := by
  rw [bin_shr (by decide), p256]
theorem okLittle1 (n : Nat) (es : List (List D)) (v : Int) (h : es.length < 1000000) : callS (level E (n+1)) 91 [.ref 0 1 0 es.length, .imm (.int .u64 v), .imm (.int .i64 1)] [.arr 1 es] = some (.ref 1 1 0 (es.length + 1), [.dead, .arr 1 (es ++ (leB 1 v).map u8)]) := by
  rw [s91]
  have e1 : (es.length + 1) * 2 ≤ 70368744177664 := by omega
  simp only [go_sem, Nat.reduceAdd, Nat.reduceSub, Nat.reduceMul, Nat.reduceDiv, Nat.reduceMod, Nat.reduceLeDiff, Nat.reduceLT, Nat.reduceBEq, Int.reduceToNat, Int.reduceLT, Int.reduceLE, Int.reduceEq, rnd_eq, e1, leB, sh8, List.append_assoc]
theorem okLittle2 (n : Nat) (es : List (List D)) (v : Int) (h : es.length < 1000000) : callS (level E (n+1)) 91 [.ref 0 1 0 es.length, .imm (.int .u64 v), .imm (.int .i64 2)] [.arr 1 es] = some (.ref 1 1 0 (es.length + 2), [.dead, .arr 1 (es ++ (leB 2 v).map u8)]) := by
  rw [s91]
  have e1 : (es.length + 1) * 2 ≤ 70368744177664 := by omega
  have e2 : (es.length + 2) * 2 ≤ 70368744177664 := by omega
  simp only [go_sem, Nat.reduceAdd, Nat.reduceSub, Nat.reduceMul, Nat.reduceDiv, Nat.reduceMod, Nat.reduceLeDiff, Nat.reduceLT, Nat.reduceBEq, Int.reduceToNat, Int.reduceLT, Int.reduceLE, Int.reduceEq, rnd_eq, e1, e2, leB, sh8, List.append_assoc]
theorem okLittle4 (n : Nat) (es : List (List D)) (v : Int) (h : es.length < 1000000) : callS (level E (n+1)) 91 [.ref 0 1 0 es.length, .imm (.int .u64 v), .imm (.int .i64 4)] [.arr 1 es] = some (.ref 1 1 0 (es.length + 4), [.dead, .arr 1 (es ++ (leB 4 v).map u8)]) := by
  rw [s91]
  have e1 : (es.length + 1) * 2 ≤ 70368744177664 := by omega
  have e2 : (es.length + 2) * 2 ≤ 70368744177664 := by omega
  have e3 : (es.length + 3) * 2 ≤ 70368744177664 := by omega
  have e4 : (es.length + 4) * 2 ≤ 70368744177664 := by omega
  simp only [go_sem, Nat.reduceAdd, Nat.reduceSub, Nat.reduceMul, Nat.reduceDiv, Nat.reduceMod, Nat.reduceLeDiff, Nat.reduceLT, Nat.reduceBEq, Int.reduceToNat, Int.reduceLT, Int.reduceLE, Int.reduceEq, rnd_eq, e1, e2, e3, e4, leB, sh8, List.append_assoc]
end Go.Vm.P4D

/- Chapter 04, functions: the bytes of an image, continued. -/
set_option maxRecDepth 100000
set_option maxHeartbeats 4000000
namespace Go.Vm.P4D
open Go Go.Vm Go.Vm.P4
def cellsIm (m : Im) : List D := [.int .i64 m.kd, enB m.bb m.bx, slD m.tb 1 (m.st.map ic), slD m.db 1 (m.dt.map ub)]
def rgB (r : Rg) : List Int := leB 4 (wrp .u64 r.lo) ++ leB 2 (wrp .u64 r.ex)
theorem rgB_len (r : Rg) : (rgB r).length = 6 := rfl
theorem byLoop (n : Nat) (m : Im) (h3 : m.bx.length ≤ 3) (acc : List (List D)) (ha : acc.length = 2) :
    outC ⟨0, false⟩ [0, 1, 1, 1, 0, 0, 0, 0, 0, 0, 0, 0, 0] (rnd (aCode (level E (n+1)) ⟨0, false⟩ b50_0) (head ⟨0, false⟩ [0, 1, 1, 1, 0, 0, 1, 1, 1, 0, 0, 0, 0])
      ⟨[.junk, .imm .nil, .imm (.ptr (cellsIm m)), .ptr 0 0, .junk, .junk, .imm (slD m.bb 2 (m.bx.map enR)), .imm (.int .i64 m.bx.length), .imm (.int .i64 0), .junk, .junk, .junk, .junk], [.box [.ref 1 1 0 acc.length], .arr 1 acc], none⟩) =
    some (.exit 0, ⟨[.junk, .imm .nil, .imm (.ptr (cellsIm m)), .ptr 0 0, .junk, .junk, .junk, .junk, .junk, .junk, .junk, .junk, .junk], [.box [.ref 1 1 0 (acc ++ (m.bx.flatMap rgB).map u8).length], .arr 1 (acc ++ (m.bx.flatMap rgB).map u8)], none⟩) := by
  have h := loop_fold (f := aCode (level E (n+1)) ⟨0, false⟩ b50_0) (h := head ⟨0, false⟩ [0, 1, 1, 1, 0, 0, 1, 1, 1, 0, 0, 0, 0]) (Φ := outC ⟨0, false⟩ [0, 1, 1, 1, 0, 0, 0, 0, 0, 0, 0, 0, 0]) m.bx (fun (a : List (List D)) i => ⟨[.junk, .imm .nil, .imm (.ptr (cellsIm m)), .ptr 0 0, .junk, .junk, .imm (slD m.bb 2 (m.bx.map enR)), .imm (.int .i64 m.bx.length), .imm (.int .i64 i), .junk, .junk, .junk, .junk], [.box [.ref 1 1 0 a.length], .arr 1 a], none⟩) (fun a i => a.length = 2 + 6 * i)
    (fun a r => a ++ (rgB r).map u8) (fun a => some (.exit 0, ⟨[.junk, .imm .nil, .imm (.ptr (cellsIm m)), .ptr 0 0, .junk, .junk, .junk, .junk, .junk, .junk, .junk, .junk, .junk], [.box [.ref 1 1 0 a.length], .arr 1 a], none⟩)) acc ha
    (fun a i r hI h2 h1 => by
      refine ⟨?_, by simp [hI, rgB_len]; omega⟩
      rw [rnd_eq]
      have l4 := okLittle4 n a (wrp .u64 r.lo) (by omega)
      have l2 := okLittle2 n (a ++ (leB 4 (wrp .u64 r.lo)).map u8) (wrp .u64 r.ex) (by simp [leB]; omega)
      simp only [go_sem, Nat.reduceAdd, Nat.reduceSub, Nat.reduceMul, Nat.reduceDiv, Nat.reduceMod, Nat.reduceLeDiff, Nat.reduceLT, Nat.reduceBEq, Int.reduceToNat, Int.reduceLT, Int.reduceLE, Int.reduceEq, leB] at l4 l2
      simp only [go_sem, Nat.reduceAdd, Nat.reduceSub, Nat.reduceMul, Nat.reduceDiv, Nat.reduceMod, Nat.reduceLeDiff, Nat.reduceLT, Nat.reduceBEq, Int.reduceToNat, Int.reduceLT, Int.reduceLE, Int.reduceEq, lt_t h2, h1, cellsIm, l4, l2, rgB, leB]
      rw [wrpS (by omega)]
      simp only [List.append_assoc, List.cons_append, List.nil_append])
    (fun a _ => by
      rw [rnd_eq]
      simp only [go_sem, Nat.reduceAdd, Nat.reduceSub, Nat.reduceMul, Nat.reduceDiv, Nat.reduceMod, Nat.reduceLeDiff, Nat.reduceLT, Nat.reduceBEq, Int.reduceToNat, Int.reduceLT, Int.reduceLE, Int.reduceEq, lt_f (Nat.le_refl _), cellsIm])
  rw [cast_0] at h
  rw [h]
  have e : ∀ (l : Bx) (acc : List (List D)), l.foldl (fun a r => a ++ (rgB r).map u8) acc = acc ++ (l.flatMap rgB).map u8 := by
    intro l
    induction l with
    | nil => intro acc; simp
    | cons x l ih => intro acc; rw [List.foldl_cons, ih]; simp
  rw [e]
def ByV (m : Im) : List AV := [.junk, .imm .nil, .imm (.ptr (cellsIm m)), .ptr 0 0, .junk, .junk, .junk, .junk, .junk, .junk, .imm (.fn 95 [] [.ptr [enB m.bb m.bx]]), .junk, .junk]
def BySt (m : Im) (acc : List (List D)) : Ext := ⟨[11, 12], b50_1, b50_2, ByV m, [.box [.ref 1 1 0 acc.length], .arr 1 acc], 0, none⟩
theorem byRound1 (n : Nat) (m : Im) (acc : List (List D)) (i : Nat) (v : Int) (ha : acc.length < 1000000) (hv : callP (level E (n+1)) 62 [enIm m, enP (plc m.bx i)] = some (.int .u64 v)) (hz : callP (level E (n+1)) 60 [.int .i64 m.kd] = some (.int .i64 1)) :
    (level E (n+2)).round (BySt m acc) [.int .i64 (i : Int), enP (plc m.bx i)] = some (BySt m (acc ++ (leB 1 v).map u8), true) := by
  obtain ⟨x, y, z, hp⟩ : ∃ x y z, plc m.bx i = [x, y, z] := by
    match hh : plc m.bx i, plc_len m.bx i with
    | [x, y, z], _ => exact ⟨x, y, z, rfl⟩
  rw [hp] at hv ⊢
  have l1 := okLittle1 n acc v ha
  simp only [go_sem, Nat.reduceAdd, Nat.reduceSub, Nat.reduceMul, Nat.reduceDiv, Nat.reduceMod, Nat.reduceLeDiff, Nat.reduceLT, Nat.reduceBEq, Int.reduceToNat, Int.reduceLT, Int.reduceLE, Int.reduceEq, leB] at l1
  simp only [enIm, enP, List.map_cons, List.map_nil] at hv
  unfold BySt
  rw [round_go rfl]
  simp only [go_sem, Nat.reduceAdd, Nat.reduceSub, Nat.reduceMul, Nat.reduceDiv, Nat.reduceMod, Nat.reduceLeDiff, Nat.reduceLT, Nat.reduceBEq, Int.reduceToNat, Int.reduceLT, Int.reduceLE, Int.reduceEq, ByV, cellsIm, enP, hv, hz, l1, leB, enIm]
  done
end Go.Vm.P4D

/- Chapter 04, functions: Encode (elements of a byte). -/
set_option maxRecDepth 100000
set_option maxHeartbeats 4000000
namespace Go.Vm.P4D
open Go Go.Vm Go.Vm.P4
theorem okWidth8 (n : Nat) : callP (level E (n+2)) 94 [.int .i64 1] = some (.tup [.int .i64 8, .int .i64 0]) := by
  rw [p94]
  have h1 := okIsKind n 1
  simp only [go_sem, Nat.reduceAdd, Nat.reduceSub, Nat.reduceMul, Nat.reduceDiv, Nat.reduceMod, Nat.reduceLeDiff, Nat.reduceLT, Nat.reduceBEq, Int.reduceToNat, Int.reduceLT, Int.reduceLE, Int.reduceEq] at h1
  simp only [go_sem, Nat.reduceAdd, Nat.reduceSub, Nat.reduceMul, Nat.reduceDiv, Nat.reduceMod, Nat.reduceLeDiff, Nat.reduceLT, Nat.reduceBEq, Int.reduceToNat, Int.reduceLT, Int.reduceLE, Int.reduceEq, h1]
theorem okSize8 (n : Nat) : callP (level E (n+3)) 60 [.int .i64 1] = some (.int .i64 1) := by
  rw [p60]
  have h1 := okWidth8 n
  have w8 : wrp .i64 (8 * 1) = 8 := by decide
  simp only [go_sem, Nat.reduceAdd, Nat.reduceSub, Nat.reduceMul, Nat.reduceDiv, Nat.reduceMod, Nat.reduceLeDiff, Nat.reduceLT, Nat.reduceBEq, Int.reduceToNat, Int.reduceLT, Int.reduceLE, Int.reduceEq, h1, rnd_eq, w8]
def byIm1 (m : Im) (N : Nat) (F : List Int → Int) : List Int := [wrp .u8 m.kd, wrp .u8 m.bx.length] ++ m.bx.flatMap rgB ++ (List.range N).flatMap (fun i => leB 1 (F (plc m.bx i)))
theorem fold_app {α β : Type} (f : α → List β) : ∀ (l : List α) (acc : List β), l.foldl (fun a x => a ++ f x) acc = acc ++ l.flatMap f
  | [], acc => by simp
  | x :: l, acc => by simp only [List.foldl_cons, fold_app f l, List.flatMap_cons, List.append_assoc]
theorem okBytes1 (n : Nat) (m : Im) (h1 : m.bx.length ≤ 3) (hs : m.bx.length ≤ m.st.length) (hk : m.kd = 1) (N : Nat) (hN : many m.bx = N) (hN2 : N < 100000) (F : List Int → Int) (hF : Lies m m.bx N F) :
    callP (level E (n+8)) 50 [enIm m] = some (.sl 1 ((byIm1 m N F).map u8)) := by
  rw [p50]
  have b1 := byLoop (n+6) m h1 [[.int .u8 (wrp .u8 m.kd)], [.int .u8 (wrp .u8 m.bx.length)]] rfl
  have a1 := okAll (n+6) m.bb m.bx
  have h := okAll1 (n+5) m.bb m.bx h1 N hN (by omega) (BySt m) (fun a i => a.length = 2 + 6 * m.bx.length + i) (fun a i => .inl (a ++ (leB 1 (F (plc m.bx i))).map u8)) ([[.int .u8 (wrp .u8 m.kd)], [.int .u8 (wrp .u8 m.bx.length)]] ++ (m.bx.flatMap rgB).map u8)
    (by
      have e : ∀ l : Bx, (l.flatMap rgB).length = 6 * l.length := by
        intro l
        induction l with
        | nil => rfl
        | cons x l ih => rw [List.flatMap_cons, List.length_append, ih, rgB_len, List.length_cons]; omega
      simp [e]; omega)
    (fun a i hI hi => ⟨by
      obtain ⟨k, q1, q2⟩ := hF i hi
      exact byRound1 (n+4) m a i (F (plc m.bx i)) (by omega) (okViewAt (n+3) m (plc m.bx i) k _ (plc_len _ _) h1 hs q1 q2) (by rw [hk]; exact okSize8 (n+2)), fun a' ha => by injection ha with ha; subst ha; simp [hI, leB]; omega⟩)
  rw [runL_fold, fold_app] at h
  simp only [go_sem, Nat.reduceAdd, Nat.reduceSub, Nat.reduceMul, Nat.reduceDiv, Nat.reduceMod, Nat.reduceLeDiff, Nat.reduceLT, Nat.reduceBEq, Int.reduceToNat, Int.reduceLT, Int.reduceLE, Int.reduceEq, cellsIm] at b1
  simp only [go_sem, Nat.reduceAdd, Nat.reduceSub, Nat.reduceMul, Nat.reduceDiv, Nat.reduceMod, Nat.reduceLeDiff, Nat.reduceLT, Nat.reduceBEq, Int.reduceToNat, Int.reduceLT, Int.reduceLE, Int.reduceEq, enIm, b1, a1]
  simp only [go_sem, Nat.reduceAdd, Nat.reduceSub, Nat.reduceMul, Nat.reduceDiv, Nat.reduceMod, Nat.reduceLeDiff, Nat.reduceLT, Nat.reduceBEq, Int.reduceToNat, Int.reduceLT, Int.reduceLE, Int.reduceEq, BySt, ByV, cellsIm] at h
  rw [h]
  simp only [go_sem, Nat.reduceAdd, Nat.reduceSub, Nat.reduceMul, Nat.reduceDiv, Nat.reduceMod, Nat.reduceLeDiff, Nat.reduceLT, Nat.reduceBEq, Int.reduceToNat, Int.reduceLT, Int.reduceLE, Int.reduceEq]
  simp [byIm1, List.map_flatMap, u8]
theorem okEncode1 (n : Nat) (m : Im) (hc : callP (level E (n+9)) 48 [enIm m] = some (.int .i64 0)) (h1 : m.bx.length ≤ 3) (hs : m.bx.length ≤ m.st.length) (hk : m.kd = 1) (N : Nat) (hN : many m.bx = N) (hN2 : N < 100000) (F : List Int → Int) (hF : Lies m m.bx N F) :
    callP (level E (n+10)) 10 [enIm m] = some (.tup [.sl 1 ((byIm1 m N F).map u8), .int .i64 0]) := by
  rw [p10]
  have b1 := okBytes1 (n+1) m h1 hs hk N hN hN2 F hF
  simp only [enIm] at hc b1
  simp only [go_sem, Nat.reduceAdd, Nat.reduceSub, Nat.reduceMul, Nat.reduceDiv, Nat.reduceMod, Nat.reduceLeDiff, Nat.reduceLT, Nat.reduceBEq, Int.reduceToNat, Int.reduceLT, Int.reduceLE, Int.reduceEq, enIm, hc, b1, ne_eq, not_true_eq_false]
theorem okSameInts (n : Nat) (b c : Bool) (l : List Int) (hl : l.length < 1000000000) : callP (level E (n+1)) 43 [slD b 1 (l.map ic), slD c 1 (l.map ic)] = some (.bool true) := by
  rw [p43]
  simp only [go_sem, Nat.reduceAdd, Nat.reduceSub, Nat.reduceMul, Nat.reduceDiv, Nat.reduceMod, Nat.reduceLeDiff, Nat.reduceLT, Nat.reduceBEq, Int.reduceToNat, Int.reduceLT, Int.reduceLE, Int.reduceEq, ne_eq, not_true_eq_false]
  have h := loop_fold (f := aCode (level E (n)) ⟨0, false⟩ b43_0) (h := head ⟨0, false⟩ [1, 1, 0, 1, 0, 0, 0]) (Φ := outC ⟨0, false⟩ [0, 0, 1, 0, 0, 0, 0]) l (fun (a : Unit) i => ⟨[.imm (slD b 1 (l.map ic)), .imm (slD c 1 (l.map ic)), .junk, .imm (.int .i64 i), .junk, .junk, .junk], [], none⟩) (fun _ _ => True)
    (fun a x => ()) (fun a => some (.exit 0, ⟨[.junk, .junk, .junk, .junk, .junk, .junk, .junk], [], none⟩)) () trivial
    (fun a i x hI h2 h1 => by
      refine ⟨?_, trivial⟩
      rw [rnd_eq]
      simp only [go_sem, Nat.reduceAdd, Nat.reduceSub, Nat.reduceMul, Nat.reduceDiv, Nat.reduceMod, Nat.reduceLeDiff, Nat.reduceLT, Nat.reduceBEq, Int.reduceToNat, Int.reduceLT, Int.reduceLE, Int.reduceEq, lt_t h2, h1, ne_eq, not_true_eq_false]
      rw [wrpS (by omega)])
    (fun a _ => by
      rw [rnd_eq]
      simp only [go_sem, Nat.reduceAdd, Nat.reduceSub, Nat.reduceMul, Nat.reduceDiv, Nat.reduceMod, Nat.reduceLeDiff, Nat.reduceLT, Nat.reduceBEq, Int.reduceToNat, Int.reduceLT, Int.reduceLE, Int.reduceEq, lt_f (Nat.le_refl _)])
  rw [cast_0] at h
  rw [h]
  simp only [go_sem, Nat.reduceAdd, Nat.reduceSub, Nat.reduceMul, Nat.reduceDiv, Nat.reduceMod, Nat.reduceLeDiff, Nat.reduceLT, Nat.reduceBEq, Int.reduceToNat, Int.reduceLT, Int.reduceLE, Int.reduceEq]
theorem okSameBits (n : Nat) (b c : Bool) (l : List Int) (hl : l.length < 1000000000) : callP (level E (n+1)) 47 [slD b 1 (l.map ub), slD c 1 (l.map ub)] = some (.bool true) := by
  rw [p47]
  simp only [go_sem, Nat.reduceAdd, Nat.reduceSub, Nat.reduceMul, Nat.reduceDiv, Nat.reduceMod, Nat.reduceLeDiff, Nat.reduceLT, Nat.reduceBEq, Int.reduceToNat, Int.reduceLT, Int.reduceLE, Int.reduceEq, ne_eq, not_true_eq_false]
  have h := loop_fold (f := aCode (level E (n)) ⟨0, false⟩ b47_0) (h := head ⟨0, false⟩ [1, 1, 0, 1, 0, 0, 0]) (Φ := outC ⟨0, false⟩ [0, 0, 1, 0, 0, 0, 0]) l (fun (a : Unit) i => ⟨[.imm (slD b 1 (l.map ub)), .imm (slD c 1 (l.map ub)), .junk, .imm (.int .i64 i), .junk, .junk, .junk], [], none⟩) (fun _ _ => True)
    (fun a x => ()) (fun a => some (.exit 0, ⟨[.junk, .junk, .junk, .junk, .junk, .junk, .junk], [], none⟩)) () trivial
    (fun a i x hI h2 h1 => by
      refine ⟨?_, trivial⟩
      rw [rnd_eq]
      simp only [go_sem, Nat.reduceAdd, Nat.reduceSub, Nat.reduceMul, Nat.reduceDiv, Nat.reduceMod, Nat.reduceLeDiff, Nat.reduceLT, Nat.reduceBEq, Int.reduceToNat, Int.reduceLT, Int.reduceLE, Int.reduceEq, lt_t h2, h1, ne_eq, not_true_eq_false]
      rw [wrpS (by omega)])
    (fun a _ => by
      rw [rnd_eq]
      simp only [go_sem, Nat.reduceAdd, Nat.reduceSub, Nat.reduceMul, Nat.reduceDiv, Nat.reduceMod, Nat.reduceLeDiff, Nat.reduceLT, Nat.reduceBEq, Int.reduceToNat, Int.reduceLT, Int.reduceLE, Int.reduceEq, lt_f (Nat.le_refl _)])
  rw [cast_0] at h
  rw [h]
  simp only [go_sem, Nat.reduceAdd, Nat.reduceSub, Nat.reduceMul, Nat.reduceDiv, Nat.reduceMod, Nat.reduceLeDiff, Nat.reduceLT, Nat.reduceBEq, Int.reduceToNat, Int.reduceLT, Int.reduceLE, Int.reduceEq]
theorem okSameBytes (n : Nat) (b c : Bool) (l : List Int) (hl : l.length < 1000000000) : callP (level E (n+1)) 49 [slD b 1 (l.map u8), slD c 1 (l.map u8)] = some (.bool true) := by
  rw [p49]
  simp only [go_sem, Nat.reduceAdd, Nat.reduceSub, Nat.reduceMul, Nat.reduceDiv, Nat.reduceMod, Nat.reduceLeDiff, Nat.reduceLT, Nat.reduceBEq, Int.reduceToNat, Int.reduceLT, Int.reduceLE, Int.reduceEq, ne_eq, not_true_eq_false]
  have h := loop_fold (f := aCode (level E (n)) ⟨0, false⟩ b49_0) (h := head ⟨0, false⟩ [1, 1, 0, 1, 0, 0, 0]) (Φ := outC ⟨0, false⟩ [0, 0, 1, 0, 0, 0, 0]) l (fun (a : Unit) i => ⟨[.imm (slD b 1 (l.map u8)), .imm (slD c 1 (l.map u8)), .junk, .imm (.int .i64 i), .junk, .junk, .junk], [], none⟩) (fun _ _ => True)
    (fun a x => ()) (fun a => some (.exit 0, ⟨[.junk, .junk, .junk, .junk, .junk, .junk, .junk], [], none⟩)) () trivial
    (fun a i x hI h2 h1 => by
      refine ⟨?_, trivial⟩
      rw [rnd_eq]
      simp only [go_sem, Nat.reduceAdd, Nat.reduceSub, Nat.reduceMul, Nat.reduceDiv, Nat.reduceMod, Nat.reduceLeDiff, Nat.reduceLT, Nat.reduceBEq, Int.reduceToNat, Int.reduceLT, Int.reduceLE, Int.reduceEq, lt_t h2, h1, ne_eq, not_true_eq_false]
      rw [wrpS (by omega)])
    (fun a _ => by
      rw [rnd_eq]
      simp only [go_sem, Nat.reduceAdd, Nat.reduceSub, Nat.reduceMul, Nat.reduceDiv, Nat.reduceMod, Nat.reduceLeDiff, Nat.reduceLT, Nat.reduceBEq, Int.reduceToNat, Int.reduceLT, Int.reduceLE, Int.reduceEq, lt_f (Nat.le_refl _)])
  rw [cast_0] at h
  rw [h]
  simp only [go_sem, Nat.reduceAdd, Nat.reduceSub, Nat.reduceMul, Nat.reduceDiv, Nat.reduceMod, Nat.reduceLeDiff, Nat.reduceLT, Nat.reduceBEq, Int.reduceToNat, Int.reduceLT, Int.reduceLE, Int.reduceEq]
end Go.Vm.P4D

/- Chapter 04, functions: the document's examples. -/
set_option maxRecDepth 100000
set_option maxHeartbeats 8000000
namespace Go.Vm.P4D
open Go Go.Vm Go.Vm.P4
def bx0 : Bx := [⟨2, 3⟩, ⟨0, 2⟩]
def ot0 : Bx := [⟨3, 2⟩, ⟨1, 5⟩]
def m0 : Im := ⟨1, false, bx0, false, [1, 3], false, [10, 20, 30, 40, 50, 60]⟩
def m1 : Im := ⟨1, false, bx0, false, [2, 6], false, [0, 0, 0, 0, 0, 0, 0, 0, 0, 0, 0, 0]⟩
def m2 : Im := ⟨1, false, bx0, false, [1, 2], false, [0, 0, 0, 0, 0, 0, 0, 0, 0, 0, 0, 0]⟩
theorem bits8_all : bits8 0 ∧ bits8 10 ∧ bits8 20 ∧ bits8 30 ∧ bits8 40 ∧ bits8 50 ∧ bits8 60 := by
  unfold bits8
  decide
theorem ck_m0 : ckIm (fun _ => 0) m0 = 0 := by decide
theorem ck_m1 : ckIm (fun _ => 0) m1 = 0 := by decide
theorem ck_m2 : ckIm (fun _ => 0) m2 = 26 := by decide
theorem b8_m0 : ∀ v ∈ m0.dt, bits8 v := by
  obtain ⟨h0, h1, h2, h3, h4, h5, h6⟩ := bits8_all
  intro v hv
  simp only [m0, List.mem_cons, List.not_mem_nil, or_false] at hv
  rcases hv with rfl | rfl | rfl | rfl | rfl | rfl <;> assumption
theorem chk0 (n : Nat) : callP (level E (n+9)) 48 [enIm m0] = some (.int .i64 0) := by
  have h := okCheck n m0 (fun _ => 0) (by decide) (by decide) (by decide) (fun v hv => okCheck8 (n+1) v (b8_m0 v hv))
  rw [ck_m0] at h
  exact h
theorem chk1 (n : Nat) : callP (level E (n+9)) 48 [enIm m1] = some (.int .i64 0) := by
  have h := okCheck n m1 (fun _ => 0) (by decide) (by decide) (by decide) (fun v hv => okCheck8 (n+1) v (by
    have : v = 0 := by simpa [m1] using hv
    rw [this]; exact bits8_all.1))
  rw [ck_m1] at h
  exact h
theorem chk2 (n : Nat) : callP (level E (n+9)) 48 [enIm m2] = some (.int .i64 26) := by
  have h := okCheck n m2 (fun _ => 0) (by decide) (by decide) (by decide) (fun v hv => okCheck8 (n+1) v (by
    have : v = 0 := by simpa [m2] using hv
    rw [this]; exact bits8_all.1))
  rw [ck_m2] at h
  exact h
theorem ckb0 : ckBox bx0 = 0 := by decide
theorem aw_at (n : Nat) : callP (level E (n+11)) 24 [enIm m0, slD false 1 ([3, 1].map ic)] = some (.tup [.agg [.int .i64 1, .int .u64 50], .int .i64 0]) := by
  have h := okCheckAt n m0 false [3, 1] (fun _ => 0) (by decide) (by decide) (by decide) (fun v hv => okCheck8 (n+1) v (b8_m0 v hv))
  rw [show ckAt (fun _ => 0) m0 [3, 1] = 0 from by decide] at h
  exact okAtS n m0 false [3, 1] h (by decide) (by decide) (by decide) 4 50 (by decide) (by decide)
def fSl (p : List Int) : Int := if p.headD 0 = 0 then 20 else 50
theorem aw_slice (n : Nat) : callP (level E (n+10)) 46 [enIm m0, .int .i64 0, .int .i64 3] = some (.tup [enIm (mkIm 1 [⟨0, 2⟩] 2 fSl), .int .i64 0]) := by
  refine okSlice2 n m0 ⟨2, 3⟩ ⟨0, 2⟩ rfl 3 (chk0 n) rfl ckb0 (by decide) (by decide) 2 (by decide) (by decide) fSl (fun i hi => ?_)
  match i, hi with
  | 0, _ => exact ⟨0, 0, 0, 1, by decide, by decide, by decide⟩
  | 1, _ => exact ⟨1, 0, 0, 4, by decide, by decide, by decide⟩
def fTr (p : List Int) : Int := 10 + 30 * p.headD 0 + 10 * ((p.tail).headD 0 - 2)
theorem aw_trans (n : Nat) : callP (level E (n+10)) 18 [enIm m0, .int .i64 0, .int .i64 1] = some (.tup [enIm (mkIm 1 [⟨0, 2⟩, ⟨2, 3⟩] 6 fTr), .int .i64 0]) := by
  refine okTranspose2 n m0 ⟨2, 3⟩ ⟨0, 2⟩ rfl (chk0 n) rfl 6 (by decide) (by decide) fTr (fun i hi => ?_)
  match i, hi with
  | 0, _ => exact ⟨0, 2, 0, 0, by decide, by decide, by decide⟩
  | 1, _ => exact ⟨1, 2, 0, 3, by decide, by decide, by decide⟩
  | 2, _ => exact ⟨0, 3, 0, 1, by decide, by decide, by decide⟩
  | 3, _ => exact ⟨1, 3, 0, 4, by decide, by decide, by decide⟩
  | 4, _ => exact ⟨0, 4, 0, 2, by decide, by decide, by decide⟩
  | 5, _ => exact ⟨1, 4, 0, 5, by decide, by decide, by decide⟩
def fCr (p : List Int) : Int := 50 + 10 * (p.headD 0 - 3)
theorem aw_crop (n : Nat) : callP (level E (n+10)) 19 [enIm m0, enB false [⟨3, 2⟩, ⟨1, 1⟩]] = some (.tup [enIm (mkIm 1 [⟨3, 2⟩, ⟨1, 1⟩] 2 fCr), .int .i64 0]) := by
  refine okCropS n m0 false [⟨3, 2⟩, ⟨1, 1⟩] (chk0 n) ckb0 rfl (by decide) rfl (by rfl) 2 (by decide) fCr (fun i hi => ?_)
  match i, hi with
  | 0, _ => exact ⟨4, by decide, by decide⟩
  | 1, _ => exact ⟨5, by decide, by decide⟩
theorem aw_edge (n : Nat) (rule : Nat) (hr : rule < 3) : callP (level E (n+10)) 22 [enIm m0, .int .i64 rule, slD false 1 ([0, 5].map ic), .agg [.int .i64 0, .int .u64 0]] = some (.tup [.agg [.int .i64 1, .int .u64 ([40, 50, 50].getD rule 0)], .int .i64 0]) := by
  have hx : ∀ r ∈ m0.bx, r.ex ≠ 0 ∧ ml 2 r.ex ≠ 0 := by
    intro r hr
    simp only [m0, bx0, List.mem_cons, List.not_mem_nil, or_false] at hr
    rcases hr with rfl | rfl <;> decide
  match rule, hr with
  | 0, hr => exact okEdgeS n m0 false [0, 5] 0 hr 0 0 (chk0 n) ckb0 rfl rfl (by decide) (by decide) hx 3 40 (by decide) (by decide)
  | 1, hr => exact okEdgeS n m0 false [0, 5] 1 hr 0 0 (chk0 n) ckb0 rfl rfl (by decide) (by decide) hx 4 50 (by decide) (by decide)
  | 2, hr => exact okEdgeS n m0 false [0, 5] 2 hr 0 0 (chk0 n) ckb0 rfl rfl (by decide) (by decide) hx 4 50 (by decide) (by decide)
def mS : Im := mkIm 1 [⟨0, 2⟩] 2 fSl
theorem aw_encode (n : Nat) : callP (level E (n+10)) 10 [enIm mS] = some (.tup [.sl 1 (([1, 1, 0, 0, 0, 0, 2, 0, 20, 50] : List Int).map u8), .int .i64 0]) := by
  have hb : ∀ v ∈ mS.dt, bits8 v := by
    obtain ⟨h0, h1, h2, h3, h4, h5, h6⟩ := bits8_all
    intro v hv
    have e : mS.dt = [20, 50] := by decide
    rw [e] at hv
    simp only [List.mem_cons, List.not_mem_nil, or_false] at hv
    rcases hv with rfl | rfl <;> assumption
  have h := okCheck n mS (fun _ => 0) (by decide) (by decide) (by decide) (fun v hv => okCheck8 (n+1) v (hb v hv))
  rw [show ckIm (fun _ => 0) mS = 0 from by decide] at h
  have k := okEncode1 n mS h (by decide) (by decide) rfl 2 (by decide) (by decide) fSl (fun i hi => by
    match i, hi with
    | 0, _ => exact ⟨0, by decide, by decide⟩
    | 1, _ => exact ⟨1, by decide, by decide⟩)
  rw [show byIm1 mS 2 fSl = [1, 1, 0, 0, 0, 0, 2, 0, 20, 50] from by decide] at k
  exact k
end Go.Vm.P4D

/- Chapter 04, functions: the document's examples, all of them. -/
set_option maxRecDepth 100000
set_option maxHeartbeats 16000000
namespace Go.Vm.P4D
open Go Go.Vm Go.Vm.P4
def bxD : D := .sl 2 [[.int .i64 2, .int .i64 3], [.int .i64 0, .int .i64 2]]
def imD : D := .agg [.int .i64 1, bxD, .sl 1 [[.int .i64 1], [.int .i64 3]], .sl 1 [[.int .u64 10], [.int .u64 20], [.int .u64 30], [.int .u64 40], [.int .u64 50], [.int .u64 60]]]
theorem aw_box (n : Nat) : callP (level E (n+1)) 44 [] = some bxD := by
  rw [p44]
  simp only [go_sem, Nat.reduceAdd, Nat.reduceSub, Nat.reduceMul, Nat.reduceDiv, Nat.reduceMod, Nat.reduceLeDiff, Nat.reduceLT, Nat.reduceBEq, Int.reduceToNat, Int.reduceLT, Int.reduceLE, Int.reduceEq, bxD]
theorem aw_given (n : Nat) : callP (level E (n+2)) 45 [] = some imD := by
  rw [p45]
  have h := aw_box n
  simp only [bxD] at h
  simp only [go_sem, Nat.reduceAdd, Nat.reduceSub, Nat.reduceMul, Nat.reduceDiv, Nat.reduceMod, Nat.reduceLeDiff, Nat.reduceLT, Nat.reduceBEq, Int.reduceToNat, Int.reduceLT, Int.reduceLE, Int.reduceEq, imD, bxD, h]
theorem e_m0 : enIm m0 = imD := rfl
theorem e_b0 : enB false bx0 = bxD := rfl
def pt (a b : Int) : List D := [.sl 1 [[.int .i64 a], [.int .i64 b]]]
theorem okAwake (n : Nat) : callP (level E (n+60)) 9 [] = some (.bool true) := by
  rw [p9]
  have q1 := aw_box (n+58)
  have q2 := aw_given (n+57)
  have q3 := okPointsS (n+54) false bx0 ckb0 6 (by decide)
  rw [e_b0, show ptsD bx0 6 = .sl 1 [pt 2 0, pt 3 0, pt 4 0, pt 2 1, pt 3 1, pt 4 1] from rfl] at q3
  have q4 := okIndex (n+53) false false bx0 [3, 1] (by decide)
  rw [e_b0, show ckPoint bx0 [3, 1] = 0 from by decide, if_pos rfl, show hasB bx0 [3, 1] = true from by decide, if_pos rfl, show elt bx0 (([3, 1] ++ [0, 0, 0] : List Int).take 3) (strides 1 bx0) 0 = 4 from by decide] at q4
  have q5 := okIntersect (n+53) false false bx0 ot0 (by decide) (by decide) (fun _ => rfl)
  rw [e_b0, show interD bx0 ot0 = .sl 2 [[.int .i64 3, .int .i64 2], [.int .i64 1, .int .i64 1]] from rfl, show ckBoth bx0 ot0 = 0 from by decide] at q5
  have q6 := okUnion (n+53) false false bx0 ot0 (by decide) (by decide) (fun _ => ⟨rfl, by decide, by decide⟩)
  rw [e_b0, show unionD bx0 ot0 = (.sl 2 [[.int .i64 2, .int .i64 3], [.int .i64 0, .int .i64 6]], 0) from rfl] at q6
  have q7 := aw_at (n+48)
  have q8 := aw_slice (n+49)
  have q9 := aw_trans (n+49)
  have q10 := aw_crop (n+49)
  rw [e_m0] at q7 q8 q9 q10
  rw [show enIm (mkIm 1 [⟨0, 2⟩] 2 fSl) = .agg [.int .i64 1, .sl 2 [[.int .i64 0, .int .i64 2]], .sl 1 [[.int .i64 1]], .sl 1 [[.int .u64 20], [.int .u64 50]]] from rfl] at q8
  rw [show enIm (mkIm 1 [⟨0, 2⟩, ⟨2, 3⟩] 6 fTr) = .agg [.int .i64 1, .sl 2 [[.int .i64 0, .int .i64 2], [.int .i64 2, .int .i64 3]], .sl 1 [[.int .i64 1], [.int .i64 2]], .sl 1 [[.int .u64 10], [.int .u64 40], [.int .u64 20], [.int .u64 50], [.int .u64 30], [.int .u64 60]]] from rfl] at q9
  rw [show enIm (mkIm 1 [⟨3, 2⟩, ⟨1, 1⟩] 2 fCr) = .agg [.int .i64 1, .sl 2 [[.int .i64 3, .int .i64 2], [.int .i64 1, .int .i64 1]], .sl 1 [[.int .i64 1], [.int .i64 2]], .sl 1 [[.int .u64 50], [.int .u64 60]]] from rfl] at q10
  have r0 := aw_edge (n+49) 0 (by decide)
  have r1 := aw_edge (n+49) 1 (by decide)
  have r2 := aw_edge (n+49) 2 (by decide)
  rw [e_m0] at r0 r1 r2
  have c1 := chk1 (n+50)
  have c2 := chk2 (n+50)
  have en := aw_encode (n+49)
  rw [show enIm mS = .agg [.int .i64 1, .sl 2 [[.int .i64 0, .int .i64 2]], .sl 1 [[.int .i64 1]], .sl 1 [[.int .u64 20], [.int .u64 50]]] from rfl] at en
  have s1 := okSameInts (n+58) false false [4, 1] (by decide)
  have s2 := okSameBox (n+58) false false [⟨3, 2⟩, ⟨1, 1⟩] (by decide)
  have s3 := okSameBox (n+58) false false [⟨2, 3⟩, ⟨0, 6⟩] (by decide)
  have s4 := okSameBits (n+58) false false [20, 50] (by decide)
  have s5 := okSameBits (n+58) false false [10, 40, 20, 50, 30, 60] (by decide)
  have s6 := okSameBits (n+58) false false [50, 60] (by decide)
  have s7 := okSameBytes (n+58) false false [1, 1, 0, 0, 0, 0, 2, 0, 20, 50] (by decide)
  simp only [go_sem, Nat.reduceAdd, Nat.reduceSub, Nat.reduceMul, Nat.reduceDiv, Nat.reduceMod, Nat.reduceLeDiff, Nat.reduceLT, Nat.reduceBEq, Int.reduceToNat, Int.reduceLT, Int.reduceLE, Int.reduceEq, imD, bxD, pt, enB, slD, ot0, enIm, m1, m2, mS, bx0] at q1 q2 q3 q4 q5 q6 q7 q8 q9 q10 r0 r1 r2 c1 c2 en s1 s2 s3 s4 s5 s6 s7
  have w0 : wrp .i64 (0 + 0) = 0 := by decide
  have n0 : (4 : Int) ≠ 0 := by decide
  simp only [go_sem, Nat.reduceAdd, Nat.reduceSub, Nat.reduceMul, Nat.reduceDiv, Nat.reduceMod, Nat.reduceLeDiff, Nat.reduceLT, Nat.reduceBEq, Int.reduceToNat, Int.reduceLT, Int.reduceLE, Int.reduceEq, q1, q2, q3, q4, q5, q6, q7, q8, q9, q10, w0, ne_eq, not_true_eq_false, ia_sl, s1, s2, s3, s4, s5, s6, aEq, eqL, eqE, intEq, beq_self_eq_true]
  simp only [go_sem, Nat.reduceAdd, Nat.reduceSub, Nat.reduceMul, Nat.reduceDiv, Nat.reduceMod, Nat.reduceLeDiff, Nat.reduceLT, Nat.reduceBEq, Int.reduceToNat, Int.reduceLT, Int.reduceLE, Int.reduceEq, rnd_eq, q1, q2, r0, r1, r2, ne_eq, not_true_eq_false, ia_sl, c1, c2, en, s7, List.reduceReplicate, Int.reduceMul]
  done
end Go.Vm.P4D

/- Chapter 04: ImageUnions: the row and the card. -/
set_option maxRecDepth 100000
namespace Go.Proofs.YtgbmhofpndjdoaaDoor
open Go Go.Vm Go.Vm.P4 Go.Vm.P4D Go.ChangeShapes Go.WideShapes Go.ChangeAt Go.RowKit
theorem readBox : Tryd.prog.readableRec 23 = true := by kernel_rfl
theorem rowBox : 23 < Tryd.prog.types.size := of_decide_eq_true (by kernel_rfl)
theorem unions_lifted (os : Os) (started : os.Started) (H : Type) (enc : TypeId × Value → H) :
    ReturnsInHanded {} Tryd.checked os 4 .any (fun w args => (Rows.imageUnionsSpec.pre enc Tryd.prog Tryd.f4 [] false w args ∧ laidMetH Tryd.prog laidW w) ∧ sizedMet enc Tryd.prog Tryd.f4 (OpenSpec.ofChange Rows.imageUnionsSpec) false w args)
      (Rows.imageUnionsSpec.post enc Tryd.prog Tryd.f4 false true false false) := by
  refine returnsInHanded_of_change_and (C := Tryd.checked) (X := fun w _ => laidMetH Tryd.prog laidW w) (fun _ _ _ hh h => h.of_heap hh) ownT started (by kernel_rfl) Tryd.func4
    (ChangeSpec.witness_shaped (enc := enc) (C := Tryd.checked) (os := os) (X := fun w _ => laidMetH Tryd.prog laidW w) false (World.doorLaid Tryd.prog 2000 os) #[.slice none 0 0, .slice none 0 0] 8 rfl (World.shaped_of_RefB (by kernel_rfl) (by kernel_rfl)) (by kernel_rfl) (by kernel_rfl) (by kernel_rfl) (door_met os _)) ?_
  intro W base args ds gs before hval0 hW _ _ hL _
  have hW' := hW
  have hlt := hW.lt
  obtain ⟨p, q, hA0, hV, rfl, hfz, hnd⟩ := hW
  have hA : DataW.TrodAll enc Tryd.prog W 0 (fun _ => true) true Tryd.f4.params.toList args.toList ds p := hA0
  rw [Tryd.params4] at hA
  obtain ⟨v0, v1, d0, d1, p0, p1, rfl, rfl, rfl, h0, h1⟩ := trodAll_two hA
  obtain ⟨rfl, rfl⟩ := trodVars_none hV
  have hval : ∀ (j : Nat) t v, Tryd.f4.params[j]? = some t → (#[v0, v1] : Array Value)[j]? = some v → Value.okWide Tryd.prog W .any base t v := hval0
  rw [Tryd.params4] at hval
  obtain ⟨b0, l0, r0⟩ := arg_box (hval 0 23 v0 rfl rfl) h0
  obtain ⟨b1, l1, r1⟩ := arg_box (hval 1 23 v1 rfl rfl) h1
  refine (call_ok anyXP (okImageUnions 0 (okAwake 0) b0 b1 l0 l1) hL rfl (fun j d hj => ?_)).mono fun e w ⟨r, F, he, htr, hr⟩ => ?_
  · match j, hj with
    | 0, hj => injection hj with hj; subst hj; exact r0
    | 1, hj => injection hj with hj; subst hj; exact r1
    | j + 2, hj => simp at hj
  · subst he
    have hb := below_of htr
    obtain rfl := bool_of hr
    refine ⟨_, rfl, [d0, d1], [], p0 ++ p1 ++ [], [], p0 ++ p1, [], hW', trodAll_mk1 (shut_bool Tryd.underlying4 _), ?_, rfl, hb.frame _, nofun⟩
    exact trodAll_mk2 (Below.trod laidOutT readBox rowBox h0 hb fun x hx => hlt x (by simp [hx])) (Below.trod laidOutT readBox rowBox h1 hb fun x hx => hlt x (by simp [hx]))
theorem imageUnions_said : Rows.ImageUnionsSaid :=
  OpenClaim.holds_of_wide 4 Tryd.f4 rfl rfl rfl rfl rfl rfl rfl ⟨rfl, rfl, rfl, rfl, rfl⟩ rfl rfl rfl rfl rfl (by kernel_rfl) Tryd.func4 (by kernel_rfl)
    (of_decide_eq_true (by kernel_rfl)) (by unfold Func.isWrapper; first | (rw [if_pos (by decide +kernel)]; kernel_rfl) | (rw [if_neg (by decide +kernel)]; exact ⟨rfl, rfl⟩))
    (fun os started H enc _ => unions_lifted os started H enc)
theorem imageUnions_holds : Rows.ImageUnionsCardSaid :=
  Claim7.holds_tied_plain_at .later [] [.data, .funcs] true (true, "359382384c43234c9f54482ff26339fbdcdd3930ee5da971ef51885eb1764899") false
    imageUnions_said (fun _ h => by cases h) (by kernel_rfl) (fun _ h => by cases h) imageUnions_row_tie rfl ⟨rfl, rfl⟩ (by kernel_rfl) rfl
    (fun f fn hf hfn => by
      obtain rfl : f = 4 := Option.some.inj ((show Tryd.prog.funcNamed "halation/halationlaw04.ImageUnions" = some 4 by kernel_rfl).symm.trans hf) |>.symm
      obtain rfl : fn = Tryd.f4 := (Option.some.inj (Tryd.func4.symm.trans hfn)).symm
      exact ⟨by kernel_rfl, fun j t ht => by
        rw [Tryd.params4] at ht
        have hm : t ∈ [23, 23] := by simpa using Array.mem_of_getElem? ht
        have hall : ([23, 23].all fun u => !Tryd.prog.wantsStandIn u) = true := by kernel_rfl
        exact (show Tryd.prog.wantsStandIn t = false by simpa using List.all_eq_true.1 hall t hm)⟩)
    (by kernel_rfl)
#print axioms imageUnions_holds
end Go.Proofs.YtgbmhofpndjdoaaDoor
