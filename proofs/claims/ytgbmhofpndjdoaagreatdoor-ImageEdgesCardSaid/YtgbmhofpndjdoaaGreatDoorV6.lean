/- A part of the proof that the law answers true for every input; the conditions are those of the card: the listed variable reads as the program lays it. -/
import Derived.Test.YtgbmhofpndjdoaaGreatDoorV5
set_option linter.unusedSimpArgs false
set_option linter.unusedVariables false
/- Chapter 04, functions: the reference's images: elements, copies, what is checked. -/
set_option maxRecDepth 100000
set_option maxHeartbeats 4000000
namespace Go.Vm.P4Z
open Go Go.Vm Go.Vm.P4
theorem okRElement (n : Nat) (m : Im) (c : Bool) (p : List Int) (h3 : m.bx.length ≤ 3) (hs : m.bx.length ≤ m.st.length) (hp : m.bx.length ≤ p.length) : callP (level E (n+1)) 74 [enIm m, slD c 1 (p.map ic)] = some (.int .i64 (elt m.bx p m.st 0)) := by
  rw [p74]
  simp only [go_sem, Nat.reduceAdd, Nat.reduceSub, Nat.reduceMul, Nat.reduceDiv, Nat.reduceMod, Nat.reduceLeDiff, Nat.reduceLT, Nat.reduceBEq, Int.reduceToNat, Int.reduceLT, Int.reduceLE, Int.reduceEq, enIm]
  have h := loop_fold (f := aCode (level E (n)) ⟨0, false⟩ b74_0) (h := head ⟨0, false⟩ [0, 1, 0, 1, 1, 1, 0]) (Φ := outC ⟨0, false⟩ [0, 0, 0, 0, 1, 0, 0]) m.bx (fun (a : List Int × List Int × Int) i => ⟨[.junk, .imm (slD c 1 (p.map ic)), .junk, .ptr 0 0, .imm (.int .i64 a.2.2), .imm (.int .i64 i), .junk], [.box [.imm (.int .i64 m.kd), .imm (enB m.bb m.bx), .imm (slD m.tb 1 (m.st.map ic)), .imm (slD m.db 1 (m.dt.map ub))]], none⟩) (fun a i => p.drop i = a.1 ∧ m.st.drop i = a.2.1)
    (fun a r => (a.1.tail, a.2.1.tail, ad a.2.2 (ml (sb (a.1.headD 0) r.lo) (a.2.1.headD 0)))) (fun a => some (.exit 0, ⟨[.junk, .junk, .junk, .junk, .imm (.int .i64 a.2.2), .junk, .junk], [], none⟩)) (p, m.st, 0) ⟨rfl, rfl⟩
    (fun a i r hI h2 h1 => by
      rcases a with ⟨_ | ⟨x, t⟩, _ | ⟨y, u⟩, k⟩
      · have := drop_n hI.1; omega
      · have := drop_n hI.1; omega
      · have := drop_n hI.2; omega
      obtain ⟨q1, q2, q3⟩ := drop_c hI.1
      obtain ⟨u1, u2, u3⟩ := drop_c hI.2
      refine ⟨?_, q3, u3⟩
      rw [rnd_eq]
      simp only [go_sem, Nat.reduceAdd, Nat.reduceSub, Nat.reduceMul, Nat.reduceDiv, Nat.reduceMod, Nat.reduceLeDiff, Nat.reduceLT, Nat.reduceBEq, Int.reduceToNat, Int.reduceLT, Int.reduceLE, Int.reduceEq, lt_t h2, h1, q1, u1, enB]
      rw [wrpS (by omega)]
      rfl)
    (fun _ _ => by
      rw [rnd_eq]
      simp only [go_sem, Nat.reduceAdd, Nat.reduceSub, Nat.reduceMul, Nat.reduceDiv, Nat.reduceMod, Nat.reduceLeDiff, Nat.reduceLT, Nat.reduceBEq, Int.reduceToNat, Int.reduceLT, Int.reduceLE, Int.reduceEq, lt_f (Nat.le_refl _), enB])
  rw [cast_0] at h
  simp only [go_sem, Nat.reduceAdd, Nat.reduceSub, Nat.reduceMul, Nat.reduceDiv, Nat.reduceMod, Nat.reduceLeDiff, Nat.reduceLT, Nat.reduceBEq, Int.reduceToNat, Int.reduceLT, Int.reduceLE, Int.reduceEq] at h
  rw [h]
  simp only [go_sem, Nat.reduceAdd, Nat.reduceSub, Nat.reduceMul, Nat.reduceDiv, Nat.reduceMod, Nat.reduceLeDiff, Nat.reduceLT, Nat.reduceBEq, Int.reduceToNat, Int.reduceLT, Int.reduceLE, Int.reduceEq]
  rw [elt_fold m.bx p m.st 0 hp hs]
theorem okRCheckData (n : Nat) (b : Bool) (kd : Int) (l : List Int) (hl : l.length < 1000000) (hv : ∀ v ∈ l, 0 ≤ v ∧ v < 18446744073709551616) : callP (level E (n+4)) 73 [.int .i64 kd, slD b 1 (l.map ub)] = some (.int .i64 (fnz (l.map (ckB1 kd)))) := by
  rw [p73]
  simp only [go_sem, Nat.reduceAdd, Nat.reduceSub, Nat.reduceMul, Nat.reduceDiv, Nat.reduceMod, Nat.reduceLeDiff, Nat.reduceLT, Nat.reduceBEq, Int.reduceToNat, Int.reduceLT, Int.reduceLE, Int.reduceEq]
  have h := loop_run (f := aCode (level E (n+3)) ⟨0, false⟩ b73_0) (h := head ⟨0, false⟩ [1, 1, 0, 1, 0, 0]) (Φ := outC ⟨0, false⟩ [0, 0, 1, 0, 0, 0]) l (fun (_ : Unit) i => ⟨[.imm (.int .i64 kd), .imm (slD b 1 (l.map ub)), .junk, .imm (.int .i64 i), .junk, .junk], [], none⟩) (fun _ _ => True)
    (fun _ x => if ckB1 kd x = 0 then .inl () else .inr (some (.ret, ⟨[.junk, .junk, .imm (.int .i64 1), .junk, .junk, .junk], [], none⟩))) (fun _ => some (.exit 0, ⟨[.junk, .junk, .junk, .junk, .junk, .junk], [], none⟩)) () trivial
    (fun _ i x _ h2 h1 => ⟨by
      obtain ⟨q1, q2⟩ := hv x (List.mem_of_getElem? h1)
      have hc := okQCheckValue n kd x q1 q2
      rw [rnd_eq]
      by_cases h0 : ckVal kd x = 0
      · simp only [go_sem, Nat.reduceAdd, Nat.reduceSub, Nat.reduceMul, Nat.reduceDiv, Nat.reduceMod, Nat.reduceLeDiff, Nat.reduceLT, Nat.reduceBEq, Int.reduceToNat, Int.reduceLT, Int.reduceLE, Int.reduceEq, lt_t h2, h1, hc, h0, ckB1, ne_eq, not_true_eq_false]
        rw [wrpS (by omega)]
      · simp only [go_sem, Nat.reduceAdd, Nat.reduceSub, Nat.reduceMul, Nat.reduceDiv, Nat.reduceMod, Nat.reduceLeDiff, Nat.reduceLT, Nat.reduceBEq, Int.reduceToNat, Int.reduceLT, Int.reduceLE, Int.reduceEq, lt_t h2, h1, hc, h0, ckB1, ne_eq, not_false_eq_true, show ¬ (1 : Int) = 0 by decide], fun _ _ => trivial⟩)
    (fun _ _ => by
      rw [rnd_eq]
      simp only [go_sem, Nat.reduceAdd, Nat.reduceSub, Nat.reduceMul, Nat.reduceDiv, Nat.reduceMod, Nat.reduceLeDiff, Nat.reduceLT, Nat.reduceBEq, Int.reduceToNat, Int.reduceLT, Int.reduceLE, Int.reduceEq, lt_f (Nat.le_refl _)])
  rw [cast_0] at h
  rw [h]
  clear h hl hv
  induction l with
  | nil => simp only [go_sem, Nat.reduceAdd, Nat.reduceSub, Nat.reduceMul, Nat.reduceDiv, Nat.reduceMod, Nat.reduceLeDiff, Nat.reduceLT, Nat.reduceBEq, Int.reduceToNat, Int.reduceLT, Int.reduceLE, Int.reduceEq, runL_nil, fnz]
  | cons x r ih =>
    by_cases h0 : ckVal kd x = 0
    · have e : ckB1 kd x = 0 := by rw [ckB1, if_pos h0]
      simp only [runL_cons, List.map_cons, e, if_true, fnz]; exact ih
    · have e : ckB1 kd x = 1 := by rw [ckB1, if_neg h0]
      simp only [go_sem, Nat.reduceAdd, Nat.reduceSub, Nat.reduceMul, Nat.reduceDiv, Nat.reduceMod, Nat.reduceLeDiff, Nat.reduceLT, Nat.reduceBEq, Int.reduceToNat, Int.reduceLT, Int.reduceLE, Int.reduceEq, runL_cons, e, fnz, show ¬ (1 : Int) = 0 by decide]
theorem okOwnInts (n : Nat) (b : Bool) (l : List Int) (hl : l.length < 1000000) : callP (level E (n+1)) 62 [slD b 1 (l.map ic)] = some (slD true 1 (l.map ic)) := by
  rw [p62]
  rcases l with _ | ⟨x, t⟩
  · cases b <;> simp only [go_sem, Nat.reduceAdd, Nat.reduceSub, Nat.reduceMul, Nat.reduceDiv, Nat.reduceMod, Nat.reduceLeDiff, Nat.reduceLT, Nat.reduceBEq, Int.reduceToNat, Int.reduceLT, Int.reduceLE, Int.reduceEq, slD] <;> rfl
  · have e : (t.length + 1) * 9 ≤ 70368744177664 := by simp at hl; omega
    have e0 : slD b 1 ((x :: t).map ic) = .sl 1 ((x :: t).map ic) := by cases b <;> rfl
    rw [e0]
    simp only [go_sem, Nat.reduceAdd, Nat.reduceSub, Nat.reduceMul, Nat.reduceDiv, Nat.reduceMod, Nat.reduceLeDiff, Nat.reduceLT, Nat.reduceBEq, Int.reduceToNat, Int.reduceLT, Int.reduceLE, Int.reduceEq, e] <;> rfl
theorem okOwnBits (n : Nat) (b : Bool) (l : List Int) (hl : l.length < 1000000) : callP (level E (n+1)) 38 [slD b 1 (l.map ub)] = some (slD true 1 (l.map ub)) := by
  rw [p38]
  rcases l with _ | ⟨x, t⟩
  · cases b <;> simp only [go_sem, Nat.reduceAdd, Nat.reduceSub, Nat.reduceMul, Nat.reduceDiv, Nat.reduceMod, Nat.reduceLeDiff, Nat.reduceLT, Nat.reduceBEq, Int.reduceToNat, Int.reduceLT, Int.reduceLE, Int.reduceEq, slD] <;> rfl
  · have e : (t.length + 1) * 9 ≤ 70368744177664 := by simp at hl; omega
    have e0 : slD b 1 ((x :: t).map ub) = .sl 1 ((x :: t).map ub) := by cases b <;> rfl
    rw [e0]
    simp only [go_sem, Nat.reduceAdd, Nat.reduceSub, Nat.reduceMul, Nat.reduceDiv, Nat.reduceMod, Nat.reduceLeDiff, Nat.reduceLT, Nat.reduceBEq, Int.reduceToNat, Int.reduceLT, Int.reduceLE, Int.reduceEq, e] <;> rfl
def Im.own (m : Im) : Im := { m with bb := true, tb := true, db := true }
theorem okOwnImage (n : Nat) (m : Im) (hx : m.bx.length < 1000000) (hs : m.st.length < 1000000) (hd : m.dt.length < 1000000) : callP (level E (n+2)) 10 [enIm m] = some (enIm m.own) := by
  rw [p10]
  have b1 := okOwnBox n m.bb m.bx hx
  have i1 := okOwnInts n m.tb m.st hs
  have u1 := okOwnBits n m.db m.dt hd
  simp only [go_sem, Nat.reduceAdd, Nat.reduceSub, Nat.reduceMul, Nat.reduceDiv, Nat.reduceMod, Nat.reduceLeDiff, Nat.reduceLT, Nat.reduceBEq, Int.reduceToNat, Int.reduceLT, Int.reduceLE, Int.reduceEq, enIm, b1, i1, u1, Im.own]
def shortI (m : Im) : Bool := decide (m.bx.length ≤ 4) && decide (m.st.length ≤ 5) && decide ((m.bx.take 4).foldl (fun n r => ml n (max 0 (min r.ex 200))) 1 ≤ 100) && decide (m.dt.length ≤ 200)
theorem okShortImage (n : Nat) (m : Im) : callP (level E (n+1)) 7 [enIm m] = some (.bool (shortI m)) := by
  rw [p7]
  simp only [go_sem, Nat.reduceAdd, Nat.reduceSub, Nat.reduceMul, Nat.reduceDiv, Nat.reduceMod, Nat.reduceLeDiff, Nat.reduceLT, Nat.reduceBEq, Int.reduceToNat, Int.reduceLT, Int.reduceLE, Int.reduceEq, enIm]
  have h := loop_fold (f := aCode (level E (n)) ⟨0, false⟩ b7_0) (h := head ⟨0, false⟩ [0, 0, 1, 1, 1, 0]) (Φ := outC ⟨0, false⟩ [0, 0, 1, 1, 0, 0]) (m.bx.take 4) (fun (a : Int) i => ⟨[.junk, .junk, .imm (.ptr [.int .i64 m.kd, enB m.bb m.bx, slD m.tb 1 (m.st.map ic), slD m.db 1 (m.dt.map ub)]), .imm (.int .i64 a), .imm (.int .i64 i), .junk], [], none⟩) (fun _ _ => True)
    (fun a x => ml a (max 0 (min x.ex 200))) (fun a => some (.exit 0, ⟨[.junk, .junk, .imm (.ptr [.int .i64 m.kd, enB m.bb m.bx, slD m.tb 1 (m.st.map ic), slD m.db 1 (m.dt.map ub)]), .imm (.int .i64 a), .junk, .junk], [], none⟩)) 1 trivial
    (fun a i x _ h2 h1 => ⟨by
      rw [List.length_take] at h2
      rw [List.getElem?_take_of_lt (by omega)] at h1
      have h4 : (i : Int) < 4 := by omega
      rw [rnd_eq]
      simp only [go_sem, Nat.reduceAdd, Nat.reduceSub, Nat.reduceMul, Nat.reduceDiv, Nat.reduceMod, Nat.reduceLeDiff, Nat.reduceLT, Nat.reduceBEq, Int.reduceToNat, Int.reduceLT, Int.reduceLE, Int.reduceEq, lt_t (show i < m.bx.length by omega), h1, h4, ml, enB]
      rw [wrpS (by omega)], trivial⟩)
    (fun a _ => by
      rw [rnd_eq]
      rw [List.length_take]
      by_cases h5 : m.bx.length ≤ 4
      · rw [Nat.min_eq_right h5]
        simp only [go_sem, Nat.reduceAdd, Nat.reduceSub, Nat.reduceMul, Nat.reduceDiv, Nat.reduceMod, Nat.reduceLeDiff, Nat.reduceLT, Nat.reduceBEq, Int.reduceToNat, Int.reduceLT, Int.reduceLE, Int.reduceEq, lt_f (Nat.le_refl _), enB]
      · rw [Nat.min_eq_left (by omega)]
        have h6 : (4 : Int) < m.bx.length := by omega
        have h7 : ¬ (4 : Int) < 4 := by omega
        simp only [go_sem, Nat.reduceAdd, Nat.reduceSub, Nat.reduceMul, Nat.reduceDiv, Nat.reduceMod, Nat.reduceLeDiff, Nat.reduceLT, Nat.reduceBEq, Int.reduceToNat, Int.reduceLT, Int.reduceLE, Int.reduceEq, h6, h7, enB])
  rw [cast_0] at h
  try simp only [go_sem, Nat.reduceAdd, Nat.reduceSub, Nat.reduceMul, Nat.reduceDiv, Nat.reduceMod, Nat.reduceLeDiff, Nat.reduceLT, Nat.reduceBEq, Int.reduceToNat, Int.reduceLT, Int.reduceLE, Int.reduceEq] at h
  rw [h, shortI]
  clear h
  generalize (m.bx.take 4).foldl (fun n r => ml n (max 0 (min r.ex 200))) 1 = F
  by_cases h5 : (m.bx.length : Int) ≤ 4
  · have h6 : m.bx.length ≤ 4 := by omega
    by_cases h7 : (m.st.length : Int) ≤ 5
    · have h8 : m.st.length ≤ 5 := by omega
      by_cases h9 : F ≤ 100
      · by_cases h10 : (m.dt.length : Int) ≤ 200
        · have h11 : m.dt.length ≤ 200 := by omega
          simp only [go_sem, Nat.reduceAdd, Nat.reduceSub, Nat.reduceMul, Nat.reduceDiv, Nat.reduceMod, Nat.reduceLeDiff, Nat.reduceLT, Nat.reduceBEq, Int.reduceToNat, Int.reduceLT, Int.reduceLE, Int.reduceEq, h5, h6, h7, h8, h9, h10, h11]
        · have h11 : ¬ m.dt.length ≤ 200 := by omega
          simp only [go_sem, Nat.reduceAdd, Nat.reduceSub, Nat.reduceMul, Nat.reduceDiv, Nat.reduceMod, Nat.reduceLeDiff, Nat.reduceLT, Nat.reduceBEq, Int.reduceToNat, Int.reduceLT, Int.reduceLE, Int.reduceEq, h5, h6, h7, h8, h9, h10, h11]
      · simp only [go_sem, Nat.reduceAdd, Nat.reduceSub, Nat.reduceMul, Nat.reduceDiv, Nat.reduceMod, Nat.reduceLeDiff, Nat.reduceLT, Nat.reduceBEq, Int.reduceToNat, Int.reduceLT, Int.reduceLE, Int.reduceEq, h5, h6, h7, h8, h9, Bool.false_and]
    · have h8 : ¬ m.st.length ≤ 5 := by omega
      simp only [go_sem, Nat.reduceAdd, Nat.reduceSub, Nat.reduceMul, Nat.reduceDiv, Nat.reduceMod, Nat.reduceLeDiff, Nat.reduceLT, Nat.reduceBEq, Int.reduceToNat, Int.reduceLT, Int.reduceLE, Int.reduceEq, h5, h6, h7, h8, Bool.and_false, Bool.false_and]
  · have h6 : ¬ m.bx.length ≤ 4 := by omega
    simp only [go_sem, Nat.reduceAdd, Nat.reduceSub, Nat.reduceMul, Nat.reduceDiv, Nat.reduceMod, Nat.reduceLeDiff, Nat.reduceLT, Nat.reduceBEq, Int.reduceToNat, Int.reduceLT, Int.reduceLE, Int.reduceEq, h5, h6, Bool.false_and]
theorem okRBits (n : Nat) (m : Im) (c : Bool) (p : List Int) (h3 : m.bx.length ≤ 3) (hs : m.bx.length ≤ m.st.length) (hp : m.bx.length ≤ p.length) (k : Nat) (v : Int) (he : elt m.bx p m.st 0 = k) (hv : m.dt[k]? = some v) :
    callP (level E (n+2)) 48 [enIm m, slD c 1 (p.map ic)] = some (.int .u64 v) := by
  rw [p48]
  have h1 := okRElement n m c p h3 hs hp
  rw [he] at h1
  simp only [enIm] at h1
  simp only [go_sem, Nat.reduceAdd, Nat.reduceSub, Nat.reduceMul, Nat.reduceDiv, Nat.reduceMod, Nat.reduceLeDiff, Nat.reduceLT, Nat.reduceBEq, Int.reduceToNat, Int.reduceLT, Int.reduceLE, Int.reduceEq, enIm, h1, hv]
end Go.Vm.P4Z

/- Chapter 04, functions: the reference's check of an image. -/
set_option maxRecDepth 100000
set_option maxHeartbeats 4000000
namespace Go.Vm.P4Z
open Go Go.Vm Go.Vm.P4
theorem ia_refN {id sz lw k i : Nat} (h : i < k) : aIaddr none sz (.ref id sz lw k) (i : Int) = some (.ptr id ((lw + i) * sz)) := by
  rw [ia_ref (by omega) (by omega)]; rfl
theorem elt_app : ∀ (l : Bx) (p q s : List Int) (n : Int), l.length ≤ p.length → l.length ≤ s.length → elt l (p ++ q) s n = elt l p s n
  | [], p, q, s, n, _, _ => by cases p <;> cases q <;> cases s <;> rfl
  | r :: l, [], _, _, _, h, _ => by simp at h
  | r :: l, _ :: _, _, [], _, _, h => by simp at h
  | r :: l, x :: p, q, y :: s, n, h1, h2 => by
    rw [List.cons_append, elt, elt, elt_app l p q s _ (by simpa using h1) (by simpa using h2)]
def Oks (s : List Int) : Prop := ∀ x ∈ s, 0 ≤ x ∧ x ≤ 4096
theorem elt_nn : ∀ (l : Bx) (p s : List Int) (n : Int), Okr l → InB l p → Oks s → l.length ≤ s.length → 0 ≤ n → n + l.length * 258048 ≤ 1000000000 → 0 ≤ elt l p s n
  | [], [], s, n, _, _, _, _, hn, _ => by cases s <;> simpa [elt] using hn
  | [], _ :: _, _, _, _, h, _, _, _, _ => h.elim
  | _ :: _, [], _, _, _, h, _, _, _, _ => h.elim
  | r :: l, x :: p, [], n, _, _, _, h, _, _ => by simp at h
  | r :: l, x :: p, y :: s, n, h, hi, hs, hl, hn, hb => by
    have hr := ckRange0 (h r (by simp))
    obtain ⟨a1, a2, a3⟩ := hi
    obtain ⟨b1, b2⟩ := hs y (by simp)
    have e1 : sb x r.lo = x - r.lo := wrp_ok (by omega)
    have m0 : 0 ≤ (x - r.lo) * y := Int.mul_nonneg (by omega) b1
    have m1 : (x - r.lo) * y ≤ 63 * 4096 := Int.mul_le_mul (by omega) b2 b1 (by omega)
    have e2 : ml (x - r.lo) y = (x - r.lo) * y := wrp_ok (by omega)
    simp only [List.length_cons] at hb
    have e3 : ad n ((x - r.lo) * y) = n + (x - r.lo) * y := wrp_ok (by omega)
    rw [elt, e1, e2, e3]
    exact elt_nn l p s _ h.tl a3 (fun z hz => hs z (List.mem_cons_of_mem _ hz)) (by simpa using hl) (by omega) (by omega)
def tkA (N : Nat) (a : List Int) : List (List D) := (List.range N).map fun (j : Nat) => [D.bool (decide ((j : Int) ∈ a))]
theorem tkA_get {N j : Nat} {a : List Int} (h : j < N) : (tkA N a)[j]? = some [D.bool (decide ((j : Int) ∈ a))] := by
  simp [tkA, h]
theorem tkA_len (N : Nat) (a : List Int) : (tkA N a).length = N := by simp [tkA]
theorem tkA_nil (N : Nat) : tkA N [] = List.replicate N [D.bool false] := by
  apply List.ext_getElem?
  intro j
  by_cases h : j < N
  · rw [tkA_get h]; simp [h]
  · rw [List.getElem?_eq_none (by rw [tkA_len]; omega), List.getElem?_eq_none (by simp; omega)]
theorem tkA_set (N k : Nat) (a : List Int) (h : k < N) : (tkA N a).set k [D.bool true] = tkA N (a ++ [(k : Int)]) := by
  apply List.ext_getElem?
  intro j
  by_cases hj : j < N
  · rw [List.getElem?_set, tkA_get hj, tkA_get hj]
    by_cases e : k = j
    · subst e; simp [tkA_len, h]
    · have e' : ¬ (j : Int) = (k : Int) := by omega
      simp [e, e']
  · rw [List.getElem?_eq_none (by simp [tkA_len]; omega), List.getElem?_eq_none (by rw [tkA_len]; omega)]
def ckI (m : Im) : Int := ckIm (ckB1 m.kd) m
theorem okRCheckSt (n : Nat) (cs : List AV) (kd : Int) (bx : D) (b db : Bool) (st : List Int) (dt : D) (hl : st.length < 1000000) :
    outC ⟨0, false⟩ [0, 1, 1, 0, 0, 0, 0, 0, 0, 0, 0, 0, 0, 0, 0, 0] (rnd (aCode (level E n) ⟨0, false⟩ b13_0) (head ⟨0, false⟩ [0, 0, 1, 0, 1, 0, 0, 0, 0, 0, 0, 0, 0, 0, 0, 0])
      ⟨[.junk, .junk, .ptr 0 0, .junk, .imm (.int .i64 0), .junk, .junk, .junk, .junk, .junk, .junk, .junk, .junk, .junk, .junk, .junk], [.box [.imm (.int .i64 kd), .imm bx, .imm (slD b 1 (st.map ic)), .imm dt]], none⟩) =
    if st.any (fun x => !(decide (x ≥ 0) && decide (x ≤ 4096))) then some (.ret, ⟨[.junk, .imm (.int .i64 3), .ptr 0 0, .junk, .junk, .junk, .junk, .junk, .junk, .junk, .junk, .junk, .junk, .junk, .junk, .junk], [.box [.imm (.int .i64 kd), .imm bx, .imm (slD b 1 (st.map ic)), .imm dt]], none⟩)
    else some (.exit 0, ⟨[.junk, .junk, .ptr 0 0, .junk, .junk, .junk, .junk, .junk, .junk, .junk, .junk, .junk, .junk, .junk, .junk, .junk], [.box [.imm (.int .i64 kd), .imm bx, .imm (slD b 1 (st.map ic)), .imm dt]], none⟩) := by
  have h := loop_run (f := aCode (level E (n)) ⟨0, false⟩ b13_0) (h := head ⟨0, false⟩ [0, 0, 1, 0, 1, 0, 0, 0, 0, 0, 0, 0, 0, 0, 0, 0]) (Φ := outC ⟨0, false⟩ [0, 1, 1, 0, 0, 0, 0, 0, 0, 0, 0, 0, 0, 0, 0, 0]) st (fun (_ : Unit) i => ⟨[.junk, .junk, .ptr 0 0, .junk, .imm (.int .i64 i), .junk, .junk, .junk, .junk, .junk, .junk, .junk, .junk, .junk, .junk, .junk], [.box [.imm (.int .i64 kd), .imm bx, .imm (slD b 1 (st.map ic)), .imm dt]], none⟩) (fun _ _ => True)
    (fun _ x => if (!(decide (x ≥ 0) && decide (x ≤ 4096))) = true then .inr (some (.ret, ⟨[.junk, .imm (.int .i64 3), .ptr 0 0, .junk, .junk, .junk, .junk, .junk, .junk, .junk, .junk, .junk, .junk, .junk, .junk, .junk], [.box [.imm (.int .i64 kd), .imm bx, .imm (slD b 1 (st.map ic)), .imm dt]], none⟩)) else .inl ()) (fun _ => some (.exit 0, ⟨[.junk, .junk, .ptr 0 0, .junk, .junk, .junk, .junk, .junk, .junk, .junk, .junk, .junk, .junk, .junk, .junk, .junk], [.box [.imm (.int .i64 kd), .imm bx, .imm (slD b 1 (st.map ic)), .imm dt]], none⟩)) () trivial
    (fun _ i x _ h2 h1 => ⟨by
      rw [rnd_eq]
      by_cases k1 : x < 0
      · have k2 : decide (x ≥ 0) = false := decide_eq_false (by omega)
        simp only [go_sem, Nat.reduceAdd, Nat.reduceSub, Nat.reduceMul, Nat.reduceDiv, Nat.reduceMod, Nat.reduceLeDiff, Nat.reduceLT, Nat.reduceBEq, Int.reduceToNat, Int.reduceLT, Int.reduceLE, Int.reduceEq, lt_t h2, h1, k1, k2, Bool.false_and, Bool.not_false]
      · have k2 : decide (x ≥ 0) = true := decide_eq_true (by omega)
        by_cases k3 : x > 4096
        · have k4 : decide (x ≤ 4096) = false := decide_eq_false (by omega)
          simp only [go_sem, Nat.reduceAdd, Nat.reduceSub, Nat.reduceMul, Nat.reduceDiv, Nat.reduceMod, Nat.reduceLeDiff, Nat.reduceLT, Nat.reduceBEq, Int.reduceToNat, Int.reduceLT, Int.reduceLE, Int.reduceEq, lt_t h2, h1, k1, k2, k3, k4, Bool.and_false, Bool.not_false]
        · have k4 : decide (x ≤ 4096) = true := decide_eq_true (by omega)
          simp only [go_sem, Nat.reduceAdd, Nat.reduceSub, Nat.reduceMul, Nat.reduceDiv, Nat.reduceMod, Nat.reduceLeDiff, Nat.reduceLT, Nat.reduceBEq, Int.reduceToNat, Int.reduceLT, Int.reduceLE, Int.reduceEq, lt_t h2, h1, k1, k2, k3, k4, Bool.and_true, Bool.not_true, Bool.false_eq_true]
          rw [wrpS (by omega)], fun _ _ => trivial⟩)
    (fun _ _ => by
      rw [rnd_eq]
      simp only [go_sem, Nat.reduceAdd, Nat.reduceSub, Nat.reduceMul, Nat.reduceDiv, Nat.reduceMod, Nat.reduceLeDiff, Nat.reduceLT, Nat.reduceBEq, Int.reduceToNat, Int.reduceLT, Int.reduceLE, Int.reduceEq, lt_f (Nat.le_refl _)])
  rw [cast_0] at h
  rw [h]
  have e : ∀ l : List Int, runL (γ := Option (AExit × S)) (fun (_ : Unit) x => if (!(decide (x ≥ 0) && decide (x ≤ 4096))) = true then .inr (some (.ret, ⟨[.junk, .imm (.int .i64 3), .ptr 0 0, .junk, .junk, .junk, .junk, .junk, .junk, .junk, .junk, .junk, .junk, .junk, .junk, .junk], [.box [.imm (.int .i64 kd), .imm bx, .imm (slD b 1 (st.map ic)), .imm dt]], none⟩)) else .inl ()) (fun _ => some (.exit 0, ⟨[.junk, .junk, .ptr 0 0, .junk, .junk, .junk, .junk, .junk, .junk, .junk, .junk, .junk, .junk, .junk, .junk, .junk], [.box [.imm (.int .i64 kd), .imm bx, .imm (slD b 1 (st.map ic)), .imm dt]], none⟩)) () l =
      if l.any (fun x => !(decide (x ≥ 0) && decide (x ≤ 4096))) then some (.ret, ⟨[.junk, .imm (.int .i64 3), .ptr 0 0, .junk, .junk, .junk, .junk, .junk, .junk, .junk, .junk, .junk, .junk, .junk, .junk, .junk], [.box [.imm (.int .i64 kd), .imm bx, .imm (slD b 1 (st.map ic)), .imm dt]], none⟩)
      else some (.exit 0, ⟨[.junk, .junk, .ptr 0 0, .junk, .junk, .junk, .junk, .junk, .junk, .junk, .junk, .junk, .junk, .junk, .junk, .junk], [.box [.imm (.int .i64 kd), .imm bx, .imm (slD b 1 (st.map ic)), .imm dt]], none⟩) := by
    intro l
    induction l with
    | nil => simp [runL_nil]
    | cons x r ih =>
      rw [runL_cons, List.any_cons]
      cases hx : (!(decide (x ≥ 0) && decide (x ≤ 4096)))
      · simp only [Bool.false_eq_true, if_false, Bool.false_or]; exact ih
      · simp only [if_true, Bool.true_or]
  exact e st
theorem okRCheckPts (n : Nat) (m : Im) (hm : ckBox m.bx = 0) (hs : m.bx.length = m.st.length) (ho : Oks m.st) (hd : m.dt.length < 1000000) (N : Nat) (hN : many m.bx = N) :
    outC ⟨0, false⟩ [0, 1, 0, 0, 0, 0, 0, 0, 0, 0, 0, 0, 0, 0, 0, 0] (rnd (aCode (level E (n+1)) ⟨0, false⟩ b13_1) (head ⟨0, false⟩ [0, 0, 1, 0, 0, 0, 1, 1, 0, 0, 0, 0, 0, 0, 0, 0])
      ⟨[.junk, .junk, .ptr 0 0, .junk, .junk, .junk, .ref 1 1 0 m.dt.length, .imm (.int .i64 0), .junk, .junk, .junk, .junk, .junk, .junk, .junk, .junk], [.box [.imm (.int .i64 m.kd), .imm (enB m.bb m.bx), .imm (slD m.tb 1 (m.st.map ic)), .imm (slD m.db 1 (m.dt.map ub))], .arr 1 (tkA m.dt.length [])], none⟩) =
    if ckPts m [] (List.range N) = 0 then some (.exit 2, ⟨[.junk, .junk, .junk, .junk, .junk, .junk, .junk, .junk, .junk, .junk, .junk, .junk, .junk, .junk, .junk, .junk], [], none⟩) else some (.ret, ⟨[.junk, .imm (.int .i64 (ckPts m [] (List.range N))), .junk, .junk, .junk, .junk, .junk, .junk, .junk, .junk, .junk, .junk, .junk, .junk, .junk, .junk], [], none⟩) := by
  obtain ⟨h1, h3, hr, h4⟩ := ckBox0 hm
  have hN2 : N ≤ 4096 := by omega
  have pr := okRProduct n m.bb m.bx (by omega)
  have el : ∀ i, i < N → elt m.bx (ptW m.bx (i : Nat)) m.st 0 = elAt m i ∧ 0 ≤ elAt m i := by
    intro i hi
    have hx := ex_pos hr (by omega : many m.bx ≠ 0)
    have e1 : ptW m.bx (i : Nat) = digits m.bx i := ptW_dig m.bx i hr hx (by omega) (by omega)
    have e2 := plc_dig m.bx hr h3 hx i
    have e3 : elAt m i = elt m.bx (digits m.bx i) m.st 0 := by
      rw [elAt, e2, elt_app _ _ _ _ _ (by rw [digits_len]; exact Nat.le_refl _) (by omega)]
    rw [e1, e3]
    refine ⟨rfl, elt_nn _ _ _ _ hr (digits_in _ _ hx) ho (by omega) (by omega) (by omega)⟩
  have h := loop_run (f := aCode (level E (n+1)) ⟨0, false⟩ b13_1) (h := head ⟨0, false⟩ [0, 0, 1, 0, 0, 0, 1, 1, 0, 0, 0, 0, 0, 0, 0, 0]) (Φ := outC ⟨0, false⟩ [0, 1, 0, 0, 0, 0, 0, 0, 0, 0, 0, 0, 0, 0, 0, 0]) (List.range N) (fun (a : List Int) i => ⟨[.junk, .junk, .ptr 0 0, .junk, .junk, .junk, .ref 1 1 0 m.dt.length, .imm (.int .i64 i), .junk, .junk, .junk, .junk, .junk, .junk, .junk, .junk], [.box [.imm (.int .i64 m.kd), .imm (enB m.bb m.bx), .imm (slD m.tb 1 (m.st.map ic)), .imm (slD m.db 1 (m.dt.map ub))], .arr 1 (tkA m.dt.length a)], none⟩) (fun _ _ => True)
    (fun a i => if (m.dt.length : Int) ≤ elAt m i then .inr (some (.ret, ⟨[.junk, .imm (.int .i64 14), .junk, .junk, .junk, .junk, .junk, .junk, .junk, .junk, .junk, .junk, .junk, .junk, .junk, .junk], [], none⟩)) else if elAt m i ∈ a then .inr (some (.ret, ⟨[.junk, .imm (.int .i64 26), .junk, .junk, .junk, .junk, .junk, .junk, .junk, .junk, .junk, .junk, .junk, .junk, .junk, .junk], [], none⟩)) else .inl (a ++ [elAt m i])) (fun _ => some (.exit 2, ⟨[.junk, .junk, .junk, .junk, .junk, .junk, .junk, .junk, .junk, .junk, .junk, .junk, .junk, .junk, .junk, .junk], [], none⟩)) [] trivial
    (fun a i j _ h2 h5 => ⟨by
      have := getRange h5
      subst this
      rw [List.length_range] at h2
      have hx := ex_pos hr (by omega : many m.bx ≠ 0)
      have rp := okRPoint n m.bb m.bx j (by omega) (fun r hr' => by have := hx r hr'; omega)
      obtain ⟨e1, e2⟩ := el j h2
      have re := okRElement n m true (ptW m.bx j) h3 (by omega) (by rw [ptW_dig m.bx j hr hx (by omega) (by omega), digits_len]; exact Nat.le_refl _)
      rw [e1] at re
      have hlt : (j : Int) < many m.bx := by omega
      rw [rnd_eq]
      simp only [enIm] at re
      by_cases k1 : (m.dt.length : Int) ≤ elAt m j
      · have k1' : elAt m j ≥ (m.dt.length : Int) := k1
        simp only [go_sem, Nat.reduceAdd, Nat.reduceSub, Nat.reduceMul, Nat.reduceDiv, Nat.reduceMod, Nat.reduceLeDiff, Nat.reduceLT, Nat.reduceBEq, Int.reduceToNat, Int.reduceLT, Int.reduceLE, Int.reduceEq, pr, hlt, rp, re, k1, k1', enB]
      · have k1' : ¬ elAt m j ≥ (m.dt.length : Int) := k1
        obtain ⟨k, hk⟩ : ∃ k : Nat, elAt m j = k := ⟨(elAt m j).toNat, by omega⟩
        have hk2 : k < m.dt.length := by omega
        rw [hk] at re k1 k1' ⊢
        have tg := tkA_get (a := a) hk2
        by_cases k2 : (k : Int) ∈ a
        · simp only [go_sem, Nat.reduceAdd, Nat.reduceSub, Nat.reduceMul, Nat.reduceDiv, Nat.reduceMod, Nat.reduceLeDiff, Nat.reduceLT, Nat.reduceBEq, Int.reduceToNat, Int.reduceLT, Int.reduceLE, Int.reduceEq, pr, hlt, rp, re, k1, k1', enB, tg, k2, tkA_len, hk2, ia_refN, Nat.zero_add, Nat.mul_one, Nat.mod_one, Nat.div_one]
        · simp only [go_sem, Nat.reduceAdd, Nat.reduceSub, Nat.reduceMul, Nat.reduceDiv, Nat.reduceMod, Nat.reduceLeDiff, Nat.reduceLT, Nat.reduceBEq, Int.reduceToNat, Int.reduceLT, Int.reduceLE, Int.reduceEq, pr, hlt, rp, re, k1, k1', enB, tg, k2, tkA_len, hk2, ia_refN, Nat.zero_add, Nat.mul_one, Nat.mod_one, Nat.div_one, tkA_set _ _ _ hk2]
          rw [wrpS (by omega)], fun _ _ => trivial⟩)
    (fun a _ => by
      rw [rnd_eq]
      rw [List.length_range]
      have hlt : ¬ (N : Int) < many m.bx := by omega
      simp only [go_sem, Nat.reduceAdd, Nat.reduceSub, Nat.reduceMul, Nat.reduceDiv, Nat.reduceMod, Nat.reduceLeDiff, Nat.reduceLT, Nat.reduceBEq, Int.reduceToNat, Int.reduceLT, Int.reduceLE, Int.reduceEq, pr, hlt, enB])
  rw [cast_0] at h
  rw [h]
  have e : ∀ (l : List Nat) (a : List Int), runL (γ := Option (AExit × S)) (fun (a : List Int) i => if (m.dt.length : Int) ≤ elAt m i then .inr (some (.ret, ⟨[.junk, .imm (.int .i64 14), .junk, .junk, .junk, .junk, .junk, .junk, .junk, .junk, .junk, .junk, .junk, .junk, .junk, .junk], [], none⟩)) else if elAt m i ∈ a then .inr (some (.ret, ⟨[.junk, .imm (.int .i64 26), .junk, .junk, .junk, .junk, .junk, .junk, .junk, .junk, .junk, .junk, .junk, .junk, .junk, .junk], [], none⟩)) else .inl (a ++ [elAt m i])) (fun _ => some (.exit 2, ⟨[.junk, .junk, .junk, .junk, .junk, .junk, .junk, .junk, .junk, .junk, .junk, .junk, .junk, .junk, .junk, .junk], [], none⟩)) a l =
      if ckPts m a l = 0 then some (.exit 2, ⟨[.junk, .junk, .junk, .junk, .junk, .junk, .junk, .junk, .junk, .junk, .junk, .junk, .junk, .junk, .junk, .junk], [], none⟩) else some (.ret, ⟨[.junk, .imm (.int .i64 (ckPts m a l)), .junk, .junk, .junk, .junk, .junk, .junk, .junk, .junk, .junk, .junk, .junk, .junk, .junk, .junk], [], none⟩) := by
    intro l
    induction l with
    | nil => intro a; simp [runL_nil, ckPts]
    | cons i r ih =>
      intro a
      rw [runL_cons, ckPts]
      by_cases k1 : (m.dt.length : Int) ≤ elAt m i
      · simp only [k1, if_true, show ¬ (14 : Int) = 0 by decide, if_false]
      · by_cases k2 : elAt m i ∈ a
        · simp only [k1, k2, if_true, if_false, show ¬ (26 : Int) = 0 by decide]
        · simp only [k1, k2, if_false]; exact ih _
  exact e _ _
def Ok64 (l : List Int) : Prop := ∀ v ∈ l, 0 ≤ v ∧ v < 18446744073709551616
theorem any_oks {s : List Int} (h : s.any (fun x => !(decide (x ≥ 0) && decide (x ≤ 4096))) = false) : Oks s := by
  intro x hx
  have := List.any_eq_false.1 h x hx
  simp at this
  exact this
theorem okRCheck (n : Nat) (m : Im) (hx : m.bx.length < 1000000) (hs : m.st.length < 1000000) (hd : m.dt.length < 1000000) (hv : Ok64 m.dt) : callP (level E (n+5)) 13 [enIm m] = some (.int .i64 (ckI m)) := by
  rw [p13]
  have k1 := okQCheckKind (n+2) m.kd
  have b1 := okRCheckBox (n+2) m.bb m.bx hx
  have w1 : callP (level E (n+4)) 32 [.bool (decide (¬ (m.st.length : Int) = m.bx.length)), .int .i64 2] = some (.int .i64 (if m.st.length = m.bx.length then 0 else 2)) := by
    rw [okQWhen (n+3)]
    by_cases h : m.st.length = m.bx.length
    · simp [h]
    · have : ¬ (m.st.length : Int) = m.bx.length := by omega
      simp [h, this]
  have f1 : callP (level E (n+4)) 29 [.sl 1 [[.int .i64 (ckKind m.kd)], [.int .i64 (ckBox m.bx)], [.int .i64 (if m.st.length = m.bx.length then 0 else 2)]]] = some (.int .i64 (ckA m)) :=
    okQFirstL (n+3) _ [ckKind m.kd, ckBox m.bx, if m.st.length = m.bx.length then 0 else 2] rfl (by simp)
  have s1 := okRCheckSt (n+4) [] m.kd (enB m.bb m.bx) m.tb m.db m.st (slD m.db 1 (m.dt.map ub)) hs
  have d1 := okRCheckData n m.db m.kd m.dt hd hv
  have w2 : callP (level E (n+4)) 32 [.bool (decide ((m.dt.length : Int) > 4096)), .int .i64 5] = some (.int .i64 (if 4096 < m.dt.length then 5 else 0)) := by
    rw [okQWhen (n+3)]
    by_cases h : 4096 < m.dt.length
    · have : (4096 : Int) < m.dt.length := by omega
      simp [h, this]
    · have : ¬ (4096 : Int) < m.dt.length := by omega
      simp [h, this]
  have f2 := okQFirstL (n+3) [[.int .i64 (if 4096 < m.dt.length then 5 else 0)], [.int .i64 (fnz (m.dt.map (ckB1 m.kd)))]] [if 4096 < m.dt.length then 5 else 0, fnz (m.dt.map (ckB1 m.kd))] rfl (by simp)
  by_cases hA : ckA m = 0
  · obtain ⟨a1, a2, a3⟩ := ckA0 hA
    cases hst : m.st.any (fun x => !(decide (x ≥ 0) && decide (x ≤ 4096)))
    · rw [hst] at s1
      have ho := any_oks hst
      by_cases h5 : 4096 < m.dt.length
      · have hB : ckB m = 5 := by rw [ckB, hst, if_pos h5]; rfl
        rw [if_pos h5] at w2 f2
        simp only [fnz_cons, show ¬ (5 : Int) = 0 by decide, if_false] at f2
        simp only [Bool.false_eq_true, if_false] at s1
        simp only [go_sem, Nat.reduceAdd, Nat.reduceSub, Nat.reduceMul, Nat.reduceDiv, Nat.reduceMod, Nat.reduceLeDiff, Nat.reduceLT, Nat.reduceBEq, Int.reduceToNat, Int.reduceLT, Int.reduceLE, Int.reduceEq, enIm, k1, b1, w1, f1, hA, s1, d1, w2, f2, ckI, ckIm, hB, ne_eq, not_true_eq_false, show ¬ (5 : Int) = 0 by decide, not_false_eq_true]
      · have hB : ckB m = 0 := by rw [ckB, hst, if_neg h5]; rfl
        rw [if_neg h5] at w2 f2
        have hf : fnz [0, fnz (m.dt.map (ckB1 m.kd))] = fnz (m.dt.map (ckB1 m.kd)) := by
          simp only [fnz_cons, if_true]
          by_cases h0 : fnz (m.dt.map (ckB1 m.kd)) = 0
          · rw [if_pos h0, h0]; rfl
          · rw [if_neg h0]
        rw [hf] at f2
        simp only [Bool.false_eq_true, if_false] at s1
        by_cases h0 : fnz (m.dt.map (ckB1 m.kd)) = 0
        · obtain ⟨N, hN, hN2⟩ := many_nat a2
          have p1 := okRCheckPts (n+3) m a2 a3.symm ho hd N hN
          rw [tkA_nil] at p1
          have hNt : (many m.bx).toNat = N := by omega
          have e0 : (1 : Int) * (m.dt.length : Int) ≤ 70368744177664 := by omega
          have e2 : (m.dt.length : Int) ≤ 70368744177664 := by omega
          have e3 : (0 : Int) ≤ (m.dt.length : Int) := by omega
          rw [h0] at d1 f2
          by_cases hp : ckPts m [] (List.range N) = 0
          · rw [if_pos hp] at p1
            simp only [go_sem, Nat.reduceAdd, Nat.reduceSub, Nat.reduceMul, Nat.reduceDiv, Nat.reduceMod, Nat.reduceLeDiff, Nat.reduceLT, Nat.reduceBEq, Int.reduceToNat, Int.reduceLT, Int.reduceLE, Int.reduceEq, enIm, k1, b1, w1, f1, hA, s1, d1, w2, f2, ckI, ckIm, hB, h0, e0, e2, e3, hNt, hp, ne_eq, not_true_eq_false]
            rw [p1]
            simp only [go_sem, Nat.reduceAdd, Nat.reduceSub, Nat.reduceMul, Nat.reduceDiv, Nat.reduceMod, Nat.reduceLeDiff, Nat.reduceLT, Nat.reduceBEq, Int.reduceToNat, Int.reduceLT, Int.reduceLE, Int.reduceEq]
          · rw [if_neg hp] at p1
            simp only [go_sem, Nat.reduceAdd, Nat.reduceSub, Nat.reduceMul, Nat.reduceDiv, Nat.reduceMod, Nat.reduceLeDiff, Nat.reduceLT, Nat.reduceBEq, Int.reduceToNat, Int.reduceLT, Int.reduceLE, Int.reduceEq, enIm, k1, b1, w1, f1, hA, s1, d1, w2, f2, ckI, ckIm, hB, h0, e0, e2, e3, hNt, hp, ne_eq, not_true_eq_false]
            rw [p1]
            simp only [go_sem, Nat.reduceAdd, Nat.reduceSub, Nat.reduceMul, Nat.reduceDiv, Nat.reduceMod, Nat.reduceLeDiff, Nat.reduceLT, Nat.reduceBEq, Int.reduceToNat, Int.reduceLT, Int.reduceLE, Int.reduceEq]
        · simp only [go_sem, Nat.reduceAdd, Nat.reduceSub, Nat.reduceMul, Nat.reduceDiv, Nat.reduceMod, Nat.reduceLeDiff, Nat.reduceLT, Nat.reduceBEq, Int.reduceToNat, Int.reduceLT, Int.reduceLE, Int.reduceEq, enIm, k1, b1, w1, f1, hA, s1, d1, w2, f2, ckI, ckIm, hB, h0, ne_eq, not_true_eq_false, not_false_eq_true]
    · rw [hst] at s1
      have hB : ckB m = 3 := by rw [ckB, hst, if_pos rfl, fnz_cons, if_neg (by decide)]
      simp only [if_true] at s1
      simp only [go_sem, Nat.reduceAdd, Nat.reduceSub, Nat.reduceMul, Nat.reduceDiv, Nat.reduceMod, Nat.reduceLeDiff, Nat.reduceLT, Nat.reduceBEq, Int.reduceToNat, Int.reduceLT, Int.reduceLE, Int.reduceEq, enIm, k1, b1, w1, f1, hA, s1, ckI, ckIm, hB, ne_eq, not_true_eq_false, show ¬ (3 : Int) = 0 by decide]
  · simp only [go_sem, Nat.reduceAdd, Nat.reduceSub, Nat.reduceMul, Nat.reduceDiv, Nat.reduceMod, Nat.reduceLeDiff, Nat.reduceLT, Nat.reduceBEq, Int.reduceToNat, Int.reduceLT, Int.reduceLE, Int.reduceEq, enIm, k1, b1, w1, f1, hA, ckI, ckIm, ne_eq, not_false_eq_true]
end Go.Vm.P4Z

/- Chapter 04, plain law: right images: where their elements lie. -/
set_option maxRecDepth 100000
set_option maxHeartbeats 1000000
namespace Go.Vm.P4Z
open Go Go.Vm Go.Vm.P4
def hornE : Bx → List Int → Int
  | r :: b, x :: p => hornE b p * r.ex + (x - r.lo)
  | _, _ => 0
def prodE : Bx → Int
  | [] => 1
  | r :: b => prodE b * r.ex
theorem horn_bd : ∀ (l : Bx) (p : List Int), (∀ r ∈ l, 0 < r.ex) → InB l p → 0 ≤ hornE l p ∧ hornE l p < prodE l
  | [], [], _, _ => by simp [hornE, prodE]
  | [], _ :: _, _, h => h.elim
  | _ :: _, [], _, h => h.elim
  | r :: l, x :: p, hx, ⟨h1, h2, h3⟩ => by
    have hr := hx r (by simp)
    obtain ⟨i1, i2⟩ := horn_bd l p (fun y hy => hx y (List.mem_cons_of_mem _ hy)) h3
    have m0 : 0 ≤ hornE l p * r.ex := Int.mul_nonneg i1 (by omega)
    have m1 : (hornE l p + 1) * r.ex ≤ prodE l * r.ex := Int.mul_le_mul_of_nonneg_right (by omega) (by omega)
    rw [Int.add_mul, Int.one_mul] at m1
    rw [hornE, prodE]
    constructor <;> omega
theorem digits_horn : ∀ (l : Bx) (p : List Int), (∀ r ∈ l, 0 < r.ex) → InB l p → digits l (hornE l p) = p
  | [], [], _, _ => rfl
  | [], _ :: _, _, h => h.elim
  | _ :: _, [], _, h => h.elim
  | r :: l, x :: p, hx, ⟨h1, h2, h3⟩ => by
    have hr := hx r (by simp)
    have ih := digits_horn l p (fun y hy => hx y (List.mem_cons_of_mem _ hy)) h3
    have e := (Int.ediv_emod_unique (a := hornE l p * r.ex + (x - r.lo)) (b := r.ex) (r := x - r.lo) (q := hornE l p) hr).2 ⟨by rw [Int.mul_comm]; omega, by omega, by omega⟩
    rw [hornE, digits, e.1, e.2, ih]
    congr 1; omega
theorem many_prod {l : Bx} (h : Okr l) (h3 : l.length ≤ 3) : many l = prodE l := by
  rcases l with _ | ⟨r, _ | ⟨s, _ | ⟨t, _ | ⟨u, l⟩⟩⟩⟩
  · rfl
  · have hr := ckRange0 (h r (by simp))
    obtain ⟨e1, e2, e3⟩ := ml_ok (a := 1) (m := 1) (by omega) (by omega) hr.2.2.1 hr.2.2.2.1 (by omega)
    rw [many_cons1, e1]; rfl
  · have hr := ckRange0 (h r (by simp))
    have hs := ckRange0 (h s (by simp))
    obtain ⟨e1, e2, e3⟩ := ml_ok (a := 1) (m := 1) (by omega) (by omega) hr.2.2.1 hr.2.2.2.1 (by omega)
    obtain ⟨f1, f2, f3⟩ := ml_ok (m := 64) e2 (by omega) hs.2.2.1 hs.2.2.2.1 (by omega)
    rw [many_cons2, e1, f1]
    simp only [prodE, Int.one_mul]
    rw [Int.mul_comm]
  · have hr := ckRange0 (h r (by simp))
    have hs := ckRange0 (h s (by simp))
    have ht := ckRange0 (h t (by simp))
    obtain ⟨e1, e2, e3⟩ := ml_ok (a := 1) (m := 1) (by omega) (by omega) hr.2.2.1 hr.2.2.2.1 (by omega)
    obtain ⟨f1, f2, f3⟩ := ml_ok (m := 64) e2 (by omega) hs.2.2.1 hs.2.2.2.1 (by omega)
    obtain ⟨g1, g2, g3⟩ := ml_ok (m := 4096) f2 (by omega) ht.2.2.1 ht.2.2.2.1 (by omega)
    rw [many_cons3, e1, f1, g1]
    simp only [prodE, Int.one_mul]
    rw [Int.mul_comm r.ex s.ex, Int.mul_comm (s.ex * r.ex) t.ex, ← Int.mul_assoc]
  · simp at h3
theorem ckPts0 (m : Im) : ∀ (r : List Nat) (T : List Int), ckPts m T r = 0 → (∀ i ∈ r, elAt m i < m.dt.length ∧ elAt m i ∉ T) ∧ (r.map (elAt m)).Nodup
  | [], _, _ => ⟨fun i hi => (nomatch hi), List.nodup_nil⟩
  | i :: r, T, h => by
    unfold ckPts at h
    by_cases h1 : (m.dt.length : Int) ≤ elAt m i
    · rw [if_pos h1] at h; omega
    · rw [if_neg h1] at h
      by_cases h2 : elAt m i ∈ T
      · rw [if_pos h2] at h; omega
      · rw [if_neg h2] at h
        obtain ⟨i1, i2⟩ := ckPts0 m r _ h
        refine ⟨fun j hj => ?_, ?_⟩
        · rcases List.mem_cons.1 hj with rfl | hj
          · exact ⟨by omega, h2⟩
          · obtain ⟨j1, j2⟩ := i1 j hj
            exact ⟨j1, fun hc => j2 (List.mem_append_left _ hc)⟩
        · rw [List.map_cons, List.nodup_cons]
          refine ⟨fun hc => ?_, i2⟩
          obtain ⟨j, hj, hje⟩ := List.mem_map.1 hc
          obtain ⟨_, j2⟩ := i1 j hj
          exact j2 (by rw [hje]; simp)
structure Good (m : Im) (N : Nat) : Prop where
  kd : ckKind m.kd = 0
  bx : ckBox m.bx = 0
  stl : m.st.length = m.bx.length
  st : Oks m.st
  many : many m.bx = N
  small : N ≤ 4096
  dtl : m.dt.length ≤ 4096
  dt : fnz (m.dt.map (ckB1 m.kd)) = 0
  pts : ckPts m [] (List.range N) = 0
theorem good_of {m : Im} (h : ckI m = 0) : ∃ N, Good m N := by
  unfold ckI ckIm at h
  by_cases hA : ckA m = 0
  · rw [if_pos hA] at h
    by_cases hB : ckB m = 0
    · rw [if_pos hB] at h
      by_cases hD : fnz (m.dt.map (ckB1 m.kd)) = 0
      · rw [if_pos hD] at h
        obtain ⟨a1, a2, a3⟩ := ckA0 hA
        obtain ⟨N, hN, hN2⟩ := many_nat a2
        have hs := fz0 _ hB (if m.st.any (fun x => !(decide (x ≥ 0) && decide (x ≤ 4096))) then 3 else 0) (by simp)
        have hl := fz0 _ hB (if 4096 < m.dt.length then 5 else 0) (by simp)
        refine ⟨N, a1, a2, a3, any_oks ?_, hN, hN2, ?_, hD, ?_⟩
        · cases hc : m.st.any (fun x => !(decide (x ≥ 0) && decide (x ≤ 4096)))
          · rfl
          · rw [hc] at hs; exact absurd hs (by decide)
        · split at hl
          · omega
          · omega
        · have : (Go.Vm.P4.many m.bx).toNat = N := by omega
          rwa [this] at h
      · rw [if_neg hD] at h; exact absurd h hD
    · rw [if_neg hB] at h; exact absurd h hB
  · rw [if_neg hA] at h; exact absurd h hA
namespace Good
variable {m : Im} {N : Nat} (G : Good m N)
include G
theorem okr : Okr m.bx := (ckBox0 G.bx).2.2.1
theorem len3 : m.bx.length ≤ 3 := (ckBox0 G.bx).2.1
theorem len1 : 1 ≤ m.bx.length := (ckBox0 G.bx).1
theorem pos (h : N ≠ 0) : ∀ r ∈ m.bx, 0 < r.ex := ex_pos G.okr (by have := G.many; omega)
theorem elIdx {p : List Int} (hp : InB m.bx p) : (∀ r ∈ m.bx, 0 < r.ex) ∧ ∃ i : Nat, i < N ∧ digits m.bx i = p ∧ elAt m i = elt m.bx p m.st 0 := by
  have hx : ∀ r ∈ m.bx, 0 < r.ex := by
    have key : ∀ (l : Bx) (p : List Int), InB l p → ∀ r ∈ l, 0 < r.ex := by
      intro l
      induction l with
      | nil => intro p _ r hr; cases hr
      | cons y l ih =>
        intro p hp r hr
        rcases p with _ | ⟨x, p⟩
        · exact hp.elim
        obtain ⟨h1, h2, h3⟩ := hp
        rcases List.mem_cons.1 hr with rfl | hr
        · omega
        · exact ih p h3 r hr
    exact key _ _ hp
  obtain ⟨h1, h2⟩ := horn_bd m.bx p hx hp
  have h3 := digits_horn m.bx p hx hp
  have h4 := many_prod G.okr G.len3
  have h5 := G.many
  refine ⟨hx, (hornE m.bx p).toNat, by omega, ?_, ?_⟩
  · rw [show (((hornE m.bx p).toNat : Nat) : Int) = hornE m.bx p by omega]; exact h3
  · have e2 := plc_dig m.bx G.okr G.len3 hx (hornE m.bx p).toNat
    rw [show (((hornE m.bx p).toNat : Nat) : Int) = hornE m.bx p by omega, h3] at e2
    have hl : p.length = m.bx.length := by rw [← h3, digits_len]
    rw [elAt, e2, elt_app _ _ _ _ _ (by omega) (by have := G.stl; omega)]
theorem nn {p : List Int} (hp : InB m.bx p) : 0 ≤ elt m.bx p m.st 0 :=
  elt_nn _ _ _ _ G.okr hp G.st (by have := G.stl; omega) (by omega) (by have := G.len3; omega)
end Good
def atI (m : Im) (p : List Int) : Int := (m.dt[(elt m.bx p m.st 0).toNat]?).getD 0
theorem Good.at {m : Im} {N : Nat} (G : Good m N) {p : List Int} (hp : InB m.bx p) : ∃ k : Nat, elt m.bx p m.st 0 = k ∧ k < m.dt.length ∧ m.dt[k]? = some (atI m p) := by
  obtain ⟨hx, i, h1, h2, h3⟩ := G.elIdx hp
  have h4 := ((ckPts0 m _ _ G.pts).1 i (by simpa using h1)).1
  have h5 := G.nn hp
  refine ⟨(elt m.bx p m.st 0).toNat, by omega, by omega, ?_⟩
  rw [atI, List.getElem?_eq_getElem (show (elt m.bx p m.st 0).toNat < m.dt.length by omega)]; rfl
theorem Good.inj {m : Im} {N : Nat} (G : Good m N) {p q : List Int} (hp : InB m.bx p) (hq : InB m.bx q) (h : elt m.bx p m.st 0 = elt m.bx q m.st 0) : p = q := by
  obtain ⟨_, i, i1, i2, i3⟩ := G.elIdx hp
  obtain ⟨_, j, j1, j2, j3⟩ := G.elIdx hq
  have nd := (ckPts0 m _ _ G.pts).2
  have e : i = j := by
    have h1 : ((List.range N).map (elAt m))[i]? = some (elAt m i) := by simp [i1]
    have h2 : ((List.range N).map (elAt m))[j]? = some (elAt m j) := by simp [j1]
    have h3 : ((List.range N).map (elAt m))[i]? = ((List.range N).map (elAt m))[j]? := by rw [h1, h2, i3, j3, h]
    exact (List.getElem?_inj (by simpa using i1) nd).1 h3
  rw [← i2, ← j2, e]
theorem in_pad {l : Bx} {p : List Int} (h : InB l p) : p.length = l.length := by
  induction l generalizing p with
  | nil => cases p with | nil => rfl | cons x p => exact h.elim
  | cons r l ih => cases p with | nil => exact h.elim | cons x p => simp [ih h.2.2]
theorem Good.atP {m : Im} {N : Nat} (G : Good m N) {p q : List Int} (hp : InB m.bx p) : ∃ k : Nat, elt m.bx (p ++ q) m.st 0 = k ∧ k < m.dt.length ∧ m.dt[k]? = some (atI m p) := by
  obtain ⟨k, h1, h2⟩ := G.at hp
  exact ⟨k, by rw [elt_app _ _ _ _ _ (by rw [in_pad hp]; exact Nat.le_refl _) (by have := G.stl; omega)]; exact h1, h2⟩
end Go.Vm.P4Z

/- Chapter 04, functions: Check and Edge, whatever the image. -/
set_option maxRecDepth 100000
set_option maxHeartbeats 4000000
namespace Go.Vm.P4Z
open Go Go.Vm Go.Vm.P4
theorem okCheckI (n : Nat) (m : Im) (hx : m.bx.length < 1000000) (hs : m.st.length < 1000000) (hd : m.dt.length < 1000000) (hv : Ok64 m.dt) : callP (level E (n+9)) 50 [enIm m] = some (.int .i64 (ckI m)) :=
  okCheck n m (ckB1 m.kd) hx hs hd (fun v hv' => okCheckG (n+1) m.kd v (hv v hv').1 (hv v hv').2)
theorem aEq3 (x y z a b c : Int) : aEq (.agg [(0, .int), (1, .int), (2, .int)]) (.imm (.agg [.int .i64 x, .int .i64 y, .int .i64 z])) (.imm (.agg [.int .i64 a, .int .i64 b, .int .i64 c])) = some (decide ([x, y, z] = [a, b, c])) := by
  by_cases h1 : x = a
  · by_cases h2 : y = b
    · by_cases h3 : z = c
      · subst h1; subst h2; subst h3; simp [aEq, eqL, eqE, intEq]
      · have : (z == c) = false := by simpa using h3
        subst h1; subst h2; simp [aEq, eqL, eqE, intEq, this, h3]
    · have : (y == b) = false := by simpa using h2
      subst h1; simp [aEq, eqL, eqE, intEq, this, h2]
  · have : (x == a) = false := by simpa using h1
    simp [aEq, eqL, eqE, intEq, this, h1]
theorem modW_eq {a b : Int} (hb : 0 < b) (hb2 : b ≤ 1000) (ha : -4194304 ≤ a) (ha2 : a ≤ 4194304) : modW a b = a % b := by
  have h1 : a.tmod b = a - b * a.tdiv b := Int.tmod_def a b
  have h2 : -b < a.tmod b := by have := Int.lt_tmod_of_pos a hb; omega
  have h3 : a.tmod b < b := Int.tmod_lt_of_pos a hb
  have e1 : ad (a.tmod b) b = a.tmod b + b := wrp_ok (by omega)
  rw [modW, e1, Int.tmod_eq_emod_of_nonneg (by omega), Int.add_emod_right]
  rw [h1, Int.sub_mul_emod_self_left]
def inn (rule : Nat) (r : Rg) (c : Int) : Int := match rule with
  | 0 => min (max c r.lo) (r.lo + r.ex - 1)
  | 1 => r.lo + (c - r.lo) % r.ex
  | _ => r.lo + min ((c - r.lo) % (2 * r.ex)) (2 * r.ex - 1 - (c - r.lo) % (2 * r.ex))
theorem ml2 {r : Rg} (h : ckRange r = 0) : ml 2 r.ex = 2 * r.ex := by
  have := ckRange0 h
  exact wrp_ok (by omega)
theorem inW_inn (rule : Nat) (r : Rg) (c : Int) (h : ckRange r = 0) (hx : 0 < r.ex) (h1 : -1048576 ≤ c) (h2 : c ≤ 1048576) : inW rule r c = inn rule r c ∧ r.lo ≤ inn rule r c ∧ inn rule r c < r.lo + r.ex := by
  have hr := ckRange0 h
  have e1 : ad r.lo r.ex = r.lo + r.ex := wrp_ok (by omega)
  have e2 : sb (r.lo + r.ex) 1 = r.lo + r.ex - 1 := wrp_ok (by omega)
  have e3 : sb c r.lo = c - r.lo := wrp_ok (by omega)
  match rule with
  | 0 =>
    simp only [inW, inn, e1, e2, true_and]
    omega
  | 1 =>
    have m0 := Int.emod_nonneg (c - r.lo) (show r.ex ≠ 0 by omega)
    have m1 := Int.emod_lt_of_pos (c - r.lo) hx
    have e4 := modW_eq (a := c - r.lo) hx (by omega) (by omega) (by omega)
    have e5 : ad r.lo ((c - r.lo) % r.ex) = r.lo + (c - r.lo) % r.ex := wrp_ok (by omega)
    simp only [inW, inn, e3, e4, e5, true_and]
    omega
  | k + 2 =>
    have m0 := Int.emod_nonneg (c - r.lo) (show 2 * r.ex ≠ 0 by omega)
    have m1 := Int.emod_lt_of_pos (c - r.lo) (show 0 < 2 * r.ex by omega)
    have e4 := modW_eq (a := c - r.lo) (show 0 < 2 * r.ex by omega) (by omega) (by omega) (by omega)
    have e5 : sb (2 * r.ex) 1 = 2 * r.ex - 1 := wrp_ok (by omega)
    have e6 : sb (2 * r.ex - 1) ((c - r.lo) % (2 * r.ex)) = 2 * r.ex - 1 - (c - r.lo) % (2 * r.ex) := wrp_ok (by omega)
    have e7 : ad r.lo (min ((c - r.lo) % (2 * r.ex)) (2 * r.ex - 1 - (c - r.lo) % (2 * r.ex))) = r.lo + min ((c - r.lo) % (2 * r.ex)) (2 * r.ex - 1 - (c - r.lo) % (2 * r.ex)) := wrp_ok (by omega)
    simp only [inW, inn, e3, ml2 h, e4, e5, e6, e7, true_and]
    omega
def Near (p : List Int) : Prop := ∀ c ∈ p, -1048576 ≤ c ∧ c ≤ 1048576
theorem near_of {p : List Int} (h : p.any farB = false) : Near p := by
  intro c hc
  have := List.any_eq_false.1 h c hc
  simp [farB] at this
  omega
theorem zip_inn (rule : Nat) : ∀ (l : Bx) (p : List Int), Okr l → (∀ r ∈ l, 0 < r.ex) → Near p → p.length = l.length → List.zipWith (inW rule) l p = List.zipWith (inn rule) l p ∧ InB l (List.zipWith (inn rule) l p)
  | [], [], _, _, _, _ => ⟨rfl, True.intro⟩
  | [], _ :: _, _, _, _, h => by simp at h
  | _ :: _, [], _, _, _, h => by simp at h
  | r :: l, c :: p, h, hx, hn, hl => by
    obtain ⟨q1, q2⟩ := hn c (by simp)
    obtain ⟨h1, h2, h3⟩ := inW_inn rule r c (h r (by simp)) (hx r (by simp)) q1 q2
    obtain ⟨i1, i2⟩ := zip_inn rule l p h.tl (fun y hy => hx y (List.mem_cons_of_mem _ hy)) (fun y hy => hn y (List.mem_cons_of_mem _ hy)) (by simpa using hl)
    rw [List.zipWith_cons_cons, List.zipWith_cons_cons, h1, i1]
    exact ⟨rfl, h2, h3, i2⟩
theorem clamp_in : ∀ (l : Bx) (p : List Int), p.length = l.length → (∀ r ∈ l, 0 < r.ex) → (List.zipWith (inn 0) l p = p ↔ InB l p)
  | [], [], _, _ => by simp [InB]
  | [], _ :: _, h, _ => by simp at h
  | _ :: _, [], h, _ => by simp at h
  | r :: l, c :: p, hl, hx => by
    have hr := hx r (by simp)
    have ih := clamp_in l p (by simpa using hl) (fun y hy => hx y (List.mem_cons_of_mem _ hy))
    rw [List.zipWith_cons_cons, List.cons.injEq, InB, ih]
    simp only [inn]
    constructor
    · rintro ⟨h1, h2⟩; exact ⟨by omega, by omega, h2⟩
    · rintro ⟨h1, h2, h3⟩; exact ⟨by omega, h3⟩
theorem pad3 (p : List Int) (h : p.length ≤ 3) : (p ++ [0, 0, 0]).take 3 = p ++ List.replicate (3 - p.length) 0 := by
  rcases p with _ | ⟨x, _ | ⟨y, _ | ⟨z, _ | ⟨w, p⟩⟩⟩⟩
  · rfl
  · rfl
  · rfl
  · rfl
  · simp at h
theorem pad3_inj {p q : List Int} (hp : p.length ≤ 3) (h : p.length = q.length) : (p ++ [0, 0, 0]).take 3 = (q ++ [0, 0, 0]).take 3 ↔ p = q := by
  rw [pad3 p hp, pad3 q (by omega)]
  constructor
  · intro e
    have := List.append_inj_left e h
    exact this
  · rintro rfl; rfl
def valD (k v : Int) : D := .agg [.int .i64 k, .int .u64 v]
def ckE1 (m : Im) (rule : Int) (p : List Int) : Int := fnz [ckI m, if 0 ≤ rule ∧ rule ≤ 3 then 0 else 11, if p.length = m.bx.length then 0 else 13]
def ckE2 (m : Im) (ko vo : Int) : Int := fnz [ckVal ko vo, if ko = m.kd then 0 else 12]
def edgeR (m : Im) (rule : Int) (p : List Int) (ko vo : Int) : (Int × Int) × Int :=
  if ckE1 m rule p = 0 then
    if p.any farB then ((0, 0), 3)
    else if rule = 3 then
      if ckE2 m ko vo = 0 then (if hasB m.bx p then ((m.kd, atI m p), 0) else ((ko, vo), 0)) else ((0, 0), ckE2 m ko vo)
    else if many m.bx = 0 then ((0, 0), 10) else ((m.kd, atI m (List.zipWith (inn rule.toNat) m.bx p)), 0)
  else ((0, 0), ckE1 m rule p)
theorem okEdge (n : Nat) (m : Im) (c : Bool) (rule : Int) (p : List Int) (ko vo : Int) (hx : m.bx.length < 1000000) (hs : m.st.length < 1000000) (hd : m.dt.length < 1000000) (hv : Ok64 m.dt) (hp : p.length < 1000000) (h0 : 0 ≤ vo) (h1 : vo < 18446744073709551616) :
    callP (level E (n+10)) 19 [enIm m, .int .i64 rule, slD c 1 (p.map ic), valD ko vo] = some (.tup [valD (edgeR m rule p ko vo).1.1 (edgeR m rule p ko vo).1.2, .int .i64 (edgeR m rule p ko vo).2]) := by
  have c1 := okCheckI n m hx hs hd hv
  have f1 : callP (level E (n+9)) 65 [.sl 1 [[.int .i64 (ckI m)], [.int .i64 (if 0 ≤ rule ∧ rule ≤ 3 then 0 else 11)], [.int .i64 (if p.length = m.bx.length then 0 else 13)]]] = some (.int .i64 (ckE1 m rule p)) :=
    okFirstL (n+8) _ [ckI m, if 0 ≤ rule ∧ rule ≤ 3 then 0 else 11, if p.length = m.bx.length then 0 else 13] rfl (by simp)
  obtain ⟨bw, i1, w1⟩ : ∃ b : Bool, callP (level E (n+9)) 67 [.int .i64 rule, .int .i64 0, .int .i64 3] = some (.bool b) ∧ callP (level E (n+9)) 64 [.bool (!b), .int .i64 11] = some (.int .i64 (if 0 ≤ rule ∧ rule ≤ 3 then 0 else 11)) := by
    refine ⟨_, okWithin (n+8) rule 0 3, ?_⟩
    rw [okWhen (n+8)]
    by_cases h : 0 ≤ rule <;> by_cases h' : rule ≤ 3 <;> simp [h, h']
  have w2 : callP (level E (n+9)) 64 [.bool (decide (¬ (p.length : Int) = m.bx.length)), .int .i64 13] = some (.int .i64 (if p.length = m.bx.length then 0 else 13)) := by
    rw [okWhen (n+8)]
    by_cases h : p.length = m.bx.length
    · simp [h]
    · have : ¬ (p.length : Int) = m.bx.length := by omega
      simp [h, this]
  rw [p19]
  simp only [enIm] at c1
  obtain ⟨x11, hx11⟩ : ∃ x : Int, x = (if 0 ≤ rule ∧ rule ≤ 3 then 0 else 11) := ⟨_, rfl⟩
  obtain ⟨x13, hx13⟩ : ∃ x : Int, x = (if p.length = m.bx.length then 0 else 13) := ⟨_, rfl⟩
  rw [← hx11] at f1 w1
  rw [← hx13] at f1 w2
  by_cases e1 : ckE1 m rule p = 0
  · have g1 := fz0 _ e1 (ckI m) (by simp)
    have g2 := fz0 _ e1 (if 0 ≤ rule ∧ rule ≤ 3 then 0 else 11) (by simp)
    have g3 := fz0 _ e1 (if p.length = m.bx.length then 0 else 13) (by simp)
    have g2 : 0 ≤ rule ∧ rule ≤ 3 := by split at g2; assumption; omega
    have g3 : p.length = m.bx.length := by split at g3; assumption; omega
    obtain ⟨N, G⟩ := good_of g1
    have cf := okContains (n+7) c p 79 farB (by omega) (fun x _ => okEdge_1 (n+5) x)
    cases hf : p.any farB
    · rw [hf] at cf
      have m1 := okMany (n+8) m.bb m.bx (by omega)
      have nr := near_of hf
      by_cases r3 : rule = 3
      · subst r3
        have v1 := okCheckValue (n+6) ko vo h0 h1
        have f2 : callP (level E (n+9)) 65 [.sl 1 [[.int .i64 (ckVal ko vo)], [.int .i64 (if ko = m.kd then 0 else 12)]]] = some (.int .i64 (ckE2 m ko vo)) := okFirstL (n+8) _ [ckVal ko vo, if ko = m.kd then 0 else 12] rfl (by simp)
        have w3 : callP (level E (n+9)) 64 [.bool (decide (¬ ko = m.kd)), .int .i64 12] = some (.int .i64 (if ko = m.kd then 0 else 12)) := by
          rw [okWhen (n+8)]
          by_cases h : ko = m.kd <;> simp [h]
        by_cases e2 : ckE2 m ko vo = 0
        · by_cases hm : many m.bx = 0
          · have hh : hasB m.bx p = false := by
              cases hc : hasB m.bx p
              · rfl
              · have := (hasB_in _ _ G.okr g3).1 hc
                obtain ⟨_, i, hi, _⟩ := G.elIdx this
                have := G.many; omega
            simp only [go_sem, Nat.reduceAdd, Nat.reduceSub, Nat.reduceMul, Nat.reduceDiv, Nat.reduceMod, Nat.reduceLeDiff, Nat.reduceLT, Nat.reduceBEq, Int.reduceToNat, Int.reduceLT, Int.reduceLE, Int.reduceEq, valD, enIm, c1, i1, w1, w2, f1, e1, cf, v1, w3, f2, e2, m1, hm, edgeR, hf, hh, ne_eq, not_true_eq_false, Bool.false_eq_true]
          · have hx' := ex_pos G.okr hm
            have mv := okMoved (n+8) m.bb c 0 (by decide) m.bx p G.len3 g3 (inW 0) (fun r hr' x => okBound (n+6) 0 r x (by have := hx' r hr'; omega) (by rw [ml2 (G.okr r hr')]; have := hx' r hr'; omega))
            have of1 := okOf (n+8) c p (by have := G.len3; omega)
            obtain ⟨z1, z2⟩ := zip_inn 0 m.bx p G.okr hx' nr g3
            rw [z1] at mv
            obtain ⟨k, k1, k2, k3⟩ := G.atP (q := List.replicate (3 - (List.zipWith (inn 0) m.bx p).length) 0) z2
            have hzl : (List.zipWith (inn 0) m.bx p).length ≤ 3 := by simp; have := G.len3; omega
            rw [← pad3 _ hzl] at k1
            have va := okViewAt (n+7) m _ k _ (by simp) G.len3 (by have := G.stl; omega) k1 k3
            have heq : ((List.zipWith (inn 0) m.bx p ++ [0, 0, 0]).take 3 = (p ++ [0, 0, 0]).take 3) ↔ InB m.bx p := by
              rw [pad3_inj hzl (by simp; omega)]
              exact clamp_in m.bx p g3 hx'
            obtain ⟨x, y, z, hq⟩ : ∃ x y z, (List.zipWith (inn 0) m.bx p ++ [0, 0, 0]).take 3 = [x, y, z] := by
              match hh : (List.zipWith (inn 0) m.bx p ++ [0, 0, 0]).take 3, (show ((List.zipWith (inn 0) m.bx p ++ [0, 0, 0]).take 3).length = 3 from by simp) with
              | [x, y, z], _ => exact ⟨x, y, z, rfl⟩
            obtain ⟨x', y', z', hq'⟩ : ∃ x y z, (p ++ [0, 0, 0]).take 3 = [x, y, z] := by
              match hh : (p ++ [0, 0, 0]).take 3, (show ((p ++ [0, 0, 0]).take 3).length = 3 from by simp) with
              | [x, y, z], _ => exact ⟨x, y, z, rfl⟩
            rw [hq] at mv va heq
            rw [hq'] at of1 heq
            have aq := aEq3 x y z x' y' z'
            rw [cast_0] at mv
            simp only [enP, List.map_cons, List.map_nil] at mv va of1
            simp only [enIm] at va
            by_cases hin : InB m.bx p
            · have hh : hasB m.bx p = true := (hasB_in _ _ G.okr g3).2 hin
              have hd' : decide ([x, y, z] = [x', y', z']) = true := decide_eq_true (heq.2 hin)
              have hz : List.zipWith (inn 0) m.bx p = p := (clamp_in m.bx p g3 hx').2 hin
              rw [hd'] at aq
              rw [hz] at va
              simp only [go_sem, Nat.reduceAdd, Nat.reduceSub, Nat.reduceMul, Nat.reduceDiv, Nat.reduceMod, Nat.reduceLeDiff, Nat.reduceLT, Nat.reduceBEq, Int.reduceToNat, Int.reduceLT, Int.reduceLE, Int.reduceEq, valD, enIm, c1, i1, w1, w2, f1, e1, cf, v1, w3, f2, e2, m1, hm, mv, of1, aq, va, edgeR, hf, hh, ne_eq, not_true_eq_false, Bool.false_eq_true]
            · have hh : hasB m.bx p = false := by
                cases hc : hasB m.bx p
                · rfl
                · exact absurd ((hasB_in _ _ G.okr g3).1 hc) hin
              have hd' : decide ([x, y, z] = [x', y', z']) = false := decide_eq_false (fun h => hin (heq.1 h))
              rw [hd'] at aq
              simp only [go_sem, Nat.reduceAdd, Nat.reduceSub, Nat.reduceMul, Nat.reduceDiv, Nat.reduceMod, Nat.reduceLeDiff, Nat.reduceLT, Nat.reduceBEq, Int.reduceToNat, Int.reduceLT, Int.reduceLE, Int.reduceEq, valD, enIm, c1, i1, w1, w2, f1, e1, cf, v1, w3, f2, e2, m1, hm, mv, of1, aq, edgeR, hf, hh, ne_eq, not_true_eq_false, Bool.false_eq_true]
        · simp only [go_sem, Nat.reduceAdd, Nat.reduceSub, Nat.reduceMul, Nat.reduceDiv, Nat.reduceMod, Nat.reduceLeDiff, Nat.reduceLT, Nat.reduceBEq, Int.reduceToNat, Int.reduceLT, Int.reduceLE, Int.reduceEq, valD, enIm, c1, i1, w1, w2, f1, e1, cf, v1, w3, f2, e2, edgeR, hf, ne_eq, not_true_eq_false, not_false_eq_true, Bool.false_eq_true]
      · by_cases hm : many m.bx = 0
        · simp only [go_sem, Nat.reduceAdd, Nat.reduceSub, Nat.reduceMul, Nat.reduceDiv, Nat.reduceMod, Nat.reduceLeDiff, Nat.reduceLT, Nat.reduceBEq, Int.reduceToNat, Int.reduceLT, Int.reduceLE, Int.reduceEq, valD, enIm, c1, i1, w1, w2, f1, e1, cf, m1, hm, r3, edgeR, hf, ne_eq, not_true_eq_false, Bool.false_eq_true]
        · have hx' := ex_pos G.okr hm
          obtain ⟨k0, hk0⟩ : ∃ k : Nat, rule = k := ⟨rule.toNat, by omega⟩
          subst hk0
          have mv := okMoved (n+8) m.bb c k0 (by omega) m.bx p G.len3 g3 (inW k0) (fun r hr' x => okBound (n+6) k0 r x (by have := hx' r hr'; omega) (by rw [ml2 (G.okr r hr')]; have := hx' r hr'; omega))
          obtain ⟨z1, z2⟩ := zip_inn k0 m.bx p G.okr hx' nr g3
          rw [z1] at mv
          obtain ⟨k, k1, k2, k3⟩ := G.atP (q := List.replicate (3 - (List.zipWith (inn k0) m.bx p).length) 0) z2
          have hzl : (List.zipWith (inn k0) m.bx p).length ≤ 3 := by simp; have := G.len3; omega
          rw [← pad3 _ hzl] at k1
          have va := okViewAt (n+7) m _ k _ (by simp) G.len3 (by have := G.stl; omega) k1 k3
          obtain ⟨x, y, z, hq⟩ : ∃ x y z, (List.zipWith (inn k0) m.bx p ++ [0, 0, 0]).take 3 = [x, y, z] := by
            match hh : (List.zipWith (inn k0) m.bx p ++ [0, 0, 0]).take 3, (show ((List.zipWith (inn k0) m.bx p ++ [0, 0, 0]).take 3).length = 3 from by simp) with
            | [x, y, z], _ => exact ⟨x, y, z, rfl⟩
          rw [hq] at mv va
          simp only [enP, List.map_cons, List.map_nil] at mv va
          simp only [enIm] at va
          simp only [go_sem, Nat.reduceAdd, Nat.reduceSub, Nat.reduceMul, Nat.reduceDiv, Nat.reduceMod, Nat.reduceLeDiff, Nat.reduceLT, Nat.reduceBEq, Int.reduceToNat, Int.reduceLT, Int.reduceLE, Int.reduceEq, valD, enIm, c1, i1, w1, w2, f1, e1, cf, m1, hm, r3, mv, va, edgeR, hf, Int.toNat_natCast, ne_eq, not_true_eq_false, Bool.false_eq_true]
    · rw [hf] at cf
      simp only [go_sem, Nat.reduceAdd, Nat.reduceSub, Nat.reduceMul, Nat.reduceDiv, Nat.reduceMod, Nat.reduceLeDiff, Nat.reduceLT, Nat.reduceBEq, Int.reduceToNat, Int.reduceLT, Int.reduceLE, Int.reduceEq, valD, enIm, c1, i1, w1, w2, f1, e1, cf, edgeR, hf, ne_eq, not_true_eq_false]
  · simp only [go_sem, Nat.reduceAdd, Nat.reduceSub, Nat.reduceMul, Nat.reduceDiv, Nat.reduceMod, Nat.reduceLeDiff, Nat.reduceLT, Nat.reduceBEq, Int.reduceToNat, Int.reduceLT, Int.reduceLE, Int.reduceEq, valD, enIm, c1, i1, w1, w2, f1, e1, edgeR, ne_eq, not_false_eq_true]
end Go.Vm.P4Z

/- Chapter 04: what the laws' arguments hold: images, values, points with values. -/
set_option maxRecDepth 100000
namespace Go.Vm.P4Z
open Go Go.Vm Go.Vm.P4 Go.Proofs Go.ChangeShapes
section
variable {H : Type} {enc : TypeId × Value → H} {W : World} {sp : Nat → Bool} {held : Bool}
theorem cellsU : Tryz.prog.cellsOf 35 = 1 := by kernel_rfl
theorem cellsBits : Tryz.prog.cellsOf 25 = 1 := by kernel_rfl
theorem cellsImage : Tryz.prog.cellsOf 27 = 4 := by kernel_rfl
theorem cellsValue : Tryz.prog.cellsOf 49 = 2 := by kernel_rfl
theorem cellsSpot : Tryz.prog.cellsOf 51 = 3 := by kernel_rfl
theorem u64_range {k : Int} (h : (Lit.int .u64 k).wf = true) : 0 ≤ k ∧ k < 18446744073709551616 := by
  simp [Lit.wf] at h
  have e1 : IntKind.u64.min = 0 := by decide
  have e2 : IntKind.u64.max = 18446744073709551615 := by decide
  rw [e1, e2] at h
  omega
theorem rd_u64 {n : Nat} {cs : List Value} {x : DataW H × List MemPlace} (h : DataW.trod enc Tryz.prog W 0 sp held n 35 cs = some x) : ∃ a : { v : Int // 0 ≤ v ∧ v < 18446744073709551616 }, (ub a.1).length = 1 ∧ Holds W (ub a.1) cs := by
  obtain ⟨k, rfl, _, hw⟩ := DataW.trod_int Tryz.underlying35 h
  exact ⟨⟨k, u64_range hw⟩, rfl, holds_one rfl (.int _ _)⟩
theorem rd_bits {n : Nat} {cs : List Value} {x : DataW H × List MemPlace} (h : DataW.trod enc Tryz.prog W 0 sp held n 25 cs = some x) : ∃ (b : Bool) (l : List Int), Ok64 l ∧ Holds W [slD b 1 (l.map ub)] cs := by
  obtain ⟨b, l, hl⟩ := rd_slice (en := fun a : { v : Int // 0 ≤ v ∧ v < 18446744073709551616 } => ub a.1) Tryz.underlying25 cellsU (by decide) (fun _ _ _ h => rd_u64 h) h
  refine ⟨b, l.map (·.1), fun v hv => ?_, ?_⟩
  · obtain ⟨a, _, rfl⟩ := List.mem_map.1 hv
    exact a.2
  · rw [List.map_map]; exact hl
theorem rd_image {n : Nat} {cs : List Value} {x : DataW H × List MemPlace} (h : DataW.trod enc Tryz.prog W 0 sp held n 27 cs = some x) : ∃ m : Im, Ok64 m.dt ∧ Holds W [.int .i64 m.kd, enB m.bb m.bx, slD m.tb 1 (m.st.map ic), slD m.db 1 (m.dt.map ub)] cs := by
  obtain ⟨xs, n', _, _, hl, hn, hf⟩ := DataW.trod_struct Tryz.underlying27 h
  rw [cellsImage] at hl
  obtain ⟨a, b, c, d, rfl⟩ := four_of hl
  have f0 := (hf 0 _ rfl).trans (List.getElem?_eq_getElem (show 0 < xs.length by rw [hn]; decide))
  have f1 := (hf 1 _ rfl).trans (List.getElem?_eq_getElem (show 1 < xs.length by rw [hn]; decide))
  have f2 := (hf 2 _ rfl).trans (List.getElem?_eq_getElem (show 2 < xs.length by rw [hn]; decide))
  have f3 := (hf 3 _ rfl).trans (List.getElem?_eq_getElem (show 3 < xs.length by rw [hn]; decide))
  simp only [List.getElem_toArray, List.getElem_cons_zero, List.getElem_cons_succ, cells3, cellsBox, cellsInts, cellsBits, List.drop_zero, List.drop_succ_cons, List.take_succ_cons, List.take_zero, List.take_nil] at f0 f1 f2 f3
  obtain ⟨p, e1, _, _⟩ := DataW.trod_int Tryz.underlying3 f0
  simp only [List.cons.injEq, and_true] at e1
  subst e1
  obtain ⟨b1, l1, h1⟩ := rd_box f1
  obtain ⟨b2, l2, h2⟩ := rd_ints f2
  obtain ⟨b3, l3, h64, h3⟩ := rd_bits f3
  exact ⟨⟨p, b1, l1, b2, l2, b3, l3⟩, h64, holds_app (a := [.int .i64 p]) (x := [.int .i64 p]) (holds_one rfl (.int _ _)) (holds_app (x := [b]) h1 (holds_app (x := [c]) h2 h3))⟩
theorem rd_value {n : Nat} {cs : List Value} {x : DataW H × List MemPlace} (h : DataW.trod enc Tryz.prog W 0 sp held n 49 cs = some x) : ∃ k v : Int, (0 ≤ v ∧ v < 18446744073709551616) ∧ Holds W [.int .i64 k, .int .u64 v] cs := by
  obtain ⟨xs, n', _, _, hl, hn, hf⟩ := DataW.trod_struct Tryz.underlying49 h
  rw [cellsValue] at hl
  obtain ⟨a, b, rfl⟩ := two_of hl
  have f0 := (hf 0 _ rfl).trans (List.getElem?_eq_getElem (show 0 < xs.length by rw [hn]; decide))
  have f1 := (hf 1 _ rfl).trans (List.getElem?_eq_getElem (show 1 < xs.length by rw [hn]; decide))
  simp only [List.getElem_toArray, List.getElem_cons_zero, List.getElem_cons_succ, cells3, cellsU, List.drop_zero, List.drop_succ_cons, List.take_succ_cons, List.take_zero, List.take_nil] at f0 f1
  obtain ⟨p, e1, _, _⟩ := DataW.trod_int Tryz.underlying3 f0
  obtain ⟨q, e2, _, hw⟩ := DataW.trod_int Tryz.underlying35 f1
  simp only [List.cons.injEq, and_true] at e1 e2
  subst e1 e2
  exact ⟨p, q, u64_range hw, holds_app (a := [.int .i64 p]) (x := [.int .i64 p]) (holds_one rfl (.int _ _)) (holds_one rfl (.int _ _))⟩
theorem rd_spot {n : Nat} {cs : List Value} {x : DataW H × List MemPlace} (h : DataW.trod enc Tryz.prog W 0 sp held n 51 cs = some x) : ∃ (c : Bool) (l : List Int) (k v : Int), (0 ≤ v ∧ v < 18446744073709551616) ∧ Holds W [slD c 1 (l.map ic), .int .i64 k, .int .u64 v] cs := by
  obtain ⟨xs, n', _, _, hl, hn, hf⟩ := DataW.trod_struct Tryz.underlying51 h
  rw [cellsSpot] at hl
  obtain ⟨a, b, c, rfl⟩ := three_of hl
  have f0 := (hf 0 _ rfl).trans (List.getElem?_eq_getElem (show 0 < xs.length by rw [hn]; decide))
  have f1 := (hf 1 _ rfl).trans (List.getElem?_eq_getElem (show 1 < xs.length by rw [hn]; decide))
  simp only [List.getElem_toArray, List.getElem_cons_zero, List.getElem_cons_succ, cellsInts, cellsValue, List.drop_zero, List.drop_succ_cons, List.take_succ_cons, List.take_zero, List.take_nil] at f0 f1
  obtain ⟨b1, l1, h1⟩ := rd_ints f0
  obtain ⟨k, v, hr, h2⟩ := rd_value f1
  exact ⟨b1, l1, k, v, hr, holds_app (x := [a]) h1 h2⟩
theorem arg_image {r : Reach} {b0 : Nat} {v : Value} {d : DataW H} {p : List MemPlace} (hv : Value.okWide Tryz.prog W r b0 27 v) (h : DataW.Trod enc Tryz.prog W 0 sp held 27 v d p) : ∃ m : Im, Ok64 m.dt ∧ RepD (Old W) W (enIm m) v := by
  obtain ⟨n, h⟩ := h
  obtain ⟨vs, rfl, _⟩ := WideShapes.okWide_struct Tryz.underlying27 hv
  obtain ⟨m, h1, hc⟩ := rd_image h
  exact ⟨m, h1, Go.Vm.P4.ds_agg hc⟩
theorem arg_spot {r : Reach} {b0 : Nat} {v : Value} {d : DataW H} {p : List MemPlace} (hv : Value.okWide Tryz.prog W r b0 51 v) (h : DataW.Trod enc Tryz.prog W 0 sp held 51 v d p) : ∃ (c : Bool) (l : List Int) (ko vo : Int), (0 ≤ vo ∧ vo < 18446744073709551616) ∧ RepD (Old W) W (.agg [slD c 1 (l.map ic), .int .i64 ko, .int .u64 vo]) v := by
  obtain ⟨n, h⟩ := h
  obtain ⟨vs, rfl, _⟩ := WideShapes.okWide_struct Tryz.underlying51 hv
  obtain ⟨c, l, k, v, h1, hc⟩ := rd_spot h
  exact ⟨c, l, k, v, h1, Go.Vm.P4.ds_agg hc⟩
end
end Go.Vm.P4Z

/- Chapter 04, functions: the reference's Edge. -/
set_option maxRecDepth 100000
set_option maxHeartbeats 4000000
namespace Go.Vm.P4Z
open Go Go.Vm Go.Vm.P4
theorem okRModulo (n : Nat) (a b : Int) (hb : b ≠ 0) : callP (level E (n+1)) 120 [.int .i64 a, .int .i64 b] = some (.int .i64 (modW a b)) := by
  rw [p120]
  simp only [go_sem, Nat.reduceAdd, Nat.reduceSub, Nat.reduceMul, Nat.reduceDiv, Nat.reduceMod, Nat.reduceLeDiff, Nat.reduceLT, Nat.reduceBEq, Int.reduceToNat, Int.reduceLT, Int.reduceLE, Int.reduceEq, hb, modW, ad, ne_eq, not_false_eq_true]
theorem okRInner (n : Nat) (rule : Nat) (hr : rule < 3) (r : Rg) (c : Int) (h : ckRange r = 0) (hx : 0 < r.ex) (h1 : -1048576 ≤ c) (h2 : c ≤ 1048576) : callP (level E (n+2)) 85 [.int .i64 rule, enRD r, .int .i64 c] = some (.int .i64 (inn rule r c)) := by
  have hr' := ckRange0 h
  have e1 : wrp .i64 (r.lo + r.ex) = r.lo + r.ex := wrp_ok (by omega)
  have e2 : wrp .i64 (r.lo + r.ex - 1) = r.lo + r.ex - 1 := wrp_ok (by omega)
  have e3 : wrp .i64 (c - r.lo) = c - r.lo := wrp_ok (by omega)
  have e4 : wrp .i64 (2 * r.ex) = 2 * r.ex := wrp_ok (by omega)
  rw [p85]
  match rule, hr with
  | 0, _ =>
    simp only [go_sem, Nat.reduceAdd, Nat.reduceSub, Nat.reduceMul, Nat.reduceDiv, Nat.reduceMod, Nat.reduceLeDiff, Nat.reduceLT, Nat.reduceBEq, Int.reduceToNat, Int.reduceLT, Int.reduceLE, Int.reduceEq, e1, e2, inn]
    congr 3; omega
  | 1, _ =>
    have m1 := okRModulo n (c - r.lo) r.ex (by omega)
    rw [modW_eq hx (by omega) (by omega) (by omega)] at m1
    have m0 := Int.emod_nonneg (c - r.lo) (show r.ex ≠ 0 by omega)
    have m2 := Int.emod_lt_of_pos (c - r.lo) hx
    have e5 : wrp .i64 (r.lo + (c - r.lo) % r.ex) = r.lo + (c - r.lo) % r.ex := wrp_ok (by omega)
    simp only [go_sem, Nat.reduceAdd, Nat.reduceSub, Nat.reduceMul, Nat.reduceDiv, Nat.reduceMod, Nat.reduceLeDiff, Nat.reduceLT, Nat.reduceBEq, Int.reduceToNat, Int.reduceLT, Int.reduceLE, Int.reduceEq, e3, m1, e5, inn]
  | 2, _ =>
    have m1 := okRModulo n (c - r.lo) (2 * r.ex) (by omega)
    rw [modW_eq (by omega) (by omega) (by omega) (by omega)] at m1
    have m0 := Int.emod_nonneg (c - r.lo) (show 2 * r.ex ≠ 0 by omega)
    have m2 := Int.emod_lt_of_pos (c - r.lo) (show 0 < 2 * r.ex by omega)
    simp only [inn]
    generalize (c - r.lo) % (2 * r.ex) = q at m0 m1 m2 ⊢
    have e5 : wrp .i64 (r.lo + q) = r.lo + q := wrp_ok (by omega)
    have e6 : wrp .i64 (r.lo + 2 * r.ex) = r.lo + 2 * r.ex := wrp_ok (by omega)
    have e7 : wrp .i64 (r.lo + 2 * r.ex - 1) = r.lo + 2 * r.ex - 1 := wrp_ok (by omega)
    have e8 : wrp .i64 (r.lo + 2 * r.ex - 1 - q) = r.lo + 2 * r.ex - 1 - q := wrp_ok (by omega)
    by_cases hq : q < r.ex
    · simp only [go_sem, Nat.reduceAdd, Nat.reduceSub, Nat.reduceMul, Nat.reduceDiv, Nat.reduceMod, Nat.reduceLeDiff, Nat.reduceLT, Nat.reduceBEq, Int.reduceToNat, Int.reduceLT, Int.reduceLE, Int.reduceEq, e3, e4, m1, e5, hq]
      congr 2; omega
    · simp only [go_sem, Nat.reduceAdd, Nat.reduceSub, Nat.reduceMul, Nat.reduceDiv, Nat.reduceMod, Nat.reduceLeDiff, Nat.reduceLT, Nat.reduceBEq, Int.reduceToNat, Int.reduceLT, Int.reduceLE, Int.reduceEq, e3, e4, m1, e6, e7, e8, hq]
      congr 2; omega
def ckEd (m : Im) (rule : Int) (p : List Int) (ko vo : Int) : Int :=
  if fnz [if 0 ≤ rule ∧ rule ≤ 3 then 0 else 11, if p.length = m.bx.length then 0 else 13] = 0 then
    if p.any farB then 3 else if rule = 3 then ckE2 m ko vo else if many m.bx = 0 then 10 else 0
  else fnz [if 0 ≤ rule ∧ rule ≤ 3 then 0 else 11, if p.length = m.bx.length then 0 else 13]
theorem okRFar (n : Nat) (m : Im) (rule ko vo : Int) (c : Bool) (p : List Int) (hl : p.length < 1000000) :
    outC ⟨0, false⟩ [0, 1, 0, 0, 1, 1, 1, 0, 0, 0, 0, 0, 0] (rnd (aCode (level E n) ⟨0, false⟩ b21_0) (head ⟨0, false⟩ [0, 1, 1, 0, 0, 1, 1, 0, 1, 0, 0, 0, 0])
      ⟨[.junk, .imm (.int .i64 rule), .imm (slD c 1 (p.map ic)), .junk, .junk, .ptr 0 0, .ptr 1 0, .junk, .imm (.int .i64 0), .junk, .junk, .junk, .junk], [.box [.imm (.int .i64 m.kd), .imm (enB m.bb m.bx), .imm (slD m.tb 1 (m.st.map ic)), .imm (slD m.db 1 (m.dt.map ub))], .box [.imm (.int .i64 ko), .imm (.int .u64 vo)]], none⟩) =
    if p.any farB then some (.ret, ⟨[.junk, .imm (.int .i64 rule), .junk, .junk, .imm (.int .i64 3), .ptr 0 0, .ptr 1 0, .junk, .junk, .junk, .junk, .junk, .junk], [.box [.imm (.int .i64 m.kd), .imm (enB m.bb m.bx), .imm (slD m.tb 1 (m.st.map ic)), .imm (slD m.db 1 (m.dt.map ub))], .box [.imm (.int .i64 ko), .imm (.int .u64 vo)]], none⟩)
      else some (.exit 0, ⟨[.junk, .imm (.int .i64 rule), .junk, .junk, .junk, .ptr 0 0, .ptr 1 0, .junk, .junk, .junk, .junk, .junk, .junk], [.box [.imm (.int .i64 m.kd), .imm (enB m.bb m.bx), .imm (slD m.tb 1 (m.st.map ic)), .imm (slD m.db 1 (m.dt.map ub))], .box [.imm (.int .i64 ko), .imm (.int .u64 vo)]], none⟩) := by
  have h := loop_run (f := aCode (level E (n)) ⟨0, false⟩ b21_0) (h := head ⟨0, false⟩ [0, 1, 1, 0, 0, 1, 1, 0, 1, 0, 0, 0, 0]) (Φ := outC ⟨0, false⟩ [0, 1, 0, 0, 1, 1, 1, 0, 0, 0, 0, 0, 0]) p (fun (_ : Unit) i => ⟨[.junk, .imm (.int .i64 rule), .imm (slD c 1 (p.map ic)), .junk, .junk, .ptr 0 0, .ptr 1 0, .junk, .imm (.int .i64 i), .junk, .junk, .junk, .junk], [.box [.imm (.int .i64 m.kd), .imm (enB m.bb m.bx), .imm (slD m.tb 1 (m.st.map ic)), .imm (slD m.db 1 (m.dt.map ub))], .box [.imm (.int .i64 ko), .imm (.int .u64 vo)]], none⟩) (fun _ _ => True)
    (fun _ x => if farB x = true then .inr (some (.ret, ⟨[.junk, .imm (.int .i64 rule), .junk, .junk, .imm (.int .i64 3), .ptr 0 0, .ptr 1 0, .junk, .junk, .junk, .junk, .junk, .junk], [.box [.imm (.int .i64 m.kd), .imm (enB m.bb m.bx), .imm (slD m.tb 1 (m.st.map ic)), .imm (slD m.db 1 (m.dt.map ub))], .box [.imm (.int .i64 ko), .imm (.int .u64 vo)]], none⟩)) else .inl ()) (fun _ => some (.exit 0, ⟨[.junk, .imm (.int .i64 rule), .junk, .junk, .junk, .ptr 0 0, .ptr 1 0, .junk, .junk, .junk, .junk, .junk, .junk], [.box [.imm (.int .i64 m.kd), .imm (enB m.bb m.bx), .imm (slD m.tb 1 (m.st.map ic)), .imm (slD m.db 1 (m.dt.map ub))], .box [.imm (.int .i64 ko), .imm (.int .u64 vo)]], none⟩)) () trivial
    (fun _ i x _ h2 h1 => ⟨by
      rw [rnd_eq]
      by_cases k1 : x < -1048576
      · have k2 : farB x = true := by unfold farB; rw [decide_eq_false (by omega : ¬ x ≥ -1048576)]; rfl
        simp only [go_sem, Nat.reduceAdd, Nat.reduceSub, Nat.reduceMul, Nat.reduceDiv, Nat.reduceMod, Nat.reduceLeDiff, Nat.reduceLT, Nat.reduceBEq, Int.reduceToNat, Int.reduceLT, Int.reduceLE, Int.reduceEq, lt_t h2, h1, k1, k2]
      · by_cases k3 : x > 1048576
        · have k2 : farB x = true := by unfold farB; rw [decide_eq_false (by omega : ¬ x ≤ 1048576), Bool.and_false]; rfl
          simp only [go_sem, Nat.reduceAdd, Nat.reduceSub, Nat.reduceMul, Nat.reduceDiv, Nat.reduceMod, Nat.reduceLeDiff, Nat.reduceLT, Nat.reduceBEq, Int.reduceToNat, Int.reduceLT, Int.reduceLE, Int.reduceEq, lt_t h2, h1, k1, k2, k3]
        · have k2 : farB x = false := by unfold farB; rw [decide_eq_true (by omega : x ≥ -1048576), decide_eq_true (by omega : x ≤ 1048576)]; rfl
          simp only [go_sem, Nat.reduceAdd, Nat.reduceSub, Nat.reduceMul, Nat.reduceDiv, Nat.reduceMod, Nat.reduceLeDiff, Nat.reduceLT, Nat.reduceBEq, Int.reduceToNat, Int.reduceLT, Int.reduceLE, Int.reduceEq, lt_t h2, h1, k1, k2, k3, Bool.false_eq_true]
          rw [wrpS (by omega)], fun _ _ => trivial⟩)
    (fun _ _ => by
      rw [rnd_eq]
      simp only [go_sem, Nat.reduceAdd, Nat.reduceSub, Nat.reduceMul, Nat.reduceDiv, Nat.reduceMod, Nat.reduceLeDiff, Nat.reduceLT, Nat.reduceBEq, Int.reduceToNat, Int.reduceLT, Int.reduceLE, Int.reduceEq, lt_f (Nat.le_refl _)])
  rw [cast_0] at h
  rw [h]
  have e : ∀ l : List Int, runL (γ := Option (AExit × S)) (fun (_ : Unit) x => if farB x = true then .inr (some (.ret, ⟨[.junk, .imm (.int .i64 rule), .junk, .junk, .imm (.int .i64 3), .ptr 0 0, .ptr 1 0, .junk, .junk, .junk, .junk, .junk, .junk], [.box [.imm (.int .i64 m.kd), .imm (enB m.bb m.bx), .imm (slD m.tb 1 (m.st.map ic)), .imm (slD m.db 1 (m.dt.map ub))], .box [.imm (.int .i64 ko), .imm (.int .u64 vo)]], none⟩)) else .inl ()) (fun _ => some (.exit 0, ⟨[.junk, .imm (.int .i64 rule), .junk, .junk, .junk, .ptr 0 0, .ptr 1 0, .junk, .junk, .junk, .junk, .junk, .junk], [.box [.imm (.int .i64 m.kd), .imm (enB m.bb m.bx), .imm (slD m.tb 1 (m.st.map ic)), .imm (slD m.db 1 (m.dt.map ub))], .box [.imm (.int .i64 ko), .imm (.int .u64 vo)]], none⟩)) () l =
      if l.any farB then some (.ret, ⟨[.junk, .imm (.int .i64 rule), .junk, .junk, .imm (.int .i64 3), .ptr 0 0, .ptr 1 0, .junk, .junk, .junk, .junk, .junk, .junk], [.box [.imm (.int .i64 m.kd), .imm (enB m.bb m.bx), .imm (slD m.tb 1 (m.st.map ic)), .imm (slD m.db 1 (m.dt.map ub))], .box [.imm (.int .i64 ko), .imm (.int .u64 vo)]], none⟩) else some (.exit 0, ⟨[.junk, .imm (.int .i64 rule), .junk, .junk, .junk, .ptr 0 0, .ptr 1 0, .junk, .junk, .junk, .junk, .junk, .junk], [.box [.imm (.int .i64 m.kd), .imm (enB m.bb m.bx), .imm (slD m.tb 1 (m.st.map ic)), .imm (slD m.db 1 (m.dt.map ub))], .box [.imm (.int .i64 ko), .imm (.int .u64 vo)]], none⟩) := by
    intro l
    induction l with
    | nil => simp [runL_nil]
    | cons x r ih =>
      rw [runL_cons, List.any_cons]
      cases hx : farB x
      · simp only [Bool.false_eq_true, if_false, Bool.false_or]; exact ih
      · simp only [if_true, Bool.true_or]
  exact e p
theorem okRCheckEdge (n : Nat) (m : Im) (c : Bool) (rule : Int) (p : List Int) (ko vo : Int) (hx : m.bx.length < 1000000) (hp : p.length < 1000000) (h0 : 0 ≤ vo) (h1 : vo < 18446744073709551616) :
    callP (level E (n+4)) 21 [enIm m, .int .i64 rule, slD c 1 (p.map ic), valD ko vo] = some (.int .i64 (ckEd m rule p ko vo)) := by
  have cp := okRCheckPoint (n+1) m.bb c m.bx p
  have wk : callP (level E (n+3)) 32 [.bool (decide (¬ ko = m.kd)), .int .i64 12] = some (.int .i64 (if ko = m.kd then 0 else 12)) := by
    rw [okQWhen (n+2)]
    by_cases h : ko = m.kd <;> simp [h]
  have f2 : callP (level E (n+3)) 29 [.sl 1 [[.int .i64 (ckVal ko vo)], [.int .i64 (if ko = m.kd then 0 else 12)]]] = some (.int .i64 (ckE2 m ko vo)) := okQFirstL (n+2) _ [ckVal ko vo, if ko = m.kd then 0 else 12] rfl (by simp)
  have cv := okQCheckValue n ko vo h0 h1
  have pr := okRProduct (n+2) m.bb m.bx (by omega)
  have far := okRFar (n+3) m rule ko vo c p hp
  have f1 := okQFirstL (n+2) [[.int .i64 (if 0 ≤ rule ∧ rule ≤ 3 then 0 else 11)], [.int .i64 (if p.length = m.bx.length then 0 else 13)]] [if 0 ≤ rule ∧ rule ≤ 3 then 0 else 11, if p.length = m.bx.length then 0 else 13] rfl (by simp)
  unfold ckEd
  obtain ⟨x13, hx13⟩ : ∃ x : Int, x = (if p.length = m.bx.length then 0 else 13) := ⟨_, rfl⟩
  rw [← hx13] at f1 cp ⊢
  rw [p21]
  by_cases k1 : rule < 0
  · have kk : ¬ (0 ≤ rule ∧ rule ≤ 3) := by omega
    rw [if_neg kk] at f1 ⊢
    have e11 : fnz [11, x13] = 11 := by rw [fnz_cons, if_neg (by decide)]
    rw [e11] at f1 ⊢
    simp only [go_sem, Nat.reduceAdd, Nat.reduceSub, Nat.reduceMul, Nat.reduceDiv, Nat.reduceMod, Nat.reduceLeDiff, Nat.reduceLT, Nat.reduceBEq, Int.reduceToNat, Int.reduceLT, Int.reduceLE, Int.reduceEq, valD, enIm, k1, cp, f1, okQWhen, ne_eq, show ¬ (11 : Int) = 0 by decide, not_false_eq_true]
  · by_cases k2 : rule > 3
    · have kk : ¬ (0 ≤ rule ∧ rule ≤ 3) := by omega
      rw [if_neg kk] at f1 ⊢
      have e11 : fnz [11, x13] = 11 := by rw [fnz_cons, if_neg (by decide)]
      rw [e11] at f1 ⊢
      simp only [go_sem, Nat.reduceAdd, Nat.reduceSub, Nat.reduceMul, Nat.reduceDiv, Nat.reduceMod, Nat.reduceLeDiff, Nat.reduceLT, Nat.reduceBEq, Int.reduceToNat, Int.reduceLT, Int.reduceLE, Int.reduceEq, valD, enIm, k1, k2, cp, f1, okQWhen, ne_eq, show ¬ (11 : Int) = 0 by decide, not_false_eq_true]
    · have kk : 0 ≤ rule ∧ rule ≤ 3 := by omega
      rw [if_pos kk] at f1 ⊢
      by_cases z : fnz [0, x13] = 0
      · rw [z] at f1 ⊢
        cases hf : p.any farB
        · rw [hf] at far
          simp only [Bool.false_eq_true, if_false] at far
          by_cases r3 : rule = 3
          · subst r3
            obtain ⟨x12, hx12⟩ : ∃ x : Int, x = (if ko = m.kd then 0 else 12) := ⟨_, rfl⟩
            rw [← hx12] at f2 wk
            have k1' : ¬ (3 : Int) < 0 := by decide
            have k2' : ¬ (3 : Int) > 3 := by decide
            simp only [go_sem, Nat.reduceAdd, Nat.reduceSub, Nat.reduceMul, Nat.reduceDiv, Nat.reduceMod, Nat.reduceLeDiff, Nat.reduceLT, Nat.reduceBEq, Int.reduceToNat, Int.reduceLT, Int.reduceLE, Int.reduceEq, valD, enIm, k1', k2', cp, f1, okQWhen, ne_eq, not_true_eq_false, Bool.false_eq_true]
            rw [far]
            simp only [go_sem, Nat.reduceAdd, Nat.reduceSub, Nat.reduceMul, Nat.reduceDiv, Nat.reduceMod, Nat.reduceLeDiff, Nat.reduceLT, Nat.reduceBEq, Int.reduceToNat, Int.reduceLT, Int.reduceLE, Int.reduceEq, cv, wk, f2, Bool.false_eq_true]
          · by_cases hm : many m.bx = 0
            · simp only [go_sem, Nat.reduceAdd, Nat.reduceSub, Nat.reduceMul, Nat.reduceDiv, Nat.reduceMod, Nat.reduceLeDiff, Nat.reduceLT, Nat.reduceBEq, Int.reduceToNat, Int.reduceLT, Int.reduceLE, Int.reduceEq, valD, enIm, k1, k2, cp, f1, okQWhen, ne_eq, not_true_eq_false, Bool.false_eq_true]
              rw [far]
              simp only [go_sem, Nat.reduceAdd, Nat.reduceSub, Nat.reduceMul, Nat.reduceDiv, Nat.reduceMod, Nat.reduceLeDiff, Nat.reduceLT, Nat.reduceBEq, Int.reduceToNat, Int.reduceLT, Int.reduceLE, Int.reduceEq, r3, pr, hm, okQWhen, Bool.false_eq_true]
            · simp only [go_sem, Nat.reduceAdd, Nat.reduceSub, Nat.reduceMul, Nat.reduceDiv, Nat.reduceMod, Nat.reduceLeDiff, Nat.reduceLT, Nat.reduceBEq, Int.reduceToNat, Int.reduceLT, Int.reduceLE, Int.reduceEq, valD, enIm, k1, k2, cp, f1, okQWhen, ne_eq, not_true_eq_false, Bool.false_eq_true]
              rw [far]
              simp only [go_sem, Nat.reduceAdd, Nat.reduceSub, Nat.reduceMul, Nat.reduceDiv, Nat.reduceMod, Nat.reduceLeDiff, Nat.reduceLT, Nat.reduceBEq, Int.reduceToNat, Int.reduceLT, Int.reduceLE, Int.reduceEq, r3, pr, hm, okQWhen, Bool.false_eq_true]
        · rw [hf] at far
          simp only [if_true] at far
          simp only [go_sem, Nat.reduceAdd, Nat.reduceSub, Nat.reduceMul, Nat.reduceDiv, Nat.reduceMod, Nat.reduceLeDiff, Nat.reduceLT, Nat.reduceBEq, Int.reduceToNat, Int.reduceLT, Int.reduceLE, Int.reduceEq, valD, enIm, k1, k2, cp, f1, okQWhen, ne_eq, not_true_eq_false, Bool.false_eq_true]
          rw [far]
          simp only [go_sem, Nat.reduceAdd, Nat.reduceSub, Nat.reduceMul, Nat.reduceDiv, Nat.reduceMod, Nat.reduceLeDiff, Nat.reduceLT, Nat.reduceBEq, Int.reduceToNat, Int.reduceLT, Int.reduceLE, Int.reduceEq]
      · simp only [go_sem, Nat.reduceAdd, Nat.reduceSub, Nat.reduceMul, Nat.reduceDiv, Nat.reduceMod, Nat.reduceLeDiff, Nat.reduceLT, Nat.reduceBEq, Int.reduceToNat, Int.reduceLT, Int.reduceLE, Int.reduceEq, valD, enIm, k1, k2, cp, f1, z, okQWhen, ne_eq, not_false_eq_true, Bool.false_eq_true]
theorem okREdge3 (n : Nat) (m : Im) (N : Nat) (G : Good m N) (c : Bool) (p : List Int) (hp : p.length = m.bx.length) (ko vo : Int) :
    callP (level E (n+4)) 22 [enIm m, .int .i64 3, slD c 1 (p.map ic), valD ko vo] = some (if hasB m.bx p then valD m.kd (atI m p) else valD ko vo) := by
  have h1 := okRHas (n+2) m.bb c m.bx p (by have := G.len3; omega) (by omega)
  rw [p22]
  cases hh : hasB m.bx p
  · rw [hh] at h1
    simp only [go_sem, Nat.reduceAdd, Nat.reduceSub, Nat.reduceMul, Nat.reduceDiv, Nat.reduceMod, Nat.reduceLeDiff, Nat.reduceLT, Nat.reduceBEq, Int.reduceToNat, Int.reduceLT, Int.reduceLE, Int.reduceEq, valD, enIm, h1, Bool.false_eq_true]
  · rw [hh] at h1
    obtain ⟨k, k1, k2, k3⟩ := G.at ((hasB_in _ _ G.okr hp).1 hh)
    have b1 := okRBits (n+1) m c p G.len3 (by have := G.stl; omega) (by omega) k _ k1 k3
    simp only [enIm] at b1
    simp only [go_sem, Nat.reduceAdd, Nat.reduceSub, Nat.reduceMul, Nat.reduceDiv, Nat.reduceMod, Nat.reduceLeDiff, Nat.reduceLT, Nat.reduceBEq, Int.reduceToNat, Int.reduceLT, Int.reduceLE, Int.reduceEq, valD, enIm, h1, b1, Bool.false_eq_true]
theorem okREdge (n : Nat) (m : Im) (N : Nat) (G : Good m N) (hN : N ≠ 0) (c : Bool) (rule : Nat) (hr : rule < 3) (p : List Int) (hp : p.length = m.bx.length) (nr : Near p) (ko vo : Int) :
    callP (level E (n+4)) 22 [enIm m, .int .i64 rule, slD c 1 (p.map ic), valD ko vo] = some (valD m.kd (atI m (List.zipWith (inn rule) m.bx p))) := by
  have hx := G.pos hN
  obtain ⟨z1, z2⟩ := zip_inn rule m.bx p G.okr hx nr hp
  obtain ⟨k, k1, k2, k3⟩ := G.at z2
  have b1 := okRBits (n+1) m true (List.zipWith (inn rule) m.bx p) G.len3 (by have := G.stl; omega) (by simp; omega) k _ k1 k3
  have H : ∀ r ∈ m.bx, ∀ x ∈ p, callP (level E (n+3)) 85 [.int .i64 rule, enRD r, .int .i64 x] = some (.int .i64 (inn rule r x)) := fun r hr' x hx' =>
    okRInner (n+1) rule hr r x (G.okr r hr') (hx r hr') (nr x hx').1 (nr x hx').2
  have hr3 : ¬ (rule : Int) = 3 := by omega
  have h3 := G.len3
  have h1 := G.len1
  simp only [enIm] at b1
  rw [p22]
  unfold enIm
  generalize m.bx = l at *
  rcases l with _ | ⟨r, _ | ⟨s, _ | ⟨t, _ | ⟨u, l⟩⟩⟩⟩
  · simp at h1
  · rcases p with _ | ⟨x, _ | ⟨w, p⟩⟩
    · simp at hp
    · have H0 := H r (by simp) x (by simp)
      simp only [enRD, enR] at H0
      simp only [go_sem, Nat.reduceAdd, Nat.reduceSub, Nat.reduceMul, Nat.reduceDiv, Nat.reduceMod, Nat.reduceLeDiff, Nat.reduceLT, Nat.reduceBEq, Int.reduceToNat, Int.reduceLT, Int.reduceLE, Int.reduceEq, enB, List.zipWith_cons_cons, List.zipWith_nil_left, slD_c] at b1 ⊢
      simp only [go_sem, Nat.reduceAdd, Nat.reduceSub, Nat.reduceMul, Nat.reduceDiv, Nat.reduceMod, Nat.reduceLeDiff, Nat.reduceLT, Nat.reduceBEq, Int.reduceToNat, Int.reduceLT, Int.reduceLE, Int.reduceEq, rnd_eq, valD, enB, hr3, slD_c, ia_sl, H0, b1]
    · simp at hp
  · rcases p with _ | ⟨x, _ | ⟨y, _ | ⟨w, p⟩⟩⟩
    · simp at hp
    · simp at hp
    · have H0 := H r (by simp) x (by simp)
      have H1 := H s (by simp) y (by simp)
      simp only [enRD, enR] at H0 H1
      simp only [go_sem, Nat.reduceAdd, Nat.reduceSub, Nat.reduceMul, Nat.reduceDiv, Nat.reduceMod, Nat.reduceLeDiff, Nat.reduceLT, Nat.reduceBEq, Int.reduceToNat, Int.reduceLT, Int.reduceLE, Int.reduceEq, enB, List.zipWith_cons_cons, List.zipWith_nil_left, slD_c] at b1 ⊢
      simp only [go_sem, Nat.reduceAdd, Nat.reduceSub, Nat.reduceMul, Nat.reduceDiv, Nat.reduceMod, Nat.reduceLeDiff, Nat.reduceLT, Nat.reduceBEq, Int.reduceToNat, Int.reduceLT, Int.reduceLE, Int.reduceEq, rnd_eq, valD, enB, hr3, slD_c, ia_sl, H0, H1, b1]
    · simp at hp
  · rcases p with _ | ⟨x, _ | ⟨y, _ | ⟨z, _ | ⟨w, p⟩⟩⟩⟩
    · simp at hp
    · simp at hp
    · simp at hp
    · have H0 := H r (by simp) x (by simp)
      have H1 := H s (by simp) y (by simp)
      have H2 := H t (by simp) z (by simp)
      simp only [enRD, enR] at H0 H1 H2
      simp only [go_sem, Nat.reduceAdd, Nat.reduceSub, Nat.reduceMul, Nat.reduceDiv, Nat.reduceMod, Nat.reduceLeDiff, Nat.reduceLT, Nat.reduceBEq, Int.reduceToNat, Int.reduceLT, Int.reduceLE, Int.reduceEq, enB, List.zipWith_cons_cons, List.zipWith_nil_left, slD_c] at b1 ⊢
      simp only [go_sem, Nat.reduceAdd, Nat.reduceSub, Nat.reduceMul, Nat.reduceDiv, Nat.reduceMod, Nat.reduceLeDiff, Nat.reduceLT, Nat.reduceBEq, Int.reduceToNat, Int.reduceLT, Int.reduceLE, Int.reduceEq, rnd_eq, valD, enB, hr3, slD_c, ia_sl, H0, H1, H2, b1]
    · simp at hp
  · simp at h3
end Go.Vm.P4Z

/- Chapter 04: the law ImageEdges, given the examples. -/
set_option maxRecDepth 100000
set_option maxHeartbeats 4000000
namespace Go.Vm.P4Z
open Go Go.Vm Go.Vm.P4
theorem aEqV (k v : Int) : aEq (.agg [(0, .int), (1, .int)]) (.imm (.agg [.int .i64 k, .int .u64 v])) (.imm (.agg [.int .i64 k, .int .u64 v])) = some true := by
  simp [aEq, eqL, eqE, intEq]
theorem shortI_len {m : Im} (h : shortI m = true) : m.bx.length ≤ 4 ∧ m.st.length ≤ 5 ∧ m.dt.length ≤ 200 := by
  simp [shortI] at h
  omega
theorem ckPts_own (m : Im) : ∀ (l : List Nat) (T : List Int), ckPts m.own T l = ckPts m T l
  | [], _ => rfl
  | i :: l, T => by
    unfold ckPts
    rw [ckPts_own m l]
    rfl
theorem ckI_own (m : Im) : ckI m.own = ckI m := by
  unfold ckI ckIm
  rw [ckPts_own]
  rfl
theorem edgeR_own (m : Im) (rule : Int) (p : List Int) (ko vo : Int) : edgeR m.own rule p ko vo = edgeR m rule p ko vo := by
  unfold edgeR ckE1
  rw [ckI_own]
  rfl
theorem okImageEdges (n : Nat) (hA : callP (level E (n+60)) 8 [] = some (.bool true)) (m : Im) (rule : Int) (c : Bool) (p : List Int) (ko vo : Int) (hv : Ok64 m.dt) (h0 : 0 ≤ vo) (h1 : vo < 18446744073709551616) :
    callP (level E (n+61)) 4 [enIm m, .int .i64 rule, .agg [slD c 1 (p.map ic), .int .i64 ko, .int .u64 vo]] = some (.bool true) := by
  rw [p4]
  have s1 := okShortImage (n+59) m
  cases hs1 : shortI m with
  | false =>
    rw [hs1] at s1
    simp only [enIm] at s1
    simp only [go_sem, Nat.reduceAdd, Nat.reduceSub, Nat.reduceMul, Nat.reduceDiv, Nat.reduceMod, Nat.reduceLeDiff, Nat.reduceLT, Nat.reduceBEq, Int.reduceToNat, Int.reduceLT, Int.reduceLE, Int.reduceEq, enIm, s1, hA]
  | true =>
    rw [hs1] at s1
    obtain ⟨l1, l2, l3⟩ := shortI_len hs1
    by_cases hp5 : (p.length : Int) > 5
    · simp only [enIm] at s1
      simp only [go_sem, Nat.reduceAdd, Nat.reduceSub, Nat.reduceMul, Nat.reduceDiv, Nat.reduceMod, Nat.reduceLeDiff, Nat.reduceLT, Nat.reduceBEq, Int.reduceToNat, Int.reduceLT, Int.reduceLE, Int.reduceEq, enIm, s1, hp5, hA]
    · have hp : p.length < 1000000 := by omega
      have o1 := okOwnImage (n+58) m (by omega) (by omega) (by omega)
      have q1 := okLPoint (n+59) c p hp
      have ed := okEdge (n+50) m.own false rule p ko vo (by show m.bx.length < _; omega) (by show m.st.length < _; omega) (by show m.dt.length < _; omega) hv hp h0 h1
      rw [edgeR_own] at ed
      have c1 := okRCheck (n+55) m (by omega) (by omega) (by omega) hv
      have ce := okRCheckEdge (n+56) m c rule p ko vo (by omega) hp h0 h1
      by_cases hc : ckI m = 0
      · obtain ⟨N, G⟩ := good_of hc
        have hE : ckE1 m rule p = fnz [if 0 ≤ rule ∧ rule ≤ 3 then 0 else 11, if p.length = m.bx.length then 0 else 13] := by rw [ckE1, fnz_cons, if_pos hc]
        rw [hc] at c1
        unfold edgeR at ed
        unfold ckEd at ce
        rw [hE] at ed
        by_cases z : fnz [if 0 ≤ rule ∧ rule ≤ 3 then 0 else 11, if p.length = m.bx.length then 0 else 13] = 0
        · have g2 := fz0 _ z (if 0 ≤ rule ∧ rule ≤ 3 then 0 else 11) (by simp)
          have g3 := fz0 _ z (if p.length = m.bx.length then 0 else 13) (by simp)
          have g2 : 0 ≤ rule ∧ rule ≤ 3 := by split at g2; assumption; omega
          have g3 : p.length = m.bx.length := by split at g3; assumption; omega
          rw [if_pos z] at ed ce
          cases hf : p.any farB
          · rw [hf] at ed ce
            simp only [Bool.false_eq_true, if_false] at ed ce
            by_cases r3 : rule = 3
            · subst r3
              have re := okREdge3 (n+56) m N G c p g3 ko vo
              rw [if_pos rfl] at ed ce
              by_cases e2 : ckE2 m ko vo = 0
              · rw [if_pos e2] at ed
                rw [e2] at ce
                cases hh : hasB m.bx p
                · rw [hh] at ed re
                  simp only [Bool.false_eq_true, if_false, enIm, valD, Im.own] at ed re o1 s1 c1 ce
                  simp only [go_sem, Nat.reduceAdd, Nat.reduceSub, Nat.reduceMul, Nat.reduceDiv, Nat.reduceMod, Nat.reduceLeDiff, Nat.reduceLT, Nat.reduceBEq, Int.reduceToNat, Int.reduceLT, Int.reduceLE, Int.reduceEq, enIm, s1, hp5, o1, q1, ed, c1, ce, re, aEqV, hA]
                · rw [hh] at ed re
                  simp only [if_true, enIm, valD, Im.own] at ed re o1 s1 c1 ce
                  simp only [go_sem, Nat.reduceAdd, Nat.reduceSub, Nat.reduceMul, Nat.reduceDiv, Nat.reduceMod, Nat.reduceLeDiff, Nat.reduceLT, Nat.reduceBEq, Int.reduceToNat, Int.reduceLT, Int.reduceLE, Int.reduceEq, enIm, s1, hp5, o1, q1, ed, c1, ce, re, aEqV, hA]
              · rw [if_neg e2] at ed
                simp only [enIm, valD, Im.own] at ed o1 s1 c1 ce
                simp only [go_sem, Nat.reduceAdd, Nat.reduceSub, Nat.reduceMul, Nat.reduceDiv, Nat.reduceMod, Nat.reduceLeDiff, Nat.reduceLT, Nat.reduceBEq, Int.reduceToNat, Int.reduceLT, Int.reduceLE, Int.reduceEq, enIm, s1, hp5, o1, q1, ed, c1, ce, e2, aEqV, hA]
            · rw [if_neg r3] at ed ce
              by_cases hm : many m.bx = 0
              · rw [if_pos hm] at ed ce
                simp only [enIm, valD, Im.own] at ed o1 s1 c1 ce
                simp only [go_sem, Nat.reduceAdd, Nat.reduceSub, Nat.reduceMul, Nat.reduceDiv, Nat.reduceMod, Nat.reduceLeDiff, Nat.reduceLT, Nat.reduceBEq, Int.reduceToNat, Int.reduceLT, Int.reduceLE, Int.reduceEq, enIm, s1, hp5, o1, q1, ed, c1, ce, aEqV, hA, show ¬ (10 : Int) = 0 by decide]
              · rw [if_neg hm] at ed ce
                obtain ⟨k, rfl⟩ : ∃ k : Nat, rule = k := ⟨rule.toNat, by omega⟩
                have re := okREdge (n+56) m N G (by have := G.many; omega) c k (by omega) p g3 (near_of hf) ko vo
                rw [Int.toNat_natCast] at ed
                simp only [enIm, valD, Im.own] at ed re o1 s1 c1 ce
                simp only [go_sem, Nat.reduceAdd, Nat.reduceSub, Nat.reduceMul, Nat.reduceDiv, Nat.reduceMod, Nat.reduceLeDiff, Nat.reduceLT, Nat.reduceBEq, Int.reduceToNat, Int.reduceLT, Int.reduceLE, Int.reduceEq, enIm, s1, hp5, o1, q1, ed, c1, ce, re, aEqV, hA]
          · rw [hf] at ed ce
            simp only [if_true, enIm, valD, Im.own] at ed o1 s1 c1 ce
            simp only [go_sem, Nat.reduceAdd, Nat.reduceSub, Nat.reduceMul, Nat.reduceDiv, Nat.reduceMod, Nat.reduceLeDiff, Nat.reduceLT, Nat.reduceBEq, Int.reduceToNat, Int.reduceLT, Int.reduceLE, Int.reduceEq, enIm, s1, hp5, o1, q1, ed, c1, ce, aEqV, hA, show ¬ (3 : Int) = 0 by decide]
        · rw [if_neg z] at ed ce
          simp only [enIm, valD, Im.own] at ed o1 s1 c1 ce
          generalize fnz [if 0 ≤ rule ∧ rule ≤ 3 then 0 else 11, if p.length = m.bx.length then 0 else 13] = zz at z ed ce
          simp only [go_sem, Nat.reduceAdd, Nat.reduceSub, Nat.reduceMul, Nat.reduceDiv, Nat.reduceMod, Nat.reduceLeDiff, Nat.reduceLT, Nat.reduceBEq, Int.reduceToNat, Int.reduceLT, Int.reduceLE, Int.reduceEq, enIm, s1, hp5, o1, q1, ed, c1, ce, z, aEqV, hA]
      · have hE : ckE1 m rule p = ckI m := by rw [ckE1, fnz_cons, if_neg hc]
        unfold edgeR at ed
        rw [hE, if_neg hc] at ed
        simp only [enIm, valD, Im.own] at ed o1 s1 c1
        simp only [go_sem, Nat.reduceAdd, Nat.reduceSub, Nat.reduceMul, Nat.reduceDiv, Nat.reduceMod, Nat.reduceLeDiff, Nat.reduceLT, Nat.reduceBEq, Int.reduceToNat, Int.reduceLT, Int.reduceLE, Int.reduceEq, enIm, s1, hp5, o1, q1, ed, c1, hc, aEqV, hA]
end Go.Vm.P4Z

/- Chapter 04: ImageEdges: the row and the card. -/
set_option maxRecDepth 100000
namespace Go.Proofs.YtgbmhofpndjdoaaGreatDoor
open Go Go.Vm Go.Vm.P4 Go.Vm.P4Z Go.ChangeShapes Go.WideShapes Go.ChangeAt Go.RowKit
theorem readImage : Tryz.prog.readableRec 27 = true := by kernel_rfl
theorem rowImage : 27 < Tryz.prog.types.size := of_decide_eq_true (by kernel_rfl)
theorem readSpot : Tryz.prog.readableRec 51 = true := by kernel_rfl
theorem rowSpot : 51 < Tryz.prog.types.size := of_decide_eq_true (by kernel_rfl)
theorem liftedImageEdges (os : Os) (started : os.Started) (H : Type) (enc : TypeId × Value → H) :
    ReturnsInHanded {} Tryz.checked os 4 .any (fun w args => (Rows.imageEdgesSpec.pre enc Tryz.prog Tryz.f4 [] false w args ∧ laidMetH Tryz.prog laidW w) ∧ sizedMet enc Tryz.prog Tryz.f4 (OpenSpec.ofChange Rows.imageEdgesSpec) false w args)
      (Rows.imageEdgesSpec.post enc Tryz.prog Tryz.f4 false true false false) := by
  refine returnsInHanded_of_change_and (C := Tryz.checked) (X := fun w _ => laidMetH Tryz.prog laidW w) (fun _ _ _ hh h => h.of_heap hh) ownT started (by kernel_rfl) Tryz.func4
    (ChangeSpec.witness_shaped (enc := enc) (C := Tryz.checked) (os := os) (X := fun w _ => laidMetH Tryz.prog laidW w) false (World.doorLaid Tryz.prog 2000 os) #[.agg #[.int .i64 0, .slice none 0 0, .slice none 0 0, .slice none 0 0], .int .i64 0, .agg #[.slice none 0 0, .int .i64 0, .int .u64 0]] 8 rfl (World.shaped_of_RefB (by kernel_rfl) (by kernel_rfl)) (by kernel_rfl) (by kernel_rfl) (by kernel_rfl) (door_met os _)) ?_
  intro W base args ds gs before hval0 hW _ _ hL _
  have hW' := hW
  have hlt := hW.lt
  obtain ⟨p, q, hA0, hV, rfl, hfz, hnd⟩ := hW
  have hA : DataW.TrodAll enc Tryz.prog W 0 (fun _ => true) true Tryz.f4.params.toList args.toList ds p := hA0
  rw [Tryz.params4] at hA
  obtain ⟨v0, v1, v2, d0, d1, d2, p0, p1, p2, rfl, rfl, rfl, h0, h1, h2⟩ := trodAll_three hA
  obtain ⟨rfl, rfl⟩ := trodVars_none hV
  have hval : ∀ (j : Nat) t v, Tryz.f4.params[j]? = some t → (#[v0, v1, v2] : Array Value)[j]? = some v → Value.okWide Tryz.prog W .any base t v := hval0
  rw [Tryz.params4] at hval
  obtain ⟨m0, g0, r0⟩ := arg_image (hval 0 27 v0 rfl rfl) h0
  obtain ⟨t1, rfl, rfl, rfl, w1⟩ := open_int Tryz.underlying3 (hval 1 3 v1 rfl rfl) h1
  obtain ⟨b2, l2, k2, u2, g2, r2⟩ := arg_spot (hval 2 51 v2 rfl rfl) h2
  refine (call_ok anyXP (okImageEdges 0 (okAwake 0) m0 t1 b2 l2 k2 u2 g0 g2.1 g2.2) hL rfl (fun j d hj => ?_)).mono fun e w ⟨r, F, he, htr, hr⟩ => ?_
  · match j, hj with
    | 0, hj => injection hj with hj; subst hj; exact r0
    | 1, hj => injection hj with hj; subst hj; exact .int _ _
    | 2, hj => injection hj with hj; subst hj; exact r2
    | j + 3, hj => simp at hj
  · subst he
    have hb := below_of htr
    obtain rfl := bool_of hr
    refine ⟨_, rfl, [d0, _, d2], [], p0 ++ [] ++ p2 ++ [], [], p0 ++ ([] ++ p2), [], hW', trodAll_mk1 (shut_bool Tryz.underlying4 _), ?_, rfl, hb.frame _, nofun⟩
    exact trodAll_mk3 (Below.trod laidOutT readImage rowImage h0 hb fun x hx => hlt x (by simp [hx])) (shut_int Tryz.underlying3 w1) (Below.trod laidOutT readSpot rowSpot h2 hb fun x hx => hlt x (by simp [hx]))
theorem imageEdges_said : Rows.ImageEdgesSaid :=
  OpenClaim.holds_of_wide 4 Tryz.f4 rfl rfl rfl rfl rfl rfl rfl ⟨rfl, rfl, rfl, rfl, rfl⟩ rfl rfl rfl rfl rfl (by kernel_rfl) Tryz.func4 (by kernel_rfl)
    (of_decide_eq_true (by kernel_rfl)) (by unfold Func.isWrapper; first | (rw [if_pos (by decide +kernel)]; kernel_rfl) | (rw [if_neg (by decide +kernel)]; exact ⟨rfl, rfl⟩))
    (fun os started H enc _ => liftedImageEdges os started H enc)
theorem imageEdges_holds : Rows.ImageEdgesCardSaid :=
  Claim7.holds_tied_plain_at .later [] [.data, .funcs] true (true, "47b693bda246c1c9613a75da3a0118561ee6bcc2ec34998d3f5c399ab10df9b5") false
    imageEdges_said (fun _ h => by cases h) (by kernel_rfl) (fun _ h => by cases h) imageEdges_row_tie rfl ⟨rfl, rfl⟩ (by kernel_rfl) rfl
    (fun f fn hf hfn => by
      obtain rfl : f = 4 := Option.some.inj ((show Tryz.prog.funcNamed "halation/halationlaw04.ImageEdges" = some 4 by kernel_rfl).symm.trans hf) |>.symm
      obtain rfl : fn = Tryz.f4 := (Option.some.inj (Tryz.func4.symm.trans hfn)).symm
      exact ⟨by kernel_rfl, fun j t ht => by
        rw [Tryz.params4] at ht
        have hm : t ∈ [27, 3, 51] := by simpa using Array.mem_of_getElem? ht
        have hall : ([27, 3, 51].all fun u => !Tryz.prog.wantsStandIn u) = true := by kernel_rfl
        exact (show Tryz.prog.wantsStandIn t = false by simpa using List.all_eq_true.1 hall t hm)⟩)
    (by kernel_rfl)
#print axioms imageEdges_holds
end Go.Proofs.YtgbmhofpndjdoaaGreatDoor
