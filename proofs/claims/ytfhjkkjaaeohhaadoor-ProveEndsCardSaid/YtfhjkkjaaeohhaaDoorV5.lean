/- A part of the proof that the law answers true for every input; the conditions are those of the card: the listed variable reads as the program lays it. -/
import Derived.Test.YtfhjkkjaaeohhaaDoorV4
import Derived.KernelRfl
set_option linter.unusedSimpArgs false
set_option linter.unusedVariables false
/- Chapter 12, functions: whether a leaf proves a claim. -/
set_option maxRecDepth 100000
namespace Go.Vm.P12
open Go Go.Vm
def prX : List Int → List Int → List Int → List Int
  | x :: xs, l :: ls, h :: hs => ad x (sb h l) :: prX xs ls hs
  | _, _, _ => []
def prC : Int → List Int → List Int → List Sp → Int
  | c, l :: ls, h :: hs, s :: ss => prC (ad c (sb (ml l s.lo) (ml h s.hi))) ls hs ss
  | c, _, _, _ => c
theorem l83 {n N : Nat} {sn : Bool} {sp : List Sp} {y : Stp} (hN : sp.length = N) (hb : N < 1000000000) : ∀ (r : List Sp) (x lw hg A : List Int) (c : Int) (i : Nat), A.length = i → sp.drop i = r → x.length = r.length → y.lw.drop i = lw → y.hg.drop i = hg → lw.length = r.length → hg.length = r.length →
    outC ⟨0, false⟩ [0, 0, 0, 1, 0, 1, 0, 0, 0, 0, 0, 0] (rnd (aCode (level E n) ⟨0, false⟩ b83_0) (head ⟨0, false⟩ [0, 0, 0, 1, 0, 1, 0, 0, 1, 1, 1, 0])
      ⟨[.junk, .junk, .junk, .ptr 0 0, .junk, .ptr 1 0, .junk, .junk, .imm (slD sn 2 (sp.map enS)), .imm (.int .i64 N), .imm (.int .i64 i), .junk],
        [.box ((enT y).map .imm), .box [.ref 2 1 0 N, .imm (.int .i64 c)], .arr 1 (A.map ic ++ x.map ic)], none⟩) =
      some (.exit 0, ⟨[.junk, .junk, .junk, .ptr 0 0, .junk, .ptr 1 0, .junk, .junk, .junk, .junk, .junk, .junk], [.box ((enT y).map .imm), .box [.ref 2 1 0 N, .imm (.int .i64 (prC c lw hg r))], .arr 1 (A.map ic ++ (prX x lw hg).map ic)], none⟩)
  | [], x, lw, hg, A, c, i, hA, hs, hx, hlw, hhg, el, eh => by
    have : x = [] := List.eq_nil_of_length_eq_zero (by simpa using hx)
    subst this
    have e1 : lw = [] := List.eq_nil_of_length_eq_zero (by simpa using el)
    have hd := drop_n hs
    rw [rnd_eq]
    subst e1
    simp only [go_sem, Nat.reduceAdd, Nat.reduceSub, Nat.reduceMul, Nat.reduceDiv, Nat.reduceMod, Nat.reduceLeDiff, Nat.reduceBEq, Int.reduceToNat, Int.reduceLT, Int.reduceLE, Int.reduceEq, lt_f (show N ≤ i by omega), prC, prX]
  | s :: r, x, lw, hg, A, c, i, hA, hs, hx, hlw, hhg, el, eh => by
    obtain ⟨h1, h2, h3⟩ := drop_c hs
    have h6 := wrpS (i := i) (by omega)
    have hlt : i < N := by omega
    have hlt' : (i : Int) < (N : Int) := by omega
    have hA' : (A.map ic).length = i := by simpa using hA
    match x, lw, hg, hx, el, eh, hlw, hhg with
    | x0 :: x, l0 :: lw, g0 :: hg, hx, el, eh, hlw, hhg =>
      obtain ⟨l1, l2, l3⟩ := drop_c hlw
      obtain ⟨g1, g2, g3⟩ := drop_c hhg
      have IH := l83 (n := n) (sn := sn) (y := y) hN hb r x lw hg (A ++ [ad x0 (sb g0 l0)]) (ad c (sb (ml l0 s.lo) (ml g0 s.hi))) (i + 1) (by simp [hA]) h3 (by simpa using hx) l3 g3 (by simpa using el) (by simpa using eh)
      rw [rnd_eq]
      simp only [go_sem, Nat.reduceAdd, Nat.reduceSub, Nat.reduceMul, Nat.reduceDiv, Nat.reduceMod, Nat.reduceLeDiff, Nat.reduceBEq, Int.reduceToNat, Int.reduceLT, Int.reduceLE, Int.reduceEq, List.append_assoc, ad, sb, ml] at IH
      simp only [go_sem, Nat.reduceAdd, Nat.reduceSub, Nat.reduceMul, Nat.reduceDiv, Nat.reduceMod, Nat.reduceLeDiff, Nat.reduceBEq, Int.reduceToNat, Int.reduceLT, Int.reduceLE, Int.reduceEq, lt_t hlt, h1, l1, g1, hlt', Int.natCast_nonneg, Nat.mul_one, Nat.div_one, Nat.mod_one, getA hA', setA hA', h6, prC, prX, ad, sb, ml]
      exact IH
theorem prX_len : ∀ (x l h : List Int), x.length = l.length → x.length = h.length → (prX x l h).length = x.length
  | [], l, h, _, _ => by simp [prX]
  | x :: xs, l :: ls, h :: hs, e1, e2 => by simp [prX, prX_len xs ls hs (by simpa using e1) (by simpa using e2)]
  | x :: xs, [], h, e1, _ => by simp at e1
  | x :: xs, l :: ls, [], _, e2 => by simp at e2
def prv (y : Stp) (c : Cl) : Bool :=
  !(prX (left y c).co y.lw y.hg).any (fun n => decide (n ≠ 0)) && decide (ng y.goal < prC (left y c).c y.lw y.hg c.sp)
theorem ok83 (n : Nat) (y : Stp) (c : Cl) (hc : c.Even) (hy : c.gv.length ≤ y.gv.length) (hl : y.lw.length = c.sp.length) (hh : y.hg.length = c.sp.length) : callP (level E (n+5)) 83 [.agg (enT y), .agg (enC c)] = some (.bool (prv y c)) := by
  have hb := hc.fit.sp
  have hll : (left y c).co.length = c.sp.length := lft_len c.gv y.gv _ (by simp [pls, hc.go]) hc.gv
  rw [p83]
  by_cases h0 : c.sp.length = 0
  · have h99 := ok99I_0 n y c hc hy h0
    have e1 : y.lw = [] := List.eq_nil_of_length_eq_zero (by omega)
    have e2 : (left y c).co = [] := List.eq_nil_of_length_eq_zero (by omega)
    have e3 : c.sp = [] := List.eq_nil_of_length_eq_zero h0
    have h67 := ok67 (n+2) false [] 100 [] _ (fun x _ => ok100 (n+1) x) (by simp)
    simp only [go_sem, Nat.reduceAdd, Nat.reduceSub, Nat.reduceMul, Nat.reduceDiv, Nat.reduceMod, Nat.reduceLeDiff, Nat.reduceBEq, Int.reduceToNat, Int.reduceLT, Int.reduceLE, Int.reduceEq, slD_f] at h67
    simp only [go_sem, Nat.reduceAdd, Nat.reduceSub, Nat.reduceMul, Nat.reduceDiv, Nat.reduceMod, Nat.reduceLeDiff, Nat.reduceBEq, Int.reduceToNat, Int.reduceLT, Int.reduceLE, Int.reduceEq, e1, e3] at h99
    simp only [go_sem, Nat.reduceAdd, Nat.reduceSub, Nat.reduceMul, Nat.reduceDiv, Nat.reduceMod, Nat.reduceLeDiff, Nat.reduceBEq, Int.reduceToNat, Int.reduceLT, Int.reduceLE, Int.reduceEq, h99, e3, rnd_eq, Int.lt_irrefl, h67, List.any_nil, prv, e1, e2, prX, prC, ng]
  · obtain ⟨N, hN⟩ : ∃ N, N = c.sp.length := ⟨_, rfl⟩
    have h99 := ok99I_1 n y c hc hy h0
    have hz : (prX (left y c).co y.lw y.hg).length = N := by rw [prX_len _ _ _ (by omega) (by omega)]; omega
    have h67 := ok67 (n+2) false (prX (left y c).co y.lw y.hg) 100 [] _ (fun x _ => ok100 (n+1) x) (by omega)
    have hlp := l83 (n := n+4) (N := N) (sn := c.sn) (y := y) hN.symm (by omega) c.sp (left y c).co y.lw y.hg [] (left y c).c 0 rfl rfl hll rfl rfl hl hh
    have e : ((prX (left y c).co y.lw y.hg).map ic).take N = (prX (left y c).co y.lw y.hg).map ic := take_self (by simpa using hz)
    have e2 : N ≤ (prX (left y c).co y.lw y.hg).length := by omega
    rw [← hN] at h99
    simp only [go_sem, Nat.reduceAdd, Nat.reduceSub, Nat.reduceMul, Nat.reduceDiv, Nat.reduceMod, Nat.reduceLeDiff, Nat.reduceBEq, Int.reduceToNat, Int.reduceLT, Int.reduceLE, Int.reduceEq, slD_f] at h67 h99 hlp
    simp only [go_sem, Nat.reduceAdd, Nat.reduceSub, Nat.reduceMul, Nat.reduceDiv, Nat.reduceMod, Nat.reduceLeDiff, Nat.reduceBEq, Int.reduceToNat, Int.reduceLT, Int.reduceLE, Int.reduceEq, ← hN, h99, hlp, h67, e, e2, prv]
    cases h9 : (prX (left y c).co y.lw y.hg).any (fun n => decide (n ≠ 0))
    · simp only [go_sem, Nat.reduceAdd, Nat.reduceSub, Nat.reduceMul, Nat.reduceDiv, Nat.reduceMod, Nat.reduceLeDiff, Nat.reduceBEq, Int.reduceToNat, Int.reduceLT, Int.reduceLE, Int.reduceEq, h9, ng]; rfl
    · simp only [go_sem, Nat.reduceAdd, Nat.reduceSub, Nat.reduceMul, Nat.reduceDiv, Nat.reduceMod, Nat.reduceLeDiff, Nat.reduceBEq, Int.reduceToNat, Int.reduceLT, Int.reduceLE, Int.reduceEq, h9, ng]
end Go.Vm.P12

/- Chapter 12, functions: the leaves that are tried. -/
set_option maxRecDepth 100000
namespace Go.Vm.P12
open Go Go.Vm
def leafOf (c : Cl) (goal : Int) (g : List Int) : Stp :=
  let l := left ⟨true, goal, false, g, true, [], true, [], 0, 0, 0, 0⟩ c
  ⟨true, goal, false, g, true, l.co.map (fun n => max n 0), true, l.co.map (fun n => max (ng n) 0), 0, 0, 0, 0⟩
theorem left_gv (y z : Stp) (c : Cl) (h1 : y.goal = z.goal) (h2 : y.gv = z.gv) : left y c = left z c := by simp [left, h1, h2]
theorem ok122 (n : Nat) (c : Cl) (hc : c.Even) (goal : Int) (ln m : Int) (g : List Int) (hg : (ln = -1 ∧ g = List.replicate c.gv.length 0) ∨ ∃ k : Nat, ln = k ∧ k < c.gv.length ∧ g = (List.replicate c.gv.length 0).set k m) :
    callP (level E (n+5)) 122 [.agg (enC c), .int .i64 goal, .int .i64 ln, .int .i64 m] = some (.agg (enT (leafOf c goal g))) := by
  obtain ⟨N, hN⟩ : ∃ N, N = c.gv.length := ⟨_, rfl⟩
  have hb : N < 1000000000 := by have := hc.fit.gv; omega
  have hgl : g.length = N := by
    rcases hg with ⟨_, h⟩ | ⟨k, _, _, h⟩
    · rw [h]; simp [hN]
    · rw [h]; simp [hN]
  have h99 := ok99P n ⟨true, goal, false, g, true, [], true, [], 0, 0, 0, 0⟩ c hc (by simp only; omega)
  have hll : (left ⟨true, goal, false, g, true, [], true, [], 0, 0, 0, 0⟩ c).co.length = c.sp.length := lft_len c.gv _ _ (by simp [pls, hc.go]) hc.gv
  have hsp := hc.fit.sp
  have h1 := ok123 (n+3) false (left ⟨true, goal, false, g, true, [], true, [], 0, 0, 0, 0⟩ c).co 124 [] _ (fun x _ => ok124 (n+2) x) (by omega)
  have h2 := ok123 (n+3) false (left ⟨true, goal, false, g, true, [], true, [], 0, 0, 0, 0⟩ c).co 125 [] _ (fun x _ => ok125 (n+2) x) (by omega)
  have b1 : ((8 : Nat) : Int) * (N : Int) ≤ 70368744177664 := by omega
  have b2 : (N : Int) ≤ 70368744177664 := by omega
  have e1 : (g.map ic).take N = g.map ic := take_self (by simpa using hgl)
  have e2 : N ≤ g.length := by omega
  rw [p122]
  generalize hl : left ⟨true, goal, false, g, true, [], true, [], 0, 0, 0, 0⟩ c = l at h99 h1 h2 hll
  have hleaf : leafOf c goal g = ⟨true, goal, false, g, true, l.co.map (fun n => max n 0), true, l.co.map (fun n => max (ng n) 0), 0, 0, 0, 0⟩ := by simp [leafOf, hl]
  rw [hleaf]
  rcases hg with ⟨rfl, hg⟩ | ⟨k, rfl, hk, hg⟩
  · have n1 : ¬ (0 : Int) ≤ -1 := by decide
    simp only [go_sem, Nat.reduceAdd, Nat.reduceSub, Nat.reduceMul, Nat.reduceDiv, Nat.reduceMod, Nat.reduceLeDiff, Nat.reduceBEq, Int.reduceToNat, Int.reduceLT, Int.reduceLE, Int.reduceEq, slD_f, slD_nil] at h99 h1 h2
    rw [← hN] at hg
    have e0 : List.replicate N [D.int .i64 0] = g.map ic := by rw [hg, repic]
    simp only [go_sem, Nat.reduceAdd, Nat.reduceSub, Nat.reduceMul, Nat.reduceDiv, Nat.reduceMod, Nat.reduceLeDiff, Nat.reduceBEq, Int.reduceToNat, Int.reduceLT, Int.reduceLE, Int.reduceEq, ← hN, b1, b2, Int.natCast_nonneg, e0, n1, e1, e2, slD_f, slD_nil, h99, h1, h2]
    rfl
  · have n1 : (0 : Int) ≤ (k : Int) := Int.natCast_nonneg k
    have n2 : (k : Int) < (N : Int) := by omega
    simp only [go_sem, Nat.reduceAdd, Nat.reduceSub, Nat.reduceMul, Nat.reduceDiv, Nat.reduceMod, Nat.reduceLeDiff, Nat.reduceBEq, Int.reduceToNat, Int.reduceLT, Int.reduceLE, Int.reduceEq, slD_f, slD_nil] at h99 h1 h2
    rw [← hN] at hg
    have e3 : (List.replicate N [D.int .i64 0])[k]? = some [.int .i64 0] := by rw [List.getElem?_replicate, if_pos (by omega)]
    have e4 : (List.replicate N [D.int .i64 0]).set k [.int .i64 m] = g.map ic := by rw [hg, repic, List.map_set]; rfl
    simp only [go_sem, Nat.reduceAdd, Nat.reduceSub, Nat.reduceMul, Nat.reduceDiv, Nat.reduceMod, Nat.reduceLeDiff, Nat.reduceBEq, Int.reduceToNat, Int.reduceLT, Int.reduceLE, Int.reduceEq, ← hN, b1, b2, Int.natCast_nonneg, n1, n2, Nat.mul_one, Nat.div_one, Nat.mod_one, e3, e4, e1, e2, slD_f, slD_nil, h99, h1, h2]
    rfl
end Go.Vm.P12

/- Chapter 12, functions: the search for a direct leaf. -/
set_option maxRecDepth 100000
namespace Go.Vm.P12
open Go Go.Vm
structure Rd (lo : Lower) (Q p : Stp → Bool) (e1 : Ext) (eF : Stp → Ext) (I : Ext → Prop) : Prop where
  h1 : I e1
  hr : ∀ e s, I e → Q s = true → lo.round e [.agg (enT s)] = some (if p s then (eF s, false) else (e1, true))
def aft (p : Stp → Bool) (e1 : Ext) (e : Ext) (l : List Stp) : Ext := if l.isEmpty then e else e1
theorem aft_same {p : Stp → Bool} {e : Ext} {l : List Stp} : aft p e e l = e := by simp [aft]
theorem aft_cons {p : Stp → Bool} {e1 e : Ext} {x : Stp} {l : List Stp} : aft p e1 e (x :: l) = e1 := rfl
theorem aft_nil {p : Stp → Bool} {e1 e : Ext} : aft p e1 e [] = e := rfl
theorem aft_app {p : Stp → Bool} {e1 e : Ext} {l r : List Stp} : aft p e1 (aft p e1 e l) r = aft p e1 e (l ++ r) := by
  cases l <;> cases r <;> rfl
def lf (c : Cl) (goal : Int) (i : Nat) (m : Int) : Stp := leafOf c goal ((List.replicate c.gv.length 0).set i m)
def lf0 (c : Cl) (goal : Int) : Stp := leafOf c goal (List.replicate c.gv.length 0)
def lfs (c : Cl) (goal : Int) (i : Nat) (m : Nat) : Nat → List Stp
  | 0 => []
  | k + 1 => lf c goal i (m + 1 : Nat) :: lfs c goal i (m + 1) k
theorem l98_0 {n : Nat} {c : Cl} (hc : c.Even) {goal : Int} {M : Nat} {Q p : Stp → Bool} {e1 : Ext} {eF : Stp → Ext} {I : Ext → Prop} (R : Rd (level E (n+6)) Q p e1 eF I) (hQ : ∀ i m, i < c.gv.length → Q (lf c goal i m) = true) (hM : M < 1000000000) {i N : Nat} (hN : N = c.gv.length) (hi : i < N) {v5 : D} {k : Int} : ∀ (r : Nat) (m : Nat) (e : Ext), m + r = M → I e →
    outC ⟨0, false⟩ [1, 1, 1, 0, 0, 1, 1, 0, 0, 1, 1, 0, 0, 0, 0, 0] (rnd (aCode (level E (n+6)) ⟨0, false⟩ b98_0) (head ⟨0, false⟩ [1, 1, 1, 1, 0, 1, 1, 0, 0, 1, 1, 0, 1, 1, 0, 0])
      ⟨[.yield, .imm (.ptr (enC c)), .ptr 0 0, .imm (.int .i64 i), .junk, .imm v5, .imm (.int .i64 k), .junk, .junk, .imm (.int .i64 N), .imm (.int .i64 i), .junk, .imm (.int .i64 M), .imm (.int .i64 m), .junk, .junk],
        [.box [.imm (.int .i64 goal), .imm (.int .i64 M), .imm (.fn 122 [] [])]], some e⟩) =
      some (match (lfs c goal i m r).find? p with
        | some s => (.ret, ⟨[.yield, .imm (.ptr (enC c)), .ptr 0 0, .junk, .junk, .imm v5, .imm (.int .i64 k), .junk, .junk, .imm (.int .i64 N), .imm (.int .i64 i), .junk, .junk, .junk, .junk, .junk], [.box [.imm (.int .i64 goal), .imm (.int .i64 M), .imm (.fn 122 [] [])]], some (eF s)⟩)
        | none => (.exit 4, ⟨[.yield, .imm (.ptr (enC c)), .ptr 0 0, .junk, .junk, .imm v5, .imm (.int .i64 k), .junk, .junk, .imm (.int .i64 N), .imm (.int .i64 i), .junk, .junk, .junk, .junk, .junk], [.box [.imm (.int .i64 goal), .imm (.int .i64 M), .imm (.fn 122 [] [])]], some (aft p e1 e (lfs c goal i m r))⟩))
  | 0, m, e, hm, he => by
    rw [rnd_eq]
    simp only [go_sem, Nat.reduceAdd, Nat.reduceSub, Nat.reduceMul, Nat.reduceDiv, Nat.reduceMod, Nat.reduceLeDiff, Nat.reduceBEq, Int.reduceToNat, Int.reduceLT, Int.reduceLE, Int.reduceEq, lt_f (show M ≤ m by omega), lfs, List.find?_nil, aft]
  | r + 1, m, e, hm, he => by
    have h6 := wrpS (i := m) (by omega)
    have h122 := ok122 (n+1) c hc goal i (m + 1 : Nat) ((List.replicate c.gv.length 0).set i (m + 1 : Nat)) (.inr ⟨i, rfl, by omega, rfl⟩)
    have hr := R.hr e (lf c goal i (m + 1 : Nat)) he (hQ i _ (by omega))
    have IH := l98_0 (n := n) hc R hQ hM hN hi (v5 := v5) (k := k) r (m + 1) e1 (by omega) R.h1
    rw [← lf] at h122
    rw [rnd_eq]
    cases hp : p (lf c goal i (m + 1 : Nat))
    · rw [hp, if_neg (by simp)] at hr
      simp only [go_sem, Nat.reduceAdd, Nat.reduceSub, Nat.reduceMul, Nat.reduceDiv, Nat.reduceMod, Nat.reduceLeDiff, Nat.reduceBEq, Int.reduceToNat, Int.reduceLT, Int.reduceLE, Int.reduceEq] at h122 hr IH
      simp only [go_sem, Nat.reduceAdd, Nat.reduceSub, Nat.reduceMul, Nat.reduceDiv, Nat.reduceMod, Nat.reduceLeDiff, Nat.reduceBEq, Int.reduceToNat, Int.reduceLT, Int.reduceLE, Int.reduceEq, lt_t (show m < M by omega), h6, h122, hr]
      simp only [lfs, List.find?_cons, hp, aft_cons]
      simp only [aft_same] at IH
      exact IH
    · rw [hp, if_pos rfl] at hr
      simp only [go_sem, Nat.reduceAdd, Nat.reduceSub, Nat.reduceMul, Nat.reduceDiv, Nat.reduceMod, Nat.reduceLeDiff, Nat.reduceBEq, Int.reduceToNat, Int.reduceLT, Int.reduceLE, Int.reduceEq] at h122 hr
      simp only [go_sem, Nat.reduceAdd, Nat.reduceSub, Nat.reduceMul, Nat.reduceDiv, Nat.reduceMod, Nat.reduceLeDiff, Nat.reduceBEq, Int.reduceToNat, Int.reduceLT, Int.reduceLE, Int.reduceEq, lt_t (show m < M by omega), h6, h122, hr]
      simp only [lfs, List.find?_cons, hp]
theorem I_aft {lo : Lower} {Q p : Stp → Bool} {e1 e : Ext} {eF : Stp → Ext} {I : Ext → Prop} (R : Rd lo Q p e1 eF I) (he : I e) (l : List Stp) : I (aft p e1 e l) := by
  unfold aft; split
  · exact he
  · exact R.h1
def lfg (c : Cl) (goal : Int) (M : Nat) (i : Nat) : Nat → List Stp
  | 0 => []
  | r + 1 => lfs c goal i 0 M ++ lfg c goal M (i + 1) r
theorem find_app {α : Type} {p : α → Bool} {l r : List α} : (l ++ r).find? p = match l.find? p with | some x => some x | none => r.find? p := by
  rw [List.find?_append]; cases l.find? p <;> rfl
theorem l98_1 {n : Nat} {c : Cl} (hc : c.Even) {goal : Int} {M : Nat} {Q p : Stp → Bool} {e1 : Ext} {eF : Stp → Ext} {I : Ext → Prop} (R : Rd (level E (n+6)) Q p e1 eF I) (hQ : ∀ i m, i < c.gv.length → Q (lf c goal i m) = true) (hM : M < 1000000000) {N : Nat} (hN : N = c.gv.length) {v5 : D} {k : Int} : ∀ (r : Nat) (i : Nat) (e : Ext), i + r = N → I e →
    outC ⟨0, false⟩ [1, 1, 0, 0, 0, 1, 1, 0, 0, 0, 0, 0, 0, 0, 0, 0] (rnd (aCode (level E (n+6)) ⟨0, false⟩ b98_1) (head ⟨0, false⟩ [1, 1, 1, 0, 0, 1, 1, 0, 0, 1, 1, 0, 0, 0, 0, 0])
      ⟨[.yield, .imm (.ptr (enC c)), .ptr 0 0, .junk, .junk, .imm v5, .imm (.int .i64 k), .junk, .junk, .imm (.int .i64 N), .imm (.int .i64 i), .junk, .junk, .junk, .junk, .junk],
        [.box [.imm (.int .i64 goal), .imm (.int .i64 M), .imm (.fn 122 [] [])]], some e⟩) =
      some (match (lfg c goal M i r).find? p with
        | some s => (.ret, ⟨[.yield, .imm (.ptr (enC c)), .junk, .junk, .junk, .imm v5, .imm (.int .i64 k), .junk, .junk, .junk, .junk, .junk, .junk, .junk, .junk, .junk], [], some (eF s)⟩)
        | none => (.exit 2, ⟨[.yield, .imm (.ptr (enC c)), .junk, .junk, .junk, .imm v5, .imm (.int .i64 k), .junk, .junk, .junk, .junk, .junk, .junk, .junk, .junk, .junk], [], some (aft p e1 e (lfg c goal M i r))⟩))
  | 0, i, e, hi, he => by
    rw [rnd_eq]
    simp only [go_sem, Nat.reduceAdd, Nat.reduceSub, Nat.reduceMul, Nat.reduceDiv, Nat.reduceMod, Nat.reduceLeDiff, Nat.reduceBEq, Int.reduceToNat, Int.reduceLT, Int.reduceLE, Int.reduceEq, lt_f (show N ≤ i by omega), lfg, List.find?_nil, aft_nil]
  | r + 1, i, e, hi, he => by
    have h6 := wrpS (i := i) (by have := hc.fit.gv; omega)
    have hl := l98_0 (n := n) hc R hQ hM hN (show i < N by omega) (v5 := v5) (k := k) M 0 e (by omega) he
    have IH := l98_1 (n := n) hc R hQ hM hN (v5 := v5) (k := k) r (i + 1) (aft p e1 e (lfs c goal i 0 M)) (by omega) (I_aft R he _)
    rw [cast0] at hl
    rw [rnd_eq]
    simp only [go_sem, Nat.reduceAdd, Nat.reduceSub, Nat.reduceMul, Nat.reduceDiv, Nat.reduceMod, Nat.reduceLeDiff, Nat.reduceBEq, Int.reduceToNat, Int.reduceLT, Int.reduceLE, Int.reduceEq] at hl IH
    simp only [go_sem, Nat.reduceAdd, Nat.reduceSub, Nat.reduceMul, Nat.reduceDiv, Nat.reduceMod, Nat.reduceLeDiff, Nat.reduceBEq, Int.reduceToNat, Int.reduceLT, Int.reduceLE, Int.reduceEq, lt_t (show i < N by omega), hl, lfg, find_app]
    cases hf : (lfs c goal i 0 M).find? p
    · simp only [go_sem, Nat.reduceAdd, Nat.reduceSub, Nat.reduceMul, Nat.reduceDiv, Nat.reduceMod, Nat.reduceLeDiff, Nat.reduceBEq, Int.reduceToNat, Int.reduceLT, Int.reduceLE, Int.reduceEq, h6]
      rw [aft_app] at IH
      exact IH
    · simp only [go_sem, Nat.reduceAdd, Nat.reduceSub, Nat.reduceMul, Nat.reduceDiv, Nat.reduceMod, Nat.reduceLeDiff, Nat.reduceBEq, Int.reduceToNat, Int.reduceLT, Int.reduceLE, Int.reduceEq]
def leaves (c : Cl) : List Stp := lfg c 0 1 0 c.gv.length ++ (lf0 c 1 :: lfg c 1 4 0 c.gv.length)
theorem l98_2 {n : Nat} {c : Cl} (hc : c.Even) {Q p : Stp → Bool} {e1 : Ext} {eF : Stp → Ext} {I : Ext → Prop} (R : Rd (level E (n+6)) Q p e1 eF I) (hQ : ∀ g i m, i < c.gv.length → Q (lf c g i m) = true) (hQ0 : Q (lf0 c 1) = true) (e : Ext) (he : I e) :
    aCode (level E (n+6)) ⟨0, false⟩ c98 ⟨[.yield, .imm (.ptr (enC c)), .junk, .junk, .junk, .junk, .junk, .junk, .junk, .junk, .junk, .junk, .junk, .junk, .junk, .junk], [], some e⟩ =
      some (match (leaves c).find? p with
        | some s => (.ret, ⟨[.junk, .junk, .junk, .junk, .junk, .junk, .junk, .junk, .junk, .junk, .junk, .junk, .junk, .junk, .junk, .junk], [], some (eF s)⟩)
        | none => (.normal, ⟨[.junk, .junk, .junk, .junk, .junk, .junk, .junk, .junk, .junk, .junk, .junk, .junk, .junk, .junk, .junk, .junk], [], some e1⟩)) := by
  have hg := hc.fit.gv
  obtain ⟨N, hN⟩ : ∃ N, N = c.gv.length := ⟨_, rfl⟩
  obtain ⟨v5, hv5⟩ : ∃ v5 : D, v5 = .agg [.int .i64 0, .int .i64 1, .fn 122 [] [], .int .i64 1, .int .i64 0, .fn 122 [] [], .int .i64 1, .int .i64 4, .fn 122 [] []] := ⟨_, rfl⟩
  have h1 := l98_1 (n := n) hc (goal := 0) (M := 1) R (hQ 0) (by omega) hN (v5 := v5) (k := 0) N 0 e (by omega) he
  have i1 := I_aft R he (lfg c 0 1 0 N)
  have h0 := ok122 (n+1) c hc 1 (-1) 0 _ (.inl ⟨rfl, rfl⟩)
  rw [← lf0] at h0
  have hr := R.hr _ (lf0 c 1) i1 hQ0
  have h2 := l98_1 (n := n) hc (goal := 1) (M := 0) R (hQ 1) (by omega) hN (v5 := v5) (k := 1) N 0 e1 (by omega) R.h1
  have h3 := l98_1 (n := n) hc (goal := 1) (M := 4) R (hQ 1) (by omega) hN (v5 := v5) (k := 2) N 0 e1 (by omega) R.h1
  have e2 : ∀ (r i : Nat), lfg c 1 0 i r = [] := fun r => by induction r with | zero => intro i; rfl | succ r ih => intro i; simp [lfg, lfs, ih]
  rw [e2] at h2
  rw [cast0] at h1 h2 h3
  simp only [List.find?_nil, aft_same] at h2 h3
  simp only [go_sem, Nat.reduceAdd, Nat.reduceSub, Nat.reduceMul, Nat.reduceDiv, Nat.reduceMod, Nat.reduceLeDiff, Nat.reduceBEq, Int.reduceToNat, Int.reduceLT, Int.reduceLE, Int.reduceEq, hv5, show ((1 : Nat) : Int) = 1 from rfl, show ((4 : Nat) : Int) = 4 from rfl] at h0 h1 h2 h3
  have u := rnd_eq (aCode (level E (n+6)) ⟨0, false⟩ b98_2)
  have j0 : decide ((0 : Int) < ((3 : Nat) : Int)) = true := by decide
  have j1 : decide ((1 : Int) < ((3 : Nat) : Int)) = true := by decide
  have j2 : decide ((2 : Int) < ((3 : Nat) : Int)) = true := by decide
  have lv : leaves c = lfg c 0 1 0 N ++ (lf0 c 1 :: lfg c 1 4 0 N) := by rw [leaves, hN]
  rw [lv]
  simp only [go_sem, Nat.reduceAdd, Nat.reduceSub, Nat.reduceMul, Nat.reduceDiv, Nat.reduceMod, Nat.reduceLeDiff, Nat.reduceBEq, Int.reduceToNat, Int.reduceLT, Int.reduceLE, Int.reduceEq, u, ← hN, j0, h0, h1, find_app]
  cases hf : (lfg c 0 1 0 N).find? p with
  | some s => simp only [go_sem, Nat.reduceAdd, Nat.reduceSub, Nat.reduceMul, Nat.reduceDiv, Nat.reduceMod, Nat.reduceLeDiff, Nat.reduceBEq, Int.reduceToNat, Int.reduceLT, Int.reduceLE, Int.reduceEq]
  | none =>
    simp only [go_sem, Nat.reduceAdd, Nat.reduceSub, Nat.reduceMul, Nat.reduceDiv, Nat.reduceMod, Nat.reduceLeDiff, Nat.reduceBEq, Int.reduceToNat, Int.reduceLT, Int.reduceLE, Int.reduceEq, u, ← hN, j1, h0, List.find?_cons]
    cases hp : p (lf0 c 1)
    · rw [hp, if_neg (by simp)] at hr
      simp only [go_sem, Nat.reduceAdd, Nat.reduceSub, Nat.reduceMul, Nat.reduceDiv, Nat.reduceMod, Nat.reduceLeDiff, Nat.reduceBEq, Int.reduceToNat, Int.reduceLT, Int.reduceLE, Int.reduceEq] at hr
      simp only [go_sem, Nat.reduceAdd, Nat.reduceSub, Nat.reduceMul, Nat.reduceDiv, Nat.reduceMod, Nat.reduceLeDiff, Nat.reduceBEq, Int.reduceToNat, Int.reduceLT, Int.reduceLE, Int.reduceEq, u, ← hN, hr, h2, j2, h3]
      cases hf2 : (lfg c 1 4 0 N).find? p with
      | some s => simp only [go_sem, Nat.reduceAdd, Nat.reduceSub, Nat.reduceMul, Nat.reduceDiv, Nat.reduceMod, Nat.reduceLeDiff, Nat.reduceBEq, Int.reduceToNat, Int.reduceLT, Int.reduceLE, Int.reduceEq]
      | none => simp only [go_sem, Nat.reduceAdd, Nat.reduceSub, Nat.reduceMul, Nat.reduceDiv, Nat.reduceMod, Nat.reduceLeDiff, Nat.reduceBEq, Int.reduceToNat, Int.reduceLT, Int.reduceLE, Int.reduceEq, u]
    · rw [hp, if_pos rfl] at hr
      simp only [go_sem, Nat.reduceAdd, Nat.reduceSub, Nat.reduceMul, Nat.reduceDiv, Nat.reduceMod, Nat.reduceLeDiff, Nat.reduceBEq, Int.reduceToNat, Int.reduceLT, Int.reduceLE, Int.reduceEq] at hr
      simp only [go_sem, Nat.reduceAdd, Nat.reduceSub, Nat.reduceMul, Nat.reduceDiv, Nat.reduceMod, Nat.reduceLeDiff, Nat.reduceBEq, Int.reduceToNat, Int.reduceLT, Int.reduceLE, Int.reduceEq, hr]
end Go.Vm.P12

/- Chapter 12, functions: the direct leaf. -/
set_option maxRecDepth 100000
namespace Go.Vm.P12
open Go Go.Vm
theorem ok82 (n : Nat) (c : Cl) : callP (level E (n+1)) 82 [.agg (enC c)] = some (.fn 98 [] [.ptr (enC c)]) := by
  rw [p82]; simp only [go_sem, Nat.reduceAdd, Nat.reduceSub, Nat.reduceMul, Nat.reduceDiv, Nat.reduceMod, Nat.reduceLeDiff, Nat.reduceBEq, Int.reduceToNat, Int.reduceLT, Int.reduceLE, Int.reduceEq, sg_slD]
def sOk (c : Cl) (s : Stp) : Bool := decide (s.lw.length = c.sp.length) && decide (s.hg.length = c.sp.length) && decide (c.gv.length ≤ s.gv.length)
theorem leafOf_ok {c : Cl} (hc : c.Even) {goal : Int} {g : List Int} (hg : g.length = c.gv.length) : sOk c (leafOf c goal g) = true := by
  have hll : (left ⟨true, goal, false, g, true, [], true, [], 0, 0, 0, 0⟩ c).co.length = c.sp.length := lft_len c.gv _ _ (by simp [pls, hc.go]) hc.gv
  simp [sOk, leafOf, hll, hg]
def zSt : Stp := ⟨false, 0, true, [], true, [], true, [], 0, 0, 0, 0⟩
def x0 (c : Cl) : Ext := ⟨[6], b52_0, b52_1, [.imm (.agg (enC c)), .ptr 1 0, .ptr 2 0, .ptr 0 0, .junk, .imm (.fn 98 [] [.ptr (enC c)]), .junk, .junk], [.box ((enC c).map .imm), .box ((enT zSt).map .imm), .box [.imm (.bool false)]], 0, none⟩
def x1 (c : Cl) : Ext := ⟨[6], b52_0, b52_1, [.imm (.agg (enC c)), .ptr 0 0, .ptr 1 0, .ptr 2 0, .junk, .imm (.fn 98 [] [.ptr (enC c)]), .junk, .junk], [.box ((enT zSt).map .imm), .box [.imm (.bool false)], .box ((enC c).map .imm)], 0, none⟩
def xF (c : Cl) (s : Stp) : Ext := ⟨[6], b52_0, b52_1, [.imm (.agg (enC c)), .ptr 0 0, .ptr 1 0, .ptr 2 0, .junk, .imm (.fn 98 [] [.ptr (enC c)]), .junk, .junk], [.box ((enT s).map .imm), .box [.imm (.bool true)], .box ((enC c).map .imm)], 0, some .ret⟩
theorem rd52 (n : Nat) (c : Cl) (hc : c.Even) : Rd (level E (n+6)) (sOk c) (fun s => prv s c) (x1 c) (xF c) (fun e => e = x0 c ∨ e = x1 c) := by
  refine ⟨.inr rfl, fun e s he hs => ?_⟩
  simp only [sOk, Bool.and_eq_true, decide_eq_true_eq] at hs
  have h83 := ok83 n s c hc hs.2 hs.1.1 hs.1.2
  rcases he with rfl | rfl <;> cases hp : prv s c <;> rw [hp] at h83 <;> simp only [go_sem, Nat.reduceAdd, Nat.reduceSub, Nat.reduceMul, Nat.reduceDiv, Nat.reduceMod, Nat.reduceLeDiff, Nat.reduceBEq, Int.reduceToNat, Int.reduceLT, Int.reduceLE, Int.reduceEq] at h83 <;> simp only [x0, x1, xF] <;> rw [round_go (by rfl)] <;> simp only [go_sem, Nat.reduceAdd, Nat.reduceSub, Nat.reduceMul, Nat.reduceDiv, Nat.reduceMod, Nat.reduceLeDiff, Nat.reduceBEq, Int.reduceToNat, Int.reduceLT, Int.reduceLE, Int.reduceEq, sg_slD, zSt, slD_nil, h83]
def dir (c : Cl) : Option Stp := (leaves c).find? fun s => prv s c
theorem call98 (n : Nat) (c : Cl) (hc : c.Even) : (level E (n+7)).call 98 [.yield, .imm (.ptr (enC c))] [] (some (x0 c)) = some (.imm (.tup []), [], some (match dir c with | some s => xF c s | none => x1 c)) := by
  have hl := l98_2 (n := n) hc (rd52 n c hc) (fun g i m hi => leafOf_ok hc (by simp)) (leafOf_ok hc (by simp)) (x0 c) (.inl rfl)
  rw [call_go (fn := ir98) (c := c98) (r := []) rfl rfl rfl rfl rfl]
  rw [show (List.length ([] : List AO)) = 0 from rfl]
  rw [show [AV.yield, .imm (.ptr (enC c))] ++ List.replicate (ir98.nv - [AV.yield, .imm (.ptr (enC c))].length) .junk = [.yield, .imm (.ptr (enC c)), .junk, .junk, .junk, .junk, .junk, .junk, .junk, .junk, .junk, .junk, .junk, .junk, .junk, .junk] from rfl]
  rw [hl, ← dir]
  cases dir c <;> simp only [go_sem, Nat.reduceAdd, Nat.reduceSub, Nat.reduceMul, Nat.reduceDiv, Nat.reduceMod, Nat.reduceLeDiff, Nat.reduceBEq, Int.reduceToNat, Int.reduceLT, Int.reduceLE, Int.reduceEq]
def dirD (c : Cl) : D := match dir c with | some s => .tup [.agg (enT s), .bool true] | none => .tup [.agg (enT zSt), .bool false]
theorem ok52 (n : Nat) (c : Cl) (hc : c.Even) : callP (level E (n+8)) 52 [.agg (enC c)] = some (dirD c) := by
  have h98 := call98 n c hc
  have h82 := ok82 (n+6) c
  rw [p52]
  simp only [go_sem, Nat.reduceAdd, Nat.reduceSub, Nat.reduceMul, Nat.reduceDiv, Nat.reduceMod, Nat.reduceLeDiff, Nat.reduceBEq, Int.reduceToNat, Int.reduceLT, Int.reduceLE, Int.reduceEq] at h82
  simp only [x0, x1, xF, zSt] at h98
  unfold dirD
  cases hd : dir c with
  | none =>
    rw [hd] at h98
    simp only [go_sem, Nat.reduceAdd, Nat.reduceSub, Nat.reduceMul, Nat.reduceDiv, Nat.reduceMod, Nat.reduceLeDiff, Nat.reduceBEq, Int.reduceToNat, Int.reduceLT, Int.reduceLE, Int.reduceEq, slD_nil] at h98
    simp only [go_sem, Nat.reduceAdd, Nat.reduceSub, Nat.reduceMul, Nat.reduceDiv, Nat.reduceMod, Nat.reduceLeDiff, Nat.reduceBEq, Int.reduceToNat, Int.reduceLT, Int.reduceLE, Int.reduceEq, sg_slD, h82, h98, zSt, slD_nil]
  | some s =>
    rw [hd] at h98
    simp only [go_sem, Nat.reduceAdd, Nat.reduceSub, Nat.reduceMul, Nat.reduceDiv, Nat.reduceMod, Nat.reduceLeDiff, Nat.reduceBEq, Int.reduceToNat, Int.reduceLT, Int.reduceLE, Int.reduceEq, slD_nil] at h98
    simp only [go_sem, Nat.reduceAdd, Nat.reduceSub, Nat.reduceMul, Nat.reduceDiv, Nat.reduceMod, Nat.reduceLeDiff, Nat.reduceBEq, Int.reduceToNat, Int.reduceLT, Int.reduceLE, Int.reduceEq, sg_slD, h82, h98]
theorem clErr_even {c : Cl} (hf : c.Fit) (h : clErr c = 0) : c.Even := by
  have fn0 : ∀ l : List Int, fnz l = 0 → ∀ x ∈ l, x = 0 := by
    intro l
    induction l with
    | nil => intro _ x hx; cases hx
    | cons y l ih =>
      intro h x hx
      rw [fnz_cons] at h
      by_cases hy : y = 0
      · rw [if_pos hy] at h
        rcases List.mem_cons.1 hx with rfl | hx
        · exact hy
        · exact ih h x hx
      · rw [if_neg hy] at h; exact absurd h hy
  unfold clErr at h
  split at h
  · have key : ∀ l ∈ c.gv ++ [c.go], (l.co.length : Int) = c.sp.length := by
      intro l hl
      have h1 := fn0 _ h (lnErr l c.sp.length) (List.mem_map.2 ⟨l, hl, rfl⟩)
      have h2 := fn0 _ h1 _ (List.mem_cons_self)
      by_cases he : (l.co.length : Int) = c.sp.length
      · exact he
      · simp [he] at h2
    exact ⟨hf, fun g hg => by have := key g (List.mem_append_left _ hg); omega, by have := key c.go (by simp); omega⟩
  · rename_i h0; exact absurd h h0
def direct (c : Cl) : D := if clErr c = 0 then (match dir c with | some s => .tup [.agg (enT s), .bool true, .int .i64 0] | none => .tup [.agg (enT zSt), .bool false, .int .i64 0]) else .tup [.agg (enT zSt), .bool false, .int .i64 (clErr c)]
theorem ok10 (n : Nat) (c : Cl) (hf : c.Fit) : callP (level E (n+9)) 10 [.agg (enC c)] = some (direct c) := by
  have h28 := ok28 n c hf
  rw [p10]
  unfold direct
  by_cases h0 : clErr c = 0
  · have h52 := ok52 n c (clErr_even hf h0)
    rw [h0] at h28
    unfold dirD at h52
    cases hd : dir c with
    | none =>
      rw [hd] at h52
      simp only [go_sem, Nat.reduceAdd, Nat.reduceSub, Nat.reduceMul, Nat.reduceDiv, Nat.reduceMod, Nat.reduceLeDiff, Nat.reduceBEq, Int.reduceToNat, Int.reduceLT, Int.reduceLE, Int.reduceEq] at h28 h52
      simp only [go_sem, Nat.reduceAdd, Nat.reduceSub, Nat.reduceMul, Nat.reduceDiv, Nat.reduceMod, Nat.reduceLeDiff, Nat.reduceBEq, Int.reduceToNat, Int.reduceLT, Int.reduceLE, Int.reduceEq, sg_slD, h28, h52, h0, ne_eq, not_true_eq_false]
    | some s =>
      rw [hd] at h52
      simp only [go_sem, Nat.reduceAdd, Nat.reduceSub, Nat.reduceMul, Nat.reduceDiv, Nat.reduceMod, Nat.reduceLeDiff, Nat.reduceBEq, Int.reduceToNat, Int.reduceLT, Int.reduceLE, Int.reduceEq] at h28 h52
      simp only [go_sem, Nat.reduceAdd, Nat.reduceSub, Nat.reduceMul, Nat.reduceDiv, Nat.reduceMod, Nat.reduceLeDiff, Nat.reduceBEq, Int.reduceToNat, Int.reduceLT, Int.reduceLE, Int.reduceEq, sg_slD, h28, h52, h0, ne_eq, not_true_eq_false]
  · simp only [go_sem, Nat.reduceAdd, Nat.reduceSub, Nat.reduceMul, Nat.reduceDiv, Nat.reduceMod, Nat.reduceLeDiff, Nat.reduceBEq, Int.reduceToNat, Int.reduceLT, Int.reduceLE, Int.reduceEq] at h28
    simp only [go_sem, Nat.reduceAdd, Nat.reduceSub, Nat.reduceMul, Nat.reduceDiv, Nat.reduceMod, Nat.reduceLeDiff, Nat.reduceBEq, Int.reduceToNat, Int.reduceLT, Int.reduceLE, Int.reduceEq, sg_slD, h28, h0, ne_eq, not_false_eq_true, zSt, slD_nil]
end Go.Vm.P12

/- Chapter 12, functions: the widest span, halves. -/
set_option maxRecDepth 100000
namespace Go.Vm.P12
open Go Go.Vm
def wdt (s : Sp) : Int := sb s.hi s.lo
def wider (l : List Sp) (s : Sp) (st : Nat × Bool) : Bool := decide (s.lo < s.hi) && (!st.2 || decide (wdt (l.getD st.1 ⟨0, 0⟩) < wdt s))
def wids (l : List Sp) : List Sp → Nat → Nat × Bool → Nat × Bool
  | [], _, st => st
  | s :: r, i, st => wids l r (i + 1) (if wider l s st then (i, true) else st)
theorem l84 {lo : Lower} {b : Bool} {l : List Sp} (hl : l.length < 1000000000) : ∀ (r : List Sp) (i : Nat) (st : Nat × Bool), l.drop i = r → (st.2 = true → st.1 < l.length) →
    outC ⟨0, false⟩ [0, 0, 0, 1, 1, 0, 0, 0, 0, 0, 0, 0] (rnd (aCode lo ⟨0, false⟩ b84_0) (head ⟨0, false⟩ [1, 0, 0, 1, 1, 0, 0, 1, 1, 1, 0, 0])
      ⟨[.imm (slD b 2 (l.map enS)), .junk, .junk, .imm (.int .i64 st.1), .imm (.bool st.2), .junk, .junk, .imm (slD b 2 (l.map enS)), .imm (.int .i64 l.length), .imm (.int .i64 i), .junk, .junk], [], none⟩) =
      some (.exit 0, ⟨[.junk, .junk, .junk, .imm (.int .i64 (wids l r i st).1), .imm (.bool (wids l r i st).2), .junk, .junk, .junk, .junk, .junk, .junk, .junk], [], none⟩)
  | [], i, st, h, hst => by
    rw [rnd_eq]
    simp only [go_sem, Nat.reduceAdd, Nat.reduceSub, Nat.reduceMul, Nat.reduceDiv, Nat.reduceMod, Nat.reduceLeDiff, Nat.reduceBEq, Int.reduceToNat, Int.reduceLT, Int.reduceLE, Int.reduceEq, lt_f (drop_n h), wids]
  | s :: r, i, st, h, hst => by
    obtain ⟨h1, h2, h3⟩ := drop_c h
    have h6 := wrpS (i := i) (by omega)
    have IH := l84 (lo := lo) (b := b) hl r (i + 1) (if wider l s st then (i, true) else st) h3 (by split <;> simp_all)
    rw [rnd_eq]
    obtain ⟨k, fd⟩ := st
    have hw : wids l (s :: r) i (k, fd) = wids l r (i + 1) (if wider l s (k, fd) then (i, true) else (k, fd)) := rfl
    rw [hw]
    cases c1 : decide (s.lo < s.hi)
    · have e : wider l s (k, fd) = false := by simp only [wider, c1, Bool.false_and]
      rw [e] at IH ⊢
      simp only [go_sem, Nat.reduceAdd, Nat.reduceSub, Nat.reduceMul, Nat.reduceDiv, Nat.reduceMod, Nat.reduceLeDiff, Nat.reduceBEq, Int.reduceToNat, Int.reduceLT, Int.reduceLE, Int.reduceEq] at IH
      simp only [go_sem, Nat.reduceAdd, Nat.reduceSub, Nat.reduceMul, Nat.reduceDiv, Nat.reduceMod, Nat.reduceLeDiff, Nat.reduceBEq, Int.reduceToNat, Int.reduceLT, Int.reduceLE, Int.reduceEq, lt_t h2, h1, c1, h6]
      exact IH
    · cases fd
      · have e : wider l s (k, false) = true := by simp only [wider, c1]; rfl
        rw [e] at IH ⊢
        simp only [go_sem, Nat.reduceAdd, Nat.reduceSub, Nat.reduceMul, Nat.reduceDiv, Nat.reduceMod, Nat.reduceLeDiff, Nat.reduceBEq, Int.reduceToNat, Int.reduceLT, Int.reduceLE, Int.reduceEq] at IH
        simp only [go_sem, Nat.reduceAdd, Nat.reduceSub, Nat.reduceMul, Nat.reduceDiv, Nat.reduceMod, Nat.reduceLeDiff, Nat.reduceBEq, Int.reduceToNat, Int.reduceLT, Int.reduceLE, Int.reduceEq, lt_t h2, h1, c1, h6]
        exact IH
      · have hk := hst rfl
        obtain ⟨t, ht⟩ : ∃ t, l[k]? = some t := ⟨l[k], List.getElem?_eq_getElem hk⟩
        have hg : l.getD k ⟨0, 0⟩ = t := by rw [List.getD_eq_getElem?_getD, ht]; rfl
        cases c2 : decide (wrp .i64 (t.hi - t.lo) < wrp .i64 (s.hi - s.lo))
        · have e : wider l s (k, true) = false := by simp only [wider, c1, hg, wdt, sb, c2]; rfl
          rw [e] at IH ⊢
          simp only [go_sem, Nat.reduceAdd, Nat.reduceSub, Nat.reduceMul, Nat.reduceDiv, Nat.reduceMod, Nat.reduceLeDiff, Nat.reduceBEq, Int.reduceToNat, Int.reduceLT, Int.reduceLE, Int.reduceEq] at IH
          simp only [go_sem, Nat.reduceAdd, Nat.reduceSub, Nat.reduceMul, Nat.reduceDiv, Nat.reduceMod, Nat.reduceLeDiff, Nat.reduceBEq, Int.reduceToNat, Int.reduceLT, Int.reduceLE, Int.reduceEq, lt_t h2, h1, c1, h6, ht, c2]
          exact IH
        · have e : wider l s (k, true) = true := by simp only [wider, c1, hg, wdt, sb, c2]; rfl
          rw [e] at IH ⊢
          simp only [go_sem, Nat.reduceAdd, Nat.reduceSub, Nat.reduceMul, Nat.reduceDiv, Nat.reduceMod, Nat.reduceLeDiff, Nat.reduceBEq, Int.reduceToNat, Int.reduceLT, Int.reduceLE, Int.reduceEq] at IH
          simp only [go_sem, Nat.reduceAdd, Nat.reduceSub, Nat.reduceMul, Nat.reduceDiv, Nat.reduceMod, Nat.reduceLeDiff, Nat.reduceBEq, Int.reduceToNat, Int.reduceLT, Int.reduceLE, Int.reduceEq, lt_t h2, h1, c1, h6, ht, c2]
          exact IH
def wid (l : List Sp) : Nat × Bool := wids l l 0 (0, false)
theorem ok84 (n : Nat) (b : Bool) (l : List Sp) (hl : l.length < 1000000000) : callP (level E (n+1)) 84 [slD b 2 (l.map enS)] = some (.tup [.int .i64 (wid l).1, .bool (wid l).2]) := by
  have h := l84 (lo := level E n) (b := b) hl l 0 (0, false) rfl (by simp)
  rw [cast0] at h
  rw [p84]
  simp only [go_sem, Nat.reduceAdd, Nat.reduceSub, Nat.reduceMul, Nat.reduceDiv, Nat.reduceMod, Nat.reduceLeDiff, Nat.reduceBEq, Int.reduceToNat, Int.reduceLT, Int.reduceLE, Int.reduceEq, h, wid]
theorem ok86 (n : Nat) (s : Sp) : callP (level E (n+1)) 86 [.agg (enS s)] = some (.int .i64 s.lo) := by
  rw [p86]; simp only [go_sem, Nat.reduceAdd, Nat.reduceSub, Nat.reduceMul, Nat.reduceDiv, Nat.reduceMod, Nat.reduceLeDiff, Nat.reduceBEq, Int.reduceToNat, Int.reduceLT, Int.reduceLE, Int.reduceEq]
def nar (c : Cl) (v : Nat) (s : Sp) : Cl := { c with sn := false, sp := c.sp.set v s }
theorem ok87 (n : Nat) (c : Cl) (v : Nat) (s : Sp) (b : Int) (hv : c.sp[v]? = some s) (hb : c.sp.length < 1000000000) :
    callP (level E (n+3)) 87 [.agg (enC c), .int .i64 v, .int .i64 b] = some (.agg (enC (nar c v ⟨s.lo, b⟩) ++ enC (nar c v ⟨ad b 1, s.hi⟩))) := by
  obtain ⟨sn, sp, gn, gv, go⟩ := c
  simp only at hv hb
  have hvl : v < sp.length := (List.getElem?_eq_some_iff.1 hv).1
  cases sp with
  | nil => simp at hvl
  | cons x sp =>
    obtain ⟨N, hN⟩ : ∃ N, N = sp.length + 1 := ⟨_, rfl⟩
    have h101 := ok101 (n+1) sn ((x :: sp).map enS) (by simpa using hb)
    have u := rnd_eq (aCode (level E (n+2)) ⟨0, false⟩ b87_0)
    have i0 : (0 : Int) < ((2 : Nat) : Int) := by decide
    have i1 : (1 : Int) < ((2 : Nat) : Int) := by decide
    have hvN : (v : Int) < (N : Int) := by simp at hvl; omega
    have hm : ((x :: sp).map enS)[v]? = some (enS s) := by rw [List.getElem?_map, hv]; rfl
    have q1 : (v * 2 + 1) / 2 = v := by omega
    have q2 : (v * 2 + 1) % 2 = 1 := by omega
    have q3 : v * 2 / 2 = v := by omega
    have q4 : v * 2 % 2 = 0 := by omega
    have z1 : (List.map enS (x :: sp)).set v [.int .i64 s.lo, .int .i64 b] = ((x :: sp).set v ⟨s.lo, b⟩).map enS := by rw [List.map_set]; rfl
    have z2 : (List.map enS (x :: sp)).set v [.int .i64 (wrp .i64 (b + 1)), .int .i64 s.hi] = ((x :: sp).set v ⟨ad b 1, s.hi⟩).map enS := by rw [List.map_set]; rfl
    have g1 : ((x :: sp).set v ⟨s.lo, b⟩).length = N := by simp [hN]
    have g2 : ((x :: sp).set v ⟨ad b 1, s.hi⟩).length = N := by simp [hN]
    have r1 : nar ⟨sn, x :: sp, gn, gv, go⟩ v ⟨s.lo, b⟩ = ⟨false, (x :: sp).set v ⟨s.lo, b⟩, gn, gv, go⟩ := rfl
    have r2 : nar ⟨sn, x :: sp, gn, gv, go⟩ v ⟨ad b 1, s.hi⟩ = ⟨false, (x :: sp).set v ⟨ad b 1, s.hi⟩, gn, gv, go⟩ := rfl
    rw [r1, r2]
    generalize hZ1 : (x :: sp).set v ⟨s.lo, b⟩ = Z1 at z1 g1
    generalize hZ2 : (x :: sp).set v ⟨ad b 1, s.hi⟩ = Z2 at z2 g2
    have t1 : (Z1.map enS).take N = Z1.map enS := take_self (by simpa using g1)
    have t2 : (Z2.map enS).take N = Z2.map enS := take_self (by simpa using g2)
    have t3 : N ≤ Z1.length := by omega
    have t4 : N ≤ Z2.length := by omega
    rw [p87]
    simp only [go_sem, Nat.reduceAdd, Nat.reduceSub, Nat.reduceMul, Nat.reduceDiv, Nat.reduceMod, Nat.reduceLeDiff, Nat.reduceBEq, Int.reduceToNat, Int.reduceLT, Int.reduceLE, Int.reduceEq] at hm z1 z2
    simp only [go_sem, Nat.reduceAdd, Nat.reduceSub, Nat.reduceMul, Nat.reduceDiv, Nat.reduceMod, Nat.reduceLeDiff, Nat.reduceBEq, Int.reduceToNat, Int.reduceLT, Int.reduceLE, Int.reduceEq, slD_cons] at h101
    simp only [go_sem, Nat.reduceAdd, Nat.reduceSub, Nat.reduceMul, Nat.reduceDiv, Nat.reduceMod, Nat.reduceLeDiff, Nat.reduceBEq, Int.reduceToNat, Int.reduceLT, Int.reduceLE, Int.reduceEq, u, slD_cons, sg_slD, h101, clV, clO, i0, i1, ← hN, hvN, Int.natCast_nonneg, q1, q2, q3, q4, hm, z1, z2, t1, t2, t3, t4, slD_f]
end Go.Vm.P12

/- Chapter 12, the reference's functions: errors. -/
set_option maxRecDepth 100000
namespace Go.Vm.P12
open Go Go.Vm
def rSp1 (s : Sp) : Int := fnz [ckR s.lo (-1048576) 1048576, ckR s.hi (-1048576) 1048576, if decide (s.hi < s.lo) then 9 else 0]
def rSpErr (l : List Sp) : Int := if 6 < l.length then 5 else fnz (l.map rSp1)
theorem l39 {n : Nat} {b : Bool} {l : List Sp} (hl : l.length < 1000000000) : ∀ (r : List Sp) (i : Nat), l.drop i = r →
    outC ⟨0, false⟩ [0, 1, 0, 0, 0, 0, 0] (rnd (aCode (level E (n+2)) ⟨0, false⟩ b39_0) (head ⟨0, false⟩ [1, 0, 1, 0, 0, 0, 0]) ⟨[.imm (slD b 2 (l.map enS)), .junk, .imm (.int .i64 i), .junk, .junk, .junk, .junk], [], none⟩) =
      some (if fnz (r.map rSp1) = 0 then (.exit 0, ⟨[.junk, .junk, .junk, .junk, .junk, .junk, .junk], [], none⟩) else (.ret, ⟨[.junk, .imm (.int .i64 (fnz (r.map rSp1))), .junk, .junk, .junk, .junk, .junk], [], none⟩))
  | [], i, h => by
    rw [rnd_eq]
    simp only [go_sem, Nat.reduceAdd, Nat.reduceSub, Nat.reduceMul, Nat.reduceDiv, Nat.reduceMod, Nat.reduceLeDiff, Nat.reduceBEq, Int.reduceToNat, Int.reduceLT, Int.reduceLE, Int.reduceEq, lt_f (drop_n h), fnz]
  | x :: r, i, h => by
    obtain ⟨h1, h2, h3⟩ := drop_c h
    have IH := l39 (n := n) (b := b) hl r (i + 1) h3
    have h6 := wrpS (i := i) (by omega)
    have hs : fnz [ckR x.lo (-1048576) 1048576, ckR x.hi (-1048576) 1048576, if decide (x.hi < x.lo) then 9 else 0] = rSp1 x := rfl
    rw [rnd_eq, List.map_cons, fnz_cons]
    by_cases h0 : rSp1 x = 0 <;> simp only [go_sem, Nat.reduceAdd, Nat.reduceSub, Nat.reduceMul, Nat.reduceDiv, Nat.reduceMod, Nat.reduceLeDiff, Nat.reduceBEq, Int.reduceToNat, Int.reduceLT, Int.reduceLE, Int.reduceEq, lt_t h2, h1, ok17, ok42, ok16_3, hs, h0, ne_eq, not_true_eq_false, not_false_eq_true, h6]
    exact IH
theorem ok39 (n : Nat) (b : Bool) (l : List Sp) (hl : l.length < 1000000000) : callP (level E (n+3)) 39 [slD b 2 (l.map enS)] = some (.int .i64 (rSpErr l)) := by
  have h := l39 (n := n) (b := b) hl l 0 rfl
  rw [cast0] at h
  rw [p39]
  by_cases h5 : 6 < l.length
  · have h5' : (6 : Int) < l.length := by omega
    simp only [go_sem, Nat.reduceAdd, Nat.reduceSub, Nat.reduceMul, Nat.reduceDiv, Nat.reduceMod, Nat.reduceLeDiff, Nat.reduceBEq, Int.reduceToNat, Int.reduceLT, Int.reduceLE, Int.reduceEq, h5', rSpErr, h5]
  · have h5' : ¬ (6 : Int) < l.length := by omega
    simp only [go_sem, Nat.reduceAdd, Nat.reduceSub, Nat.reduceMul, Nat.reduceDiv, Nat.reduceMod, Nat.reduceLeDiff, Nat.reduceBEq, Int.reduceToNat, Int.reduceLT, Int.reduceLE, Int.reduceEq, h5', rSpErr, h5]
    rw [h]
    by_cases h0 : fnz (l.map rSp1) = 0 <;> simp only [go_sem, Nat.reduceAdd, Nat.reduceSub, Nat.reduceMul, Nat.reduceDiv, Nat.reduceMod, Nat.reduceLeDiff, Nat.reduceBEq, Int.reduceToNat, Int.reduceLT, Int.reduceLE, Int.reduceEq, h0]
def ckC (x : Int) : Int := ckR x (-1048576) 1048576
def rLnErr (x : Ln) (vars : Nat) : Int := if x.co.length ≠ vars then 2 else if fnz (x.co.map ckC) = 0 then ckR x.c (-1099511627776) 1099511627776 else fnz (x.co.map ckC)
theorem l38 {n : Nat} {b : Bool} {l : List Int} {c : Int} (hl : l.length < 1000000000) : ∀ (r : List Int) (i : Nat), l.drop i = r →
    outC ⟨0, false⟩ [0, 0, 1, 1, 0, 0, 0, 0, 0] (rnd (aCode (level E (n+2)) ⟨0, false⟩ b38_0) (head ⟨0, false⟩ [0, 1, 0, 1, 1, 0, 0, 0, 0]) ⟨[.junk, .imm (.int .i64 l.length), .junk, .ptr 0 0, .imm (.int .i64 i), .junk, .junk, .junk, .junk], [.box [.imm (slD b 1 (l.map ic)), .imm (.int .i64 c)]], none⟩) =
      some (if fnz (r.map ckC) = 0 then (.exit 0, ⟨[.junk, .junk, .junk, .ptr 0 0, .junk, .junk, .junk, .junk, .junk], [.box [.imm (slD b 1 (l.map ic)), .imm (.int .i64 c)]], none⟩) else (.ret, ⟨[.junk, .junk, .imm (.int .i64 (fnz (r.map ckC))), .ptr 0 0, .junk, .junk, .junk, .junk, .junk], [.box [.imm (slD b 1 (l.map ic)), .imm (.int .i64 c)]], none⟩))
  | [], i, h => by
    rw [rnd_eq]
    simp only [go_sem, Nat.reduceAdd, Nat.reduceSub, Nat.reduceMul, Nat.reduceDiv, Nat.reduceMod, Nat.reduceLeDiff, Nat.reduceBEq, Int.reduceToNat, Int.reduceLT, Int.reduceLE, Int.reduceEq, lt_f (drop_n h), fnz]
  | x :: r, i, h => by
    obtain ⟨h1, h2, h3⟩ := drop_c h
    have IH := l38 (n := n) (b := b) (c := c) hl r (i + 1) h3
    have h6 := wrpS (i := i) (by omega)
    have hs : ckR x (-1048576) 1048576 = ckC x := rfl
    rw [rnd_eq, List.map_cons, fnz_cons]
    by_cases h0 : ckC x = 0 <;> simp only [go_sem, Nat.reduceAdd, Nat.reduceSub, Nat.reduceMul, Nat.reduceDiv, Nat.reduceMod, Nat.reduceLeDiff, Nat.reduceBEq, Int.reduceToNat, Int.reduceLT, Int.reduceLE, Int.reduceEq, lt_t h2, h1, ok17, hs, h0, ne_eq, not_true_eq_false, not_false_eq_true, h6]
    exact IH
theorem ok38 (n : Nat) (x : Ln) (vars : Nat) (hl : x.co.length < 1000000000) : callP (level E (n+3)) 38 [.agg (enL x), .int .i64 vars] = some (.int .i64 (rLnErr x vars)) := by
  have h := l38 (n := n) (b := x.nl) (c := x.c) hl x.co 0 rfl
  rw [cast0] at h
  rw [p38]
  by_cases h5 : x.co.length = vars
  · subst h5
    by_cases h0 : fnz (x.co.map ckC) = 0 <;> simp only [go_sem, Nat.reduceAdd, Nat.reduceSub, Nat.reduceMul, Nat.reduceDiv, Nat.reduceMod, Nat.reduceLeDiff, Nat.reduceBEq, Int.reduceToNat, Int.reduceLT, Int.reduceLE, Int.reduceEq, sg_slD, ne_eq, not_true_eq_false, rLnErr, h, h0, ok17]
  · have h5' : ¬ (x.co.length : Int) = vars := by omega
    simp only [go_sem, Nat.reduceAdd, Nat.reduceSub, Nat.reduceMul, Nat.reduceDiv, Nat.reduceMod, Nat.reduceLeDiff, Nat.reduceBEq, Int.reduceToNat, Int.reduceLT, Int.reduceLE, Int.reduceEq, sg_slD, ne_eq, h5, h5', not_false_eq_true, rLnErr]
def rClErr (c : Cl) : Int := if rSpErr c.sp = 0 then (if (12 : Int) < c.gv.length then 5 else if fnz (c.gv.map fun l => rLnErr l c.sp.length) = 0 then rLnErr c.go c.sp.length else fnz (c.gv.map fun l => rLnErr l c.sp.length)) else rSpErr c.sp
theorem l12 {n : Nat} {c : Cl} (hf : c.Fit) : ∀ (r : List Ln) (i : Nat), c.gv.drop i = r →
    outC ⟨0, false⟩ [0, 1, 1, 0, 0, 0, 0, 0, 0, 0] (rnd (aCode (level E (n+3)) ⟨0, false⟩ b12_0) (head ⟨0, false⟩ [0, 0, 1, 0, 1, 0, 0, 0, 0, 0]) ⟨[.junk, .junk, .ptr 0 0, .junk, .imm (.int .i64 i), .junk, .junk, .junk, .junk, .junk], [.box ((enC c).map .imm)], none⟩) =
      some (if fnz (r.map fun l => rLnErr l c.sp.length) = 0 then (.exit 0, ⟨[.junk, .junk, .ptr 0 0, .junk, .junk, .junk, .junk, .junk, .junk, .junk], [.box ((enC c).map .imm)], none⟩) else (.ret, ⟨[.junk, .imm (.int .i64 (fnz (r.map fun l => rLnErr l c.sp.length))), .ptr 0 0, .junk, .junk, .junk, .junk, .junk, .junk, .junk], [.box ((enC c).map .imm)], none⟩))
  | [], i, h => by
    rw [rnd_eq]
    simp only [go_sem, Nat.reduceAdd, Nat.reduceSub, Nat.reduceMul, Nat.reduceDiv, Nat.reduceMod, Nat.reduceLeDiff, Nat.reduceBEq, Int.reduceToNat, Int.reduceLT, Int.reduceLE, Int.reduceEq, lt_f (drop_n h), fnz]
  | x :: r, i, h => by
    obtain ⟨h1, h2, h3⟩ := drop_c h
    have IH := l12 (n := n) hf r (i + 1) h3
    have hg := hf.gv
    have h6 := wrpS (i := i) (by omega)
    have h38 := ok38 n x c.sp.length (hf.ln x (List.mem_of_getElem? h1))
    rw [rnd_eq, List.map_cons, fnz_cons]
    simp only [go_sem, Nat.reduceAdd, Nat.reduceSub, Nat.reduceMul, Nat.reduceDiv, Nat.reduceMod, Nat.reduceLeDiff, Nat.reduceBEq, Int.reduceToNat, Int.reduceLT, Int.reduceLE, Int.reduceEq] at h38 IH
    by_cases h0 : rLnErr x c.sp.length = 0 <;> simp only [go_sem, Nat.reduceAdd, Nat.reduceSub, Nat.reduceMul, Nat.reduceDiv, Nat.reduceMod, Nat.reduceLeDiff, Nat.reduceBEq, Int.reduceToNat, Int.reduceLT, Int.reduceLE, Int.reduceEq, lt_t h2, h1, h38, h0, ne_eq, not_true_eq_false, not_false_eq_true, h6]
    exact IH
theorem ok12 (n : Nat) (c : Cl) (hf : c.Fit) : callP (level E (n+4)) 12 [.agg (enC c)] = some (.int .i64 (rClErr c)) := by
  have h39 := ok39 n c.sn c.sp hf.sp
  have hg := l12 (n := n) hf c.gv 0 rfl
  have h38 := ok38 n c.go c.sp.length hf.go
  rw [cast0] at hg
  rw [p12]
  simp only [go_sem, Nat.reduceAdd, Nat.reduceSub, Nat.reduceMul, Nat.reduceDiv, Nat.reduceMod, Nat.reduceLeDiff, Nat.reduceBEq, Int.reduceToNat, Int.reduceLT, Int.reduceLE, Int.reduceEq] at h38 hg
  by_cases h0 : rSpErr c.sp = 0
  · by_cases h1 : (12 : Int) < c.gv.length
    · simp only [go_sem, Nat.reduceAdd, Nat.reduceSub, Nat.reduceMul, Nat.reduceDiv, Nat.reduceMod, Nat.reduceLeDiff, Nat.reduceBEq, Int.reduceToNat, Int.reduceLT, Int.reduceLE, Int.reduceEq, sg_slD, h39, h0, ne_eq, not_true_eq_false, h1, rClErr]
    · by_cases h2 : fnz (c.gv.map fun l => rLnErr l c.sp.length) = 0 <;> simp only [go_sem, Nat.reduceAdd, Nat.reduceSub, Nat.reduceMul, Nat.reduceDiv, Nat.reduceMod, Nat.reduceLeDiff, Nat.reduceBEq, Int.reduceToNat, Int.reduceLT, Int.reduceLE, Int.reduceEq, sg_slD, h39, h0, ne_eq, not_true_eq_false, h1, hg, h2, h38, rClErr]
  · simp only [go_sem, Nat.reduceAdd, Nat.reduceSub, Nat.reduceMul, Nat.reduceDiv, Nat.reduceMod, Nat.reduceLeDiff, Nat.reduceBEq, Int.reduceToNat, Int.reduceLT, Int.reduceLE, Int.reduceEq, sg_slD, h39, h0, ne_eq, not_false_eq_true, rClErr]
end Go.Vm.P12

/- Chapter 12, the reference's functions: sums of lines, right leaves. -/
set_option maxRecDepth 100000
namespace Go.Vm.P12
open Go Go.Vm
def vK (k sz : Nat) (acc : List (List D)) : AV := match acc with | [] => .imm .nil | _ => .ref k sz 0 acc.length
def oK (sz : Nat) (acc : List (List D)) : List AO := match acc with | [] => [] | _ => [.arr sz acc]
end Go.Vm.P12

/- Chapter 12, the reference's functions: the direct leaf. -/
set_option maxRecDepth 100000
namespace Go.Vm.P12
open Go Go.Vm
def zBox : AO := .box [.imm (.bool false), .imm (.int .i64 0), .imm .nil, .imm .nil, .imm .nil, .imm (.int .i64 0), .imm (.int .i64 0), .imm (.int .i64 0), .imm (.int .i64 0)]
attribute [go_sem] zBox
end Go.Vm.P12

/- Evaluating: calls that share blocks; copies. -/
namespace Go.Vm
open Go
section
variable {lo : Lower} {env vars vs : List AV} {st st2 : List AO} {ext : Option Ext} {f : FuncId} {l : List Nat} {n i j m : Nat} {v : AV} {p q : List AV}
def bkM (l : List Nat) (n : Nat) (j : Nat) : Option Nat := if j < l.length then l[j]? else some (n + (j - l.length))
def bk2 (l : List Nat) (n j : Nat) (b : Bool) : Option Nat := match b with | true => l[j]? | false => some (n + (j - l.length))
theorem bk_eq : bkM l n j = bk2 l n j (decide (j < l.length)) := by
  simp only [bkM, bk2]
  by_cases h : j < l.length <;> simp [h]
theorem bk_t : bk2 l n j true = l[j]? := id rfl
theorem bk_f : bk2 l n j false = some (n + (j - l.length)) := id rfl
def siC (m : Nat → Option Nat) (st2 st : List AO) (i : Nat) (o : Option Nat) : AO := match o with | some j => renO m (st2.getD j .dead) | none => st.getD i .dead
theorem si_some {m : Nat → Option Nat} : siC m st2 st i (some j) = renO m (st2.getD j .dead) := id rfl
theorem si_none {m : Nat → Option Nat} : siC m st2 st i none = st.getD i .dead := id rfl
def cuC (vars : List AV) (st : List AO) (l : List Nat) (r : Option (AV × List AO)) : Option (AV × S) := match r with
  | some (v, st2) => some (ren (bkM l st.length) v, ⟨vars, (List.range st.length).map (fun i => siC (bkM l st.length) st2 st i (idx l i)) ++ (st2.drop l.length).map (renO (bkM l st.length)), none⟩)
  | none => none
theorem cu_some : cuC vars st l (some (v, st2)) = some (ren (bkM l st.length) v, ⟨vars, (List.range st.length).map (fun i => siC (bkM l st.length) st2 st i (idx l i)) ++ (st2.drop l.length).map (renO (bkM l st.length)), none⟩) := id rfl
def csC (lo : Lower) (f : FuncId) (vars : List AV) (st : List AO) (all : List AV) (l : List Nat) (ok : Bool) : Option (AV × S) := match ok with
  | true => cuC vars st l (callS lo f (renL (idx l) all) (pickSt (idx l) l st))
  | false => none
theorem cs_true {all : List AV} : csC lo f vars st all l true = cuC vars st l (callS lo f (renL (idx l) all) (pickSt (idx l) l st)) := id rfl
def crC (lo : Lower) (vars : List AV) (st : List AO) (f : FuncId) (all : List AV) (l : List Nat) : Option (AV × S) := csC lo f vars st all l (l.all fun i => decide (i < st.length))
theorem cr_eq {all : List AV} : crC lo vars st f all l = csC lo f vars st all l (l.all fun i => decide (i < st.length)) := id rfl
def cwC (lo : Lower) (vars : List AV) (st : List AO) (vs : List AV) (r : Option (FuncId × List AV × List AV)) : Option (AV × S) := match r with
  | none => none
  | some (f, a, b) => crC lo vars st f (a ++ vs ++ b) (reach st 1000 [] (idsL (a ++ vs ++ b)))
theorem cw_some : cwC lo vars st vs (some (f, p, q)) = crC lo vars st f (p ++ vs ++ q) (reach st 1000 [] (idsL (p ++ vs ++ q))) := id rfl
theorem op_callS {fo : Opnd} {args : List Opnd} (h : (fnOf (opnd vars env fo)).isSome = true) : aOp lo vars env ⟨vars, st, none⟩ (.call .sh fo args) = cwC lo vars st (opnds vars env args) (fnOf (opnd vars env fo)) := by
  simp only [aOp, aCall]
  split
  · rename_i e; rw [e] at h; cases h
  · simp only [cwC]
    rcases fnOf (opnd vars env fo) with _ | ⟨f, a, b⟩
    · rfl
    · simp only [crC, Option.isSome_none, Bool.false_or]
      cases ha : (reach st 1000 [] (idsL (a ++ opnds vars env args ++ b))).all (fun i => decide (i < st.length))
      · simp only [Bool.not_false, if_true, csC]
      · simp only [Bool.not_true, Bool.false_eq_true, if_false, csC, cuC]
        rcases callS lo f (renL (idx (reach st 1000 [] (idsL (a ++ opnds vars env args ++ b)))) (a ++ opnds vars env args ++ b)) (pickSt (idx (reach st 1000 [] (idsL (a ++ opnds vars env args ++ b)))) (reach st 1000 [] (idsL (a ++ opnds vars env args ++ b))) st) with _ | ⟨v, st2⟩
        · rfl
        · rfl
theorem callS_go {E : Env} {n : Nat} {f : FuncId} {fn : IFn} {c : IR} {r : List RV} {vars : List AV} (h : E.fn f = some fn) (h1 : fn.body = c) (h2 : fn.res = r) (h3 : decide (fn.np < vs.length) = false) (h4 : vs ++ List.replicate (fn.nv - vs.length) .junk = vars) :
    callS (level E (n + 1)) f vs st = psC st.length (fin r (aCode (level E n) ⟨st.length, false⟩ c ⟨vars, st, none⟩)) := by
  rw [callS_eq h, run_eq h3, h1, h2, h4]
def coK (st : List AO) (vars : List AV) (ext : Option Ext) (id sz a n : Nat) (es : List (List D)) (o : Option AO) : Option (AV × S) := match o with
  | some (.arr sz1 old) => if sz1 = sz ∧ a + n ≤ old.length then some (.imm (.int .i64 (min es.length n : Nat)), ⟨vars, st.set id (.arr sz (Vm.setRange old a (es.take (min es.length n)))), ext⟩) else none
  | some (.box cs) => if (a + n) * sz ≤ cs.length ∧ (es.take (min es.length n)).flatten.length = (min es.length n) * sz then some (.imm (.int .i64 (min es.length n : Nat)), ⟨vars, st.set id (.box (Vm.setRange cs (a * sz) ((es.take (min es.length n)).flatten.map .imm))), ext⟩) else none
  | _ => none
def coC (st : List AO) (vars : List AV) (ext : Option Ext) (sz : Nat) (d : AV) (r : Option (Nat × List (List D))) : Option (AV × S) := match d, r with
  | .ref id sz1 a n, some (sz2, es) => if sz1 = sz ∧ (es = [] ∨ sz2 = sz) then coK st vars ext id sz a n es st[id]? else none
  | .imm .nil, some _ => some (.imm (.int .i64 0), ⟨vars, st, ext⟩)
  | .e0 _, some _ => some (.imm (.int .i64 0), ⟨vars, st, ext⟩)
  | _, _ => none
theorem op_copy {sz : Nat} {d x : Opnd} : aOp lo vars env ⟨vars, st, ext⟩ (.copy sz d x) = coC st vars ext sz (opnd vars env d) (srcOf st (opnd vars env x)) := by
  simp only [aOp, coC]
  cases opnd vars env d with
  | ref id sz1 a n =>
    rcases srcOf st (opnd vars env x) with _ | ⟨sz2, es⟩
    · rfl
    · simp only
      by_cases h : sz1 = sz ∧ (es = [] ∨ sz2 = sz)
      · simp only [h, and_self, if_true, coK]
        rcases st[id]? with _ | o
        · rfl
        · cases o <;> rfl
      · simp only [h, if_false]
  | imm d => cases d <;> rcases srcOf st (opnd vars env x) with _ | ⟨sz2, es⟩ <;> rfl
  | _ => rcases srcOf st (opnd vars env x) with _ | ⟨sz2, es⟩ <;> rfl
theorem co_ref {id sz a : Nat} {es : List (List D)} : coC st vars ext sz (.ref id sz a n) (some (sz, es)) = coK st vars ext id sz a n es st[id]? := by simp [coC]
theorem co_ref0 {id sz a : Nat} : coC st vars ext sz (.ref id sz a n) (some (m, [])) = coK st vars ext id sz a n [] st[id]? := by simp [coC]
theorem ck_arr {id sz a : Nat} {es old : List (List D)} (h : a + n ≤ old.length) : coK st vars ext id sz a n es (some (.arr sz old)) = some (.imm (.int .i64 (min es.length n : Nat)), ⟨vars, st.set id (.arr sz (Vm.setRange old a (es.take (min es.length n)))), ext⟩) := by simp [coK, h]
theorem mf_none' {f : FuncId} {x y : List AV} {p : Option (List D)} : mfC f x y none p = .clo f x y := id rfl
end
attribute [go_sem] mf_none' bk_eq bk_t bk_f si_some si_none cu_some cs_true cr_eq cw_some op_callS op_copy co_ref co_ref0 ck_arr ps_some
end Go.Vm

/- Chapter 12, functions: the decision. -/
set_option maxRecDepth 100000
namespace Go.Vm.P12
open Go Go.Vm
structure DR where
  t : Nat
  st : List Stp
  ok : Bool
  pt : List Int
  e : Int
def shr1 (a : Int) : Int := a.fdiv 2
def splitOf (v : Nat) (b k0 k1 : Int) : Stp := ⟨false, 0, true, [], true, [], true, [], v, b, k0, k1⟩
def dec : Nat → Nat → Cl → List Stp → DR
  | 0, t, _, st => ⟨t, st, false, [], 30⟩
  | _ + 1, 0, _, st => ⟨0, st, false, [], 30⟩
  | f + 1, t + 1, c, st => match dir c with
    | some s => ⟨t, st ++ [s], true, [], 0⟩
    | none => match (wid c.sp).2 with
      | false => ⟨t, st, false, c.sp.map (·.lo), 0⟩
      | true =>
        let v := (wid c.sp).1
        let s := c.sp.getD v ⟨0, 0⟩
        let b := shr1 (ad s.lo s.hi)
        let r1 := dec f t (nar c v ⟨s.lo, b⟩) st
        match r1.ok with
        | false => ⟨r1.t, r1.st, false, r1.pt, r1.e⟩
        | true =>
          let r2 := dec f r1.t (nar c v ⟨ad b 1, s.hi⟩) r1.st
          match r2.ok with
          | false => ⟨r2.t, r2.st, false, r2.pt, r2.e⟩
          | true => ⟨r2.t, r2.st ++ [splitOf v b (sb r1.st.length 1) (sb r2.st.length 1)], true, [], 0⟩
theorem dec_inv : ∀ (f t : Nat) (c : Cl) (st : List Stp), (dec f t c st).t ≤ t ∧ (dec f t c st).st.length + (dec f t c st).t ≤ st.length + t ∧ (∃ z, (dec f t c st).st = st ++ z) ∧ ((dec f t c st).ok = true → st.length < (dec f t c st).st.length)
  | 0, t, c, st => by simp [dec]
  | f + 1, 0, c, st => by simp [dec]
  | f + 1, t + 1, c, st => by
    simp only [dec]
    cases dir c with
    | some s => simp <;> omega
    | none =>
      simp only
      cases (wid c.sp).2
      · simp <;> omega
      · simp only
        obtain ⟨a1, a2, ⟨z1, a3⟩, a4⟩ := dec_inv f t (nar c (wid c.sp).1 ⟨(c.sp.getD (wid c.sp).1 ⟨0, 0⟩).lo, shr1 (ad (c.sp.getD (wid c.sp).1 ⟨0, 0⟩).lo (c.sp.getD (wid c.sp).1 ⟨0, 0⟩).hi)⟩) st
        generalize dec f t (nar c (wid c.sp).1 ⟨(c.sp.getD (wid c.sp).1 ⟨0, 0⟩).lo, shr1 (ad (c.sp.getD (wid c.sp).1 ⟨0, 0⟩).lo (c.sp.getD (wid c.sp).1 ⟨0, 0⟩).hi)⟩) st = r1 at a1 a2 a3 a4
        cases h1 : r1.ok
        · simp only
          exact ⟨by omega, by omega, ⟨z1, a3⟩, fun h => by cases h⟩
        · simp only
          obtain ⟨b1, b2, ⟨z2, b3⟩, b4⟩ := dec_inv f r1.t (nar c (wid c.sp).1 ⟨ad (shr1 (ad (c.sp.getD (wid c.sp).1 ⟨0, 0⟩).lo (c.sp.getD (wid c.sp).1 ⟨0, 0⟩).hi)) 1, (c.sp.getD (wid c.sp).1 ⟨0, 0⟩).hi⟩) r1.st
          generalize dec f r1.t (nar c (wid c.sp).1 ⟨ad (shr1 (ad (c.sp.getD (wid c.sp).1 ⟨0, 0⟩).lo (c.sp.getD (wid c.sp).1 ⟨0, 0⟩).hi)) 1, (c.sp.getD (wid c.sp).1 ⟨0, 0⟩).hi⟩) r1.st = r2 at b1 b2 b3 b4
          cases h2 : r2.ok
          · simp only
            exact ⟨by omega, by omega, ⟨z1 ++ z2, by rw [b3, a3]; simp⟩, fun h => by cases h⟩
          · simp only [List.length_append, List.length_singleton]
            have := a4 h1
            have := b4 h2
            exact ⟨by omega, by omega, ⟨_, by rw [b3, a3, List.append_assoc, List.append_assoc]⟩, fun _ => by omega⟩
theorem wids_lt (l : List Sp) : ∀ (r : List Sp) (i : Nat) (st : Nat × Bool), l.drop i = r → (st.2 = true → st.1 < l.length) → (wids l r i st).2 = true → (wids l r i st).1 < l.length
  | [], i, st, h, hst, hw => hst hw
  | s :: r, i, st, h, hst, hw => by
    obtain ⟨h1, h2, h3⟩ := drop_c h
    refine wids_lt l r (i + 1) _ h3 ?_ hw
    split
    · intro _; exact h2
    · exact hst
theorem wid_lt {l : List Sp} (h : (wid l).2 = true) : (wid l).1 < l.length := wids_lt l l 0 _ rfl (by simp) h
theorem nar_even {c : Cl} (hc : c.Even) (v : Nat) (s : Sp) : (nar c v s).Even :=
  ⟨⟨by simpa [nar] using hc.fit.sp, hc.fit.gv, hc.fit.ln, hc.fit.go⟩, fun g hg => by rw [hc.gv g hg]; simp [nar], by rw [show (nar c v s).go = c.go from rfl, hc.go]; simp [nar]⟩
def stD (t : Nat) (st : List Stp) : List AO := match st with
  | [] => [.box [.imm (.int .i64 t), .imm .nil]]
  | _ => [.box [.imm (.int .i64 t), .ref 1 9 0 st.length], .arr 9 (st.map enT)]
def rsD (st : List Stp) (r : DR) : List AO := match st with
  | [] => stD r.t r.st
  | _ => if r.st.length = st.length then stD r.t st else [.box [.imm (.int .i64 r.t), .ref 2 9 0 r.st.length], .dead, .arr 9 (r.st.map enT)]
def rsV (r : DR) : AV := .imm (.tup [.bool r.ok, slD true 1 (r.pt.map ic), .int .i64 r.e])
theorem ok60 (n : Nat) : ∀ (f t : Nat) (c : Cl) (st : List Stp), c.Even → st.length + t < 1000000000 → t ≤ f →
    callS (level E (n + f + 9)) 60 [.ptr 0 0, .imm (.agg (enC c))] (stD t st) = some (rsV (dec f t c st), rsD st (dec f t c st))
  | 0, t, c, st, hc, hb, ht => by
    have : t = 0 := by omega
    subst this
    rw [callS_go (n := n + 0 + 8) (fn := ir60) (c := c60) (r := [.v 2, .v 3, .v 4]) rfl rfl rfl rfl rfl]
    cases st <;> simp only [go_sem, Nat.reduceAdd, Nat.reduceSub, Nat.reduceMul, Nat.reduceDiv, Nat.reduceMod, Nat.reduceLeDiff, Nat.reduceLT, Nat.reduceBEq, Int.reduceToNat, Int.reduceLT, Int.reduceLE, Int.reduceEq, stD, ir60, sg_slD, dec, rsV, rsD, slD_nil]
  | f + 1, 0, c, st, hc, hb, ht => by
    rw [callS_go (n := n + (f + 1) + 8) (fn := ir60) (c := c60) (r := [.v 2, .v 3, .v 4]) rfl rfl rfl rfl rfl]
    cases st <;> simp only [go_sem, Nat.reduceAdd, Nat.reduceSub, Nat.reduceMul, Nat.reduceDiv, Nat.reduceMod, Nat.reduceLeDiff, Nat.reduceLT, Nat.reduceBEq, Int.reduceToNat, Int.reduceLT, Int.reduceLE, Int.reduceEq, stD, ir60, sg_slD, dec, rsV, rsD, slD_nil]
  | f + 1, t + 1, c, st, hc, hb, ht => by
    have h52 : callP (level E (n + f + 9)) 52 [.agg (enC c)] = some (dirD c) := ok52 (n + f + 1) c hc
    have h84 : callP (level E (n + f + 9)) 84 [slD c.sn 2 (c.sp.map enS)] = some (.tup [.int .i64 (wid c.sp).1, .bool (wid c.sp).2]) := ok84 (n + f + 8) c.sn c.sp hc.fit.sp
    have e0 : ¬ ((t + 1 : Nat) : Int) = 0 := by omega
    have e1 : wrp .i64 (((t + 1 : Nat) : Int) - 1) = (t : Int) := by rw [wrp_ok (by omega)]; omega
    rw [show n + (f + 1) + 9 = n + f + 9 + 1 by omega, callS_go (n := n + f + 9) (fn := ir60) (c := c60) (r := [.v 2, .v 3, .v 4]) rfl rfl rfl rfl rfl]
    simp only [dec]
    unfold dirD at h52
    cases hd : dir c with
    | some s =>
      rw [hd] at h52
      simp only [go_sem, Nat.reduceAdd, Nat.reduceSub, Nat.reduceMul, Nat.reduceDiv, Nat.reduceMod, Nat.reduceLeDiff, Nat.reduceLT, Nat.reduceBEq, Int.reduceToNat, Int.reduceLT, Int.reduceLE, Int.reduceEq] at h52
      cases st with
      | nil => simp only [go_sem, Nat.reduceAdd, Nat.reduceSub, Nat.reduceMul, Nat.reduceDiv, Nat.reduceMod, Nat.reduceLeDiff, Nat.reduceLT, Nat.reduceBEq, Int.reduceToNat, Int.reduceLT, Int.reduceLE, Int.reduceEq, stD, ir60, sg_slD, e0, e1, h52, rsV, rsD, slD_nil]
      | cons a st =>
        have h5 : (st.length + 1 + 1) * 121 ≤ 70368744177664 := by simp at hb; omega
        have hne : ¬ (st.length + 1 + 1 = st.length + 1) := by omega
        simp only [go_sem, Nat.reduceAdd, Nat.reduceSub, Nat.reduceMul, Nat.reduceDiv, Nat.reduceMod, Nat.reduceLeDiff, Nat.reduceLT, Nat.reduceBEq, Int.reduceToNat, Int.reduceLT, Int.reduceLE, Int.reduceEq, stD, ir60, sg_slD, e0, e1, h52, rsV, rsD, slD_nil, h5, hne]
    | none =>
      rw [hd] at h52
      simp only [go_sem, Nat.reduceAdd, Nat.reduceSub, Nat.reduceMul, Nat.reduceDiv, Nat.reduceMod, Nat.reduceLeDiff, Nat.reduceLT, Nat.reduceBEq, Int.reduceToNat, Int.reduceLT, Int.reduceLE, Int.reduceEq, zSt, slD_nil] at h52
      cases hw : (wid c.sp).2 with
      | false =>
        rw [hw] at h84
        have h85 : callP (level E (n + f + 9)) 85 [slD c.sn 2 (c.sp.map enS), .fn 86 [] []] = some (slD true 1 ((c.sp.map (·.lo)).map ic)) := ok85 (n + f + 8) c.sn c.sp 86 [] _ (fun x _ => ok86 (n + f + 7) x) hc.fit.sp
        cases st <;> simp only [go_sem, Nat.reduceAdd, Nat.reduceSub, Nat.reduceMul, Nat.reduceDiv, Nat.reduceMod, Nat.reduceLeDiff, Nat.reduceLT, Nat.reduceBEq, Int.reduceToNat, Int.reduceLT, Int.reduceLE, Int.reduceEq, stD, ir60, sg_slD, slD_nil, e0, e1, h52, h84, h85, rsV, rsD]
      | true =>
        rw [hw] at h84
        have hv := wid_lt hw
        obtain ⟨v, hve⟩ : ∃ v, v = (wid c.sp).1 := ⟨_, rfl⟩
        rw [← hve] at h84 hv ⊢
        obtain ⟨s, hs⟩ : ∃ s, c.sp[v]? = some s := ⟨c.sp[v], List.getElem?_eq_getElem hv⟩
        have hg : c.sp.getD v ⟨0, 0⟩ = s := by rw [List.getD_eq_getElem?_getD, hs]; rfl
        rw [hg]
        have hsh : ∀ a : Int, aBin .shr (.imm (.int .i64 a)) (.imm (.int .u64 1)) = some (.imm (.int .i64 (shr1 a))) := fun a => by rw [bin_shr (by decide)]; rfl
        have had : wrp .i64 (s.lo + s.hi) = ad s.lo s.hi := rfl
        obtain ⟨b, hb0⟩ : ∃ b, b = shr1 (ad s.lo s.hi) := ⟨_, rfl⟩
        have h87 : callP (level E (n + f + 9)) 87 [.agg (enC c), .int .i64 v, .int .i64 b] = some (.agg (enC (nar c v ⟨s.lo, b⟩) ++ enC (nar c v ⟨ad b 1, s.hi⟩))) := ok87 (n + f + 6) c v s b hs hc.fit.sp
        rw [← hb0]
        obtain ⟨c0, hc0⟩ : ∃ c0, c0 = nar c v ⟨s.lo, b⟩ := ⟨_, rfl⟩
        obtain ⟨c1, hc1⟩ : ∃ c1, c1 = nar c v ⟨ad b 1, s.hi⟩ := ⟨_, rfl⟩
        have ev0 : c0.Even := hc0 ▸ nar_even hc _ _
        have ev1 : c1.Even := hc1 ▸ nar_even hc _ _
        rw [← hc0, ← hc1] at h87
        rw [← hc0, ← hc1]
        have IH1 := ok60 n f t c0 st ev0 (by omega) (by omega)
        obtain ⟨i1, i2, ⟨z1, i3⟩, i4⟩ := dec_inv f t c0 st
        generalize dec f t c0 st = r1 at IH1 i1 i2 i3 i4
        obtain ⟨t1, st1, ok1, pt1, er1⟩ := r1
        simp only at i1 i2 i3 i4
        have IH2 := ok60 n f t1 c1 st1 ev1 (by omega) (by omega)
        obtain ⟨j1, j2, ⟨z2, j3⟩, j4⟩ := dec_inv f t1 c1 st1
        generalize dec f t1 c1 st1 = r2 at IH2 j1 j2 j3 j4
        obtain ⟨t2, st2, ok2, pt2, er2⟩ := r2
        simp only at j1 j2 j3 j4
        have u := rnd_eq (aCode (level E (n + f + 9)) ⟨1, false⟩ b60_0)
        have u' := rnd_eq (aCode (level E (n + f + 9)) ⟨2, false⟩ b60_0)
        have k0 : (0 : Int) < ((2 : Nat) : Int) := by decide
        have k1 : (1 : Int) < ((2 : Nat) : Int) := by decide
        simp only [go_sem, Nat.reduceAdd, Nat.reduceSub, Nat.reduceMul, Nat.reduceDiv, Nat.reduceMod, Nat.reduceLeDiff, Nat.reduceLT, Nat.reduceBEq, Int.reduceToNat, Int.reduceLT, Int.reduceLE, Int.reduceEq] at h87
        simp only [go_sem, Nat.reduceAdd, Nat.reduceSub, Nat.reduceMul, Nat.reduceDiv, Nat.reduceMod, Nat.reduceLeDiff, Nat.reduceLT, Nat.reduceBEq, Int.reduceToNat, Int.reduceLT, Int.reduceLE, Int.reduceEq, rsV] at IH1 IH2
        cases st with
        | nil =>
          simp only [stD, rsD] at IH1
          simp only [List.length_nil] at hb i2 i4
          cases ok1
          · cases st1 with
            | nil =>
              simp only [go_sem, Nat.reduceAdd, Nat.reduceSub, Nat.reduceMul, Nat.reduceDiv, Nat.reduceMod, Nat.reduceLeDiff, Nat.reduceLT, Nat.reduceBEq, Int.reduceToNat, Int.reduceLT, Int.reduceLE, Int.reduceEq, stD] at IH1
              simp only [go_sem, Nat.reduceAdd, Nat.reduceSub, Nat.reduceMul, Nat.reduceDiv, Nat.reduceMod, Nat.reduceLeDiff, Nat.reduceLT, Nat.reduceBEq, Int.reduceToNat, Int.reduceLT, Int.reduceLE, Int.reduceEq, stD, ir60, sg_slD, slD_nil, e0, e1, h52, h84, hs, hsh, had, ← hb0, h87, u, k0, k1, IH1, rsV, rsD]
            | cons a1 st1 =>
              simp only [go_sem, Nat.reduceAdd, Nat.reduceSub, Nat.reduceMul, Nat.reduceDiv, Nat.reduceMod, Nat.reduceLeDiff, Nat.reduceLT, Nat.reduceBEq, Int.reduceToNat, Int.reduceLT, Int.reduceLE, Int.reduceEq, stD] at IH1
              simp only [go_sem, Nat.reduceAdd, Nat.reduceSub, Nat.reduceMul, Nat.reduceDiv, Nat.reduceMod, Nat.reduceLeDiff, Nat.reduceLT, Nat.reduceBEq, Int.reduceToNat, Int.reduceLT, Int.reduceLE, Int.reduceEq, stD, ir60, sg_slD, slD_nil, e0, e1, h52, h84, hs, hsh, had, ← hb0, h87, u, k0, k1, IH1, rsV, rsD]
          · cases st1 with
            | nil => simp at i4
            | cons a1 st1 =>
              simp only [go_sem, Nat.reduceAdd, Nat.reduceSub, Nat.reduceMul, Nat.reduceDiv, Nat.reduceMod, Nat.reduceLeDiff, Nat.reduceLT, Nat.reduceBEq, Int.reduceToNat, Int.reduceLT, Int.reduceLE, Int.reduceEq, stD] at IH1
              simp only [rsD] at IH2
              by_cases hl : st2.length = (a1 :: st1).length
              · have hok : ok2 = false := by
                  cases ok2
                  · rfl
                  · have := j4 rfl; omega
                subst hok
                have hz : st2 = a1 :: st1 := by
                  have : z2 = [] := by
                    have := congrArg List.length j3
                    rw [List.length_append] at this
                    exact List.length_eq_zero_iff.1 (by omega)
                  rw [j3, this, List.append_nil]
                subst hz
                simp only [if_true] at IH2
                simp only [go_sem, Nat.reduceAdd, Nat.reduceSub, Nat.reduceMul, Nat.reduceDiv, Nat.reduceMod, Nat.reduceLeDiff, Nat.reduceLT, Nat.reduceBEq, Int.reduceToNat, Int.reduceLT, Int.reduceLE, Int.reduceEq, stD] at IH2
                simp only [go_sem, Nat.reduceAdd, Nat.reduceSub, Nat.reduceMul, Nat.reduceDiv, Nat.reduceMod, Nat.reduceLeDiff, Nat.reduceLT, Nat.reduceBEq, Int.reduceToNat, Int.reduceLT, Int.reduceLE, Int.reduceEq, stD, ir60, sg_slD, slD_nil, e0, e1, h52, h84, hs, hsh, had, ← hb0, h87, u, k0, k1, IH1, IH2, rsV, rsD]
              · rw [if_neg hl] at IH2
                simp only [go_sem, Nat.reduceAdd, Nat.reduceSub, Nat.reduceMul, Nat.reduceDiv, Nat.reduceMod, Nat.reduceLeDiff, Nat.reduceLT, Nat.reduceBEq, Int.reduceToNat, Int.reduceLT, Int.reduceLE, Int.reduceEq, stD] at IH2
                have h5 : (st2.length + 1) * 121 ≤ 70368744177664 := by omega
                cases ok2
                · simp only [go_sem, Nat.reduceAdd, Nat.reduceSub, Nat.reduceMul, Nat.reduceDiv, Nat.reduceMod, Nat.reduceLeDiff, Nat.reduceLT, Nat.reduceBEq, Int.reduceToNat, Int.reduceLT, Int.reduceLE, Int.reduceEq, stD, ir60, sg_slD, slD_nil, e0, e1, h52, h84, hs, hsh, had, ← hb0, h87, u, k0, k1, IH1, IH2, rsV, rsD]
                  subst j3
                  rfl
                · simp only [go_sem, Nat.reduceAdd, Nat.reduceSub, Nat.reduceMul, Nat.reduceDiv, Nat.reduceMod, Nat.reduceLeDiff, Nat.reduceLT, Nat.reduceBEq, Int.reduceToNat, Int.reduceLT, Int.reduceLE, Int.reduceEq, stD, ir60, sg_slD, slD_nil, e0, e1, h52, h84, hs, hsh, had, ← hb0, h87, u, k0, k1, IH1, IH2, h5, rsV, rsD]
                  subst j3
                  simp [splitOf, enT, stD, sb, slD_nil]
        | cons a st =>
          by_cases hl1 : st1.length = (a :: st).length
          · have hok : ok1 = false := by
              cases ok1
              · rfl
              · have := i4 rfl; omega
            subst hok
            have hz : st1 = a :: st := by
              have : z1 = [] := by
                have := congrArg List.length i3
                rw [List.length_append] at this
                exact List.length_eq_zero_iff.1 (by omega)
              rw [i3, this, List.append_nil]
            subst hz
            simp only [rsD, if_true] at IH1
            simp only [go_sem, Nat.reduceAdd, Nat.reduceSub, Nat.reduceMul, Nat.reduceDiv, Nat.reduceMod, Nat.reduceLeDiff, Nat.reduceLT, Nat.reduceBEq, Int.reduceToNat, Int.reduceLT, Int.reduceLE, Int.reduceEq, stD] at IH1
            simp only [go_sem, Nat.reduceAdd, Nat.reduceSub, Nat.reduceMul, Nat.reduceDiv, Nat.reduceMod, Nat.reduceLeDiff, Nat.reduceLT, Nat.reduceBEq, Int.reduceToNat, Int.reduceLT, Int.reduceLE, Int.reduceEq, stD, ir60, sg_slD, slD_nil, e0, e1, h52, h84, hs, hsh, had, ← hb0, h87, u', k0, k1, IH1, rsV, rsD]
          · simp only [rsD, if_neg hl1] at IH1
            cases ok1
            · simp only [go_sem, Nat.reduceAdd, Nat.reduceSub, Nat.reduceMul, Nat.reduceDiv, Nat.reduceMod, Nat.reduceLeDiff, Nat.reduceLT, Nat.reduceBEq, Int.reduceToNat, Int.reduceLT, Int.reduceLE, Int.reduceEq, stD] at IH1
              simp only [go_sem, Nat.reduceAdd, Nat.reduceSub, Nat.reduceMul, Nat.reduceDiv, Nat.reduceMod, Nat.reduceLeDiff, Nat.reduceLT, Nat.reduceBEq, Int.reduceToNat, Int.reduceLT, Int.reduceLE, Int.reduceEq, stD, ir60, sg_slD, slD_nil, e0, e1, h52, h84, hs, hsh, had, ← hb0, h87, u', k0, k1, IH1, rsV, rsD]
              rw [if_neg (by simpa using hl1)]
            · cases st1 with
              | nil => simp at i4
              | cons a1 st1 =>
                simp only [go_sem, Nat.reduceAdd, Nat.reduceSub, Nat.reduceMul, Nat.reduceDiv, Nat.reduceMod, Nat.reduceLeDiff, Nat.reduceLT, Nat.reduceBEq, Int.reduceToNat, Int.reduceLT, Int.reduceLE, Int.reduceEq, stD] at IH1
                simp only [rsD] at IH2
                by_cases hl : st2.length = (a1 :: st1).length
                · have hok : ok2 = false := by
                    cases ok2
                    · rfl
                    · have := j4 rfl; omega
                  subst hok
                  have hz : st2 = a1 :: st1 := by
                    have : z2 = [] := by
                      have := congrArg List.length j3
                      rw [List.length_append] at this
                      exact List.length_eq_zero_iff.1 (by omega)
                    rw [j3, this, List.append_nil]
                  subst hz
                  simp only [if_true] at IH2
                  simp only [go_sem, Nat.reduceAdd, Nat.reduceSub, Nat.reduceMul, Nat.reduceDiv, Nat.reduceMod, Nat.reduceLeDiff, Nat.reduceLT, Nat.reduceBEq, Int.reduceToNat, Int.reduceLT, Int.reduceLE, Int.reduceEq, stD] at IH2
                  simp only [go_sem, Nat.reduceAdd, Nat.reduceSub, Nat.reduceMul, Nat.reduceDiv, Nat.reduceMod, Nat.reduceLeDiff, Nat.reduceLT, Nat.reduceBEq, Int.reduceToNat, Int.reduceLT, Int.reduceLE, Int.reduceEq, stD, ir60, sg_slD, slD_nil, e0, e1, h52, h84, hs, hsh, had, ← hb0, h87, u', k0, k1, IH1, IH2, rsV, rsD]
                  rw [if_neg (by simpa using hl1)]
                · rw [if_neg hl] at IH2
                  simp only [go_sem, Nat.reduceAdd, Nat.reduceSub, Nat.reduceMul, Nat.reduceDiv, Nat.reduceMod, Nat.reduceLeDiff, Nat.reduceLT, Nat.reduceBEq, Int.reduceToNat, Int.reduceLT, Int.reduceLE, Int.reduceEq, stD] at IH2
                  have h5 : (st2.length + 1) * 121 ≤ 70368744177664 := by omega
                  cases ok2
                  · simp only [go_sem, Nat.reduceAdd, Nat.reduceSub, Nat.reduceMul, Nat.reduceDiv, Nat.reduceMod, Nat.reduceLeDiff, Nat.reduceLT, Nat.reduceBEq, Int.reduceToNat, Int.reduceLT, Int.reduceLE, Int.reduceEq, stD, ir60, sg_slD, slD_nil, e0, e1, h52, h84, hs, hsh, had, ← hb0, h87, u', k0, k1, IH1, IH2, rsV, rsD]
                    have hne : ¬ st2.length = st.length + 1 := by
                      have := congrArg List.length j3
                      have := i4 rfl
                      simp only [List.length_append] at *
                      simp only [List.length_cons] at *
                      omega
                    rw [if_neg hne]
                  · simp only [go_sem, Nat.reduceAdd, Nat.reduceSub, Nat.reduceMul, Nat.reduceDiv, Nat.reduceMod, Nat.reduceLeDiff, Nat.reduceLT, Nat.reduceBEq, Int.reduceToNat, Int.reduceLT, Int.reduceLE, Int.reduceEq, stD, ir60, sg_slD, slD_nil, e0, e1, h52, h84, hs, hsh, had, ← hb0, h87, u', k0, k1, IH1, IH2, h5, rsV, rsD]
                    have hne : ¬ st2.length + 1 = st.length + 1 := by
                      have := j4 rfl
                      have := i4 rfl
                      simp only [List.length_cons] at *
                      omega
                    rw [if_neg hne]
                    simp [splitOf, sb, slD_nil]
end Go.Vm.P12

/- Chapter 12, functions: the program's Decide. -/
set_option maxRecDepth 100000
namespace Go.Vm.P12
open Go Go.Vm
def decE (c : Cl) (t : Int) : Int := fnz [clErr c, if offB t 1 400 then 3 else 0]
def dcD (c : Cl) (t : Int) : D := if decE c t = 0 then
    let r := dec t.toNat t.toNat c []
    if r.ok then .tup [.agg [slD false 9 (r.st.map enT)], .nil, .bool true, .int .i64 0] else .tup [.agg [.nil], slD true 1 (r.pt.map ic), .bool false, .int .i64 r.e]
  else .tup [.agg [.nil], .nil, .bool false, .int .i64 (decE c t)]
theorem ck_all {st : List AO} {vars : List AV} {ext : Option Ext} {id sz n : Nat} {es old : List (List D)} (h1 : old.length = n) (h2 : es.length = n) : coK st vars ext id sz 0 n es (some (.arr sz old)) = some (.imm (.int .i64 n), ⟨vars, st.set id (.arr sz es), ext⟩) := by
  rw [ck_arr (by omega)]
  have h3 : List.drop n old = [] := List.drop_eq_nil_of_le (by omega)
  have h4 : List.take n es = es := List.take_of_length_le (by omega)
  simp [Vm.setRange, h2, h3, h4]
theorem ok15 (n : Nat) (c : Cl) (t : Int) (hf : c.Fit) : callP (level E (n + 410)) 15 [.agg (enC c), .int .i64 t] = some (dcD c t) := by
  have h28 := ok28 (n + 401) c hf
  have h59 := ok59 (n + 408) t 1 400
  have h58 := ok58 (n + 408) (offB t 1 400) 3
  have h57 := ok57_2 (n + 408) (clErr c) (if offB t 1 400 then 3 else 0)
  have he : decE c t = fnz [clErr c, if offB t 1 400 then 3 else 0] := rfl
  rw [← he] at h57
  rw [p15]
  simp only [go_sem, Nat.reduceAdd, Nat.reduceSub, Nat.reduceMul, Nat.reduceDiv, Nat.reduceMod, Nat.reduceLeDiff, Nat.reduceLT, Nat.reduceBEq, Int.reduceToNat, Int.reduceLT, Int.reduceLE, Int.reduceEq] at h28 h59 h58 h57
  by_cases h0 : decE c t = 0
  · have hcl : clErr c = 0 ∧ offB t 1 400 = false := by
      rw [he] at h0
      simp only [fnz] at h0
      by_cases h1 : clErr c = 0
      · rw [h1] at h0
        refine ⟨h1, ?_⟩
        cases ho : offB t 1 400
        · rfl
        · rw [ho] at h0; simp at h0
      · simp [h1] at h0
    have hb : 1 ≤ t ∧ t ≤ 400 := by
      have := hcl.2
      simp only [offB, Bool.or_eq_false_iff, decide_eq_false_iff_not] at this
      omega
    have hev := clErr_even hf hcl.1
    obtain ⟨k, hk⟩ : ∃ k : Nat, t = k := ⟨t.toNat, by omega⟩
    subst hk
    have IH := ok60 (n + 400 - k) k k c [] hev (by simp; omega) (Nat.le_refl k)
    rw [show n + 400 - k + k + 9 = n + 409 by omega] at IH
    obtain ⟨i1, i2, ⟨z1, i3⟩, i4⟩ := dec_inv k k c []
    simp only [dcD, if_pos h0, Int.toNat_natCast]
    generalize dec k k c [] = r1 at IH i1 i2 i3 i4
    obtain ⟨t1, st1, ok1, pt1, er1⟩ := r1
    simp only [List.length_nil] at i1 i2 i3 i4
    simp only [stD, rsD] at IH
    cases st1 with
    | nil =>
      cases ok1
      · simp only [go_sem, Nat.reduceAdd, Nat.reduceSub, Nat.reduceMul, Nat.reduceDiv, Nat.reduceMod, Nat.reduceLeDiff, Nat.reduceLT, Nat.reduceBEq, Int.reduceToNat, Int.reduceLT, Int.reduceLE, Int.reduceEq, stD, rsV] at IH
        simp only [go_sem, Nat.reduceAdd, Nat.reduceSub, Nat.reduceMul, Nat.reduceDiv, Nat.reduceMod, Nat.reduceLeDiff, Nat.reduceLT, Nat.reduceBEq, Int.reduceToNat, Int.reduceLT, Int.reduceLE, Int.reduceEq, h28, h59, h58, h57, h0, IH, ne_eq, not_true_eq_false, not_false_eq_true]
      · simp at i4
    | cons a1 st1 =>
      simp only [go_sem, Nat.reduceAdd, Nat.reduceSub, Nat.reduceMul, Nat.reduceDiv, Nat.reduceMod, Nat.reduceLeDiff, Nat.reduceLT, Nat.reduceBEq, Int.reduceToNat, Int.reduceLT, Int.reduceLE, Int.reduceEq, stD, rsV] at IH
      have hl1 : ((120 : Nat) : Int) * ((st1.length + 1 : Nat) : Int) ≤ 70368744177664 := by simp at i2; omega
      cases ok1
      · simp only [go_sem, Nat.reduceAdd, Nat.reduceSub, Nat.reduceMul, Nat.reduceDiv, Nat.reduceMod, Nat.reduceLeDiff, Nat.reduceLT, Nat.reduceBEq, Int.reduceToNat, Int.reduceLT, Int.reduceLE, Int.reduceEq, h28, h59, h58, h57, h0, IH, ne_eq, not_true_eq_false, not_false_eq_true]
      · have hm0 : 0 ≤ ((st1.length + 1 : Nat) : Int) := by omega
        have hm2 : ((st1.length + 1 : Nat) : Int) ≤ 70368744177664 := by omega
        have hm3 : (((st1.length + 1 : Nat) : Int)).toNat = st1.length + 1 := by omega
        simp only [go_sem, Nat.reduceAdd, Nat.reduceSub, Nat.reduceMul, Nat.reduceDiv, Nat.reduceMod, Nat.reduceLeDiff, Nat.reduceLT, Nat.reduceBEq, Int.reduceToNat, Int.reduceLT, Int.reduceLE, Int.reduceEq, h28, h59, h58, h57, h0, IH, ne_eq, not_true_eq_false, not_false_eq_true, hl1, hm0, hm2, hm3, ck_all, List.length_replicate, List.length_cons, List.length_map]
        rfl
  · simp only [go_sem, Nat.reduceAdd, Nat.reduceSub, Nat.reduceMul, Nat.reduceDiv, Nat.reduceMod, Nat.reduceLeDiff, Nat.reduceLT, Nat.reduceBEq, Int.reduceToNat, Int.reduceLT, Int.reduceLE, Int.reduceEq, h28, h59, h58, h57, h0, dcD, ne_eq, not_true_eq_false, not_false_eq_true]
end Go.Vm.P12

/- Chapter 12, the reference: the decision. -/
set_option maxRecDepth 100000
namespace Go.Vm.P12
open Go Go.Vm
def eK (k sz : Nat) (acc : List (List D)) : AV := match acc with | [] => .e0 sz | _ => .ref k sz 0 acc.length
end Go.Vm.P12

/- Chapter 12, the reference: the decision, end. -/
set_option maxRecDepth 100000
set_option maxHeartbeats 8000000
namespace Go.Vm.P12
open Go Go.Vm
end Go.Vm.P12

/- Chapter 12, the reference: Decide. -/
set_option maxRecDepth 100000
set_option maxHeartbeats 8000000
namespace Go.Vm.P12
open Go Go.Vm
end Go.Vm.P12

/- Chapter 12, the laws: comparing, copying. -/
set_option maxRecDepth 100000
namespace Go.Vm.P12
open Go Go.Vm
def x21 (b : Bool) : AExit × S := match b with
  | true => (.exit 0, ⟨[.junk, .junk, .junk, .junk, .junk, .junk, .junk], [], none⟩)
  | false => (.ret, ⟨[.junk, .junk, .imm (.bool false), .junk, .junk, .junk, .junk], [], none⟩)
theorem l21 {lo : Lower} {b1 b2 : Bool} {l m : List Int} (hl : l.length < 4000000000) : ∀ (r r' : List Int) (i : Nat), l.drop i = r → m.drop i = r' → r.length = r'.length →
    outC ⟨0, false⟩ [0, 0, 1, 0, 0, 0, 0] (rnd (aCode lo ⟨0, false⟩ b21_0) (head ⟨0, false⟩ [1, 1, 0, 1, 0, 0, 0])
      ⟨[.imm (slD b1 1 (l.map ic)), .imm (slD b2 1 (m.map ic)), .junk, .imm (.int .i64 i), .junk, .junk, .junk], [], none⟩) = some (x21 (decide (r = r')))
  | [], r', i, h, h', hr => by
    have : r' = [] := List.length_eq_zero_iff.1 hr.symm
    subst this
    rw [rnd_eq]
    simp only [go_sem, Nat.reduceAdd, Nat.reduceSub, Nat.reduceMul, Nat.reduceDiv, Nat.reduceMod, Nat.reduceLeDiff, Nat.reduceLT, Nat.reduceBEq, Int.reduceToNat, Int.reduceLT, Int.reduceLE, Int.reduceEq, lt_f (drop_n h), x21, decide_true]
  | s :: r, [], i, h, h', hr => by simp at hr
  | s :: r, s' :: r', i, h, h', hr => by
    obtain ⟨h1, h2, h3⟩ := drop_c h
    obtain ⟨h1', h2', h3'⟩ := drop_c h'
    have h6 := wrpS (i := i) (by omega)
    rw [rnd_eq]
    by_cases hs : s = s'
    · subst hs
      have IH := l21 (lo := lo) (b1 := b1) (b2 := b2) hl r r' (i + 1) h3 h3' (by simpa using hr)
      have e : decide (s :: r = s :: r') = decide (r = r') := by simp
      simp only [go_sem, Nat.reduceAdd, Nat.reduceSub, Nat.reduceMul, Nat.reduceDiv, Nat.reduceMod, Nat.reduceLeDiff, Nat.reduceLT, Nat.reduceBEq, Int.reduceToNat, Int.reduceLT, Int.reduceLE, Int.reduceEq, lt_t h2, lt_t h2', h1, h1', h6, e, ne_eq, not_true_eq_false]
      exact IH
    · have e : decide (s :: r = s' :: r') = false := by simp [hs]
      simp only [go_sem, Nat.reduceAdd, Nat.reduceSub, Nat.reduceMul, Nat.reduceDiv, Nat.reduceMod, Nat.reduceLeDiff, Nat.reduceLT, Nat.reduceBEq, Int.reduceToNat, Int.reduceLT, Int.reduceLE, Int.reduceEq, lt_t h2, lt_t h2', h1, h1', h6, e, ne_eq, hs, not_false_eq_true, x21]
theorem ok21 (n : Nat) (b1 b2 : Bool) (l m : List Int) (hl : l.length < 4000000000) : callP (level E (n+1)) 21 [slD b1 1 (l.map ic), slD b2 1 (m.map ic)] = some (.bool (decide (l = m))) := by
  rw [p21]
  by_cases h : l.length = m.length
  · have hh := l21 (lo := level E n) (b1 := b1) (b2 := b2) (l := l) (m := m) hl l m 0 rfl rfl h
    rw [cast0] at hh
    have h' : ((l.length : Nat) : Int) = m.length := by omega
    cases hd : decide (l = m) <;> rw [hd] at hh <;> simp only [go_sem, Nat.reduceAdd, Nat.reduceSub, Nat.reduceMul, Nat.reduceDiv, Nat.reduceMod, Nat.reduceLeDiff, Nat.reduceLT, Nat.reduceBEq, Int.reduceToNat, Int.reduceLT, Int.reduceLE, Int.reduceEq, x21] at hh <;> simp only [go_sem, Nat.reduceAdd, Nat.reduceSub, Nat.reduceMul, Nat.reduceDiv, Nat.reduceMod, Nat.reduceLeDiff, Nat.reduceLT, Nat.reduceBEq, Int.reduceToNat, Int.reduceLT, Int.reduceLE, Int.reduceEq, h', ne_eq, not_true_eq_false, hh]
  · have h' : ¬ ((l.length : Nat) : Int) = m.length := by omega
    have e : decide (l = m) = false := by
      rw [decide_eq_false_iff_not]; intro e; rw [e] at h; exact h rfl
    simp only [go_sem, Nat.reduceAdd, Nat.reduceSub, Nat.reduceMul, Nat.reduceDiv, Nat.reduceMod, Nat.reduceLeDiff, Nat.reduceLT, Nat.reduceBEq, Int.reduceToNat, Int.reduceLT, Int.reduceLE, Int.reduceEq, h', ne_eq, not_false_eq_true, e]
structure Stp.Fit (s : Stp) : Prop where
  gv : s.gv.length < 4000000000
  lw : s.lw.length < 4000000000
  hg : s.hg.length < 4000000000
theorem eq_agg2 {k0 k1 j0 j1 : Int} : aEq (.agg [(0, .int), (1, .int)]) (.imm (.agg [.int .i64 k0, .int .i64 k1])) (.imm (.agg [.int .i64 j0, .int .i64 j1])) = some (decide (k0 = j0) && decide (k1 = j1)) := by
  have e0 : decide (k0 = j0) = (k0 == j0) := rfl
  have e1 : decide (k1 = j1) = (k1 == j1) := rfl
  rw [e0, e1]
  simp only [aEq, eqL, eqE, intEq, List.getElem?_cons_zero, Nat.add_zero, Nat.zero_add, List.getElem?_cons_succ, if_true]
  cases k0 == j0 <;> cases k1 == j1 <;> rfl
def x19 (b : Bool) : AExit × S := match b with
  | true => (.exit 0, ⟨[.junk, .junk, .junk, .junk, .junk, .junk, .junk, .junk, .junk], [], none⟩)
  | false => (.ret, ⟨[.junk, .junk, .imm (.bool false), .junk, .junk, .junk, .junk, .junk, .junk], [], none⟩)
end Go.Vm.P12

/- Chapter 12, the laws: copies of claims and proofs. -/
set_option maxRecDepth 100000
namespace Go.Vm.P12
open Go Go.Vm
def lnc (x : Ln) : Ln := { x with nl := false }
theorem ok25 (n : Nat) (x : Ln) (h : x.co.length < 1000000000) : callP (level E (n+1)) 25 [.agg (enL x)] = some (.agg (enL (lnc x))) := by
  obtain ⟨nl, co, c⟩ := x
  simp only at h
  rw [p25]
  cases co with
  | nil => cases nl <;> simp only [go_sem, Nat.reduceAdd, Nat.reduceSub, Nat.reduceMul, Nat.reduceDiv, Nat.reduceMod, Nat.reduceLeDiff, Nat.reduceLT, Nat.reduceBEq, Int.reduceToNat, Int.reduceLT, Int.reduceLE, Int.reduceEq, lnc, slD_nil, slD_f]
  | cons y co =>
    have h5 : (co.length + 1) * 9 ≤ 70368744177664 := by simp at h; omega
    simp only [go_sem, Nat.reduceAdd, Nat.reduceSub, Nat.reduceMul, Nat.reduceDiv, Nat.reduceMod, Nat.reduceLeDiff, Nat.reduceLT, Nat.reduceBEq, Int.reduceToNat, Int.reduceLT, Int.reduceLE, Int.reduceEq, lnc, slD_cons, h5]
theorem l36 {lo : Lower} {b : Bool} {l : List Sp} (hl : l.length < 1000000000) : ∀ (r acc : List Sp) (i : Nat), l.drop i = r → acc.length = i →
    outC ⟨0, false⟩ [0, 0, 1, 0, 0, 0, 0, 0] (rnd (aCode lo ⟨0, false⟩ b36_0) (head ⟨0, false⟩ [0, 0, 1, 0, 1, 1, 1, 0])
      ⟨[.junk, .junk, vK 0 2 (acc.map enS), .junk, .imm (slD b 2 (l.map enS)), .imm (.int .i64 l.length), .imm (.int .i64 i), .junk], oK 2 (acc.map enS), none⟩) =
      some (.exit 0, ⟨[.junk, .junk, vK 0 2 ((acc ++ r).map enS), .junk, .junk, .junk, .junk, .junk], oK 2 ((acc ++ r).map enS), none⟩)
  | [], acc, i, h, ha => by
    rw [rnd_eq]
    cases acc <;> simp only [go_sem, Nat.reduceAdd, Nat.reduceSub, Nat.reduceMul, Nat.reduceDiv, Nat.reduceMod, Nat.reduceLeDiff, Nat.reduceLT, Nat.reduceBEq, Int.reduceToNat, Int.reduceLT, Int.reduceLE, Int.reduceEq, vK, oK, lt_f (drop_n h)]
  | s :: r, acc, i, h, ha => by
    obtain ⟨h1, h2, h3⟩ := drop_c h
    have h6 := wrpS (i := i) (by omega)
    have IH := l36 (lo := lo) (b := b) hl r (acc ++ [s]) (i + 1) h3 (by simp [ha])
    rw [rnd_eq]
    cases acc with
    | nil =>
      simp only [go_sem, Nat.reduceAdd, Nat.reduceSub, Nat.reduceMul, Nat.reduceDiv, Nat.reduceMod, Nat.reduceLeDiff, Nat.reduceLT, Nat.reduceBEq, Int.reduceToNat, Int.reduceLT, Int.reduceLE, Int.reduceEq, vK, oK] at IH
      simp only [go_sem, Nat.reduceAdd, Nat.reduceSub, Nat.reduceMul, Nat.reduceDiv, Nat.reduceMod, Nat.reduceLeDiff, Nat.reduceLT, Nat.reduceBEq, Int.reduceToNat, Int.reduceLT, Int.reduceLE, Int.reduceEq, vK, oK, lt_t h2, h1, h6]
      exact IH
    | cons x acc =>
      have h5 : (acc.length + 1 + 1) * 17 ≤ 70368744177664 := by simp at ha; omega
      have e7 : acc.length + (r.length + 1) + 1 = acc.length + 1 + r.length + 1 := by omega
      have e8 : ∀ (L : List (List D)) (y : List D), List.map enS acc ++ y :: L = List.map enS acc ++ [y] ++ L := fun L y => by simp
      simp only [go_sem, Nat.reduceAdd, Nat.reduceSub, Nat.reduceMul, Nat.reduceDiv, Nat.reduceMod, Nat.reduceLeDiff, Nat.reduceLT, Nat.reduceBEq, Int.reduceToNat, Int.reduceLT, Int.reduceLE, Int.reduceEq, vK, oK] at IH
      simp only [go_sem, Nat.reduceAdd, Nat.reduceSub, Nat.reduceMul, Nat.reduceDiv, Nat.reduceMod, Nat.reduceLeDiff, Nat.reduceLT, Nat.reduceBEq, Int.reduceToNat, Int.reduceLT, Int.reduceLE, Int.reduceEq, vK, oK, lt_t h2, h1, h6, h5, e7, e8 (List.map enS r)]
      exact IH
theorem ok36 (n : Nat) (b : Bool) (l : List Sp) (hl : l.length < 1000000000) : callP (level E (n+1)) 36 [slD b 2 (l.map enS)] = some (slD true 2 (l.map enS)) := by
  have h := l36 (lo := level E n) (b := b) hl l [] 0 rfl rfl
  rw [cast0] at h
  rw [p36]
  cases l with
  | nil =>
    simp only [go_sem, Nat.reduceAdd, Nat.reduceSub, Nat.reduceMul, Nat.reduceDiv, Nat.reduceMod, Nat.reduceLeDiff, Nat.reduceLT, Nat.reduceBEq, Int.reduceToNat, Int.reduceLT, Int.reduceLE, Int.reduceEq, vK, oK] at h
    simp only [go_sem, Nat.reduceAdd, Nat.reduceSub, Nat.reduceMul, Nat.reduceDiv, Nat.reduceMod, Nat.reduceLeDiff, Nat.reduceLT, Nat.reduceBEq, Int.reduceToNat, Int.reduceLT, Int.reduceLE, Int.reduceEq, h]
    rfl
  | cons x l =>
    simp only [go_sem, Nat.reduceAdd, Nat.reduceSub, Nat.reduceMul, Nat.reduceDiv, Nat.reduceMod, Nat.reduceLeDiff, Nat.reduceLT, Nat.reduceBEq, Int.reduceToNat, Int.reduceLT, Int.reduceLE, Int.reduceEq, vK, oK] at h
    simp only [go_sem, Nat.reduceAdd, Nat.reduceSub, Nat.reduceMul, Nat.reduceDiv, Nat.reduceMod, Nat.reduceLeDiff, Nat.reduceLT, Nat.reduceBEq, Int.reduceToNat, Int.reduceLT, Int.reduceLE, Int.reduceEq, h]
    rfl
theorem l11 {n : Nat} {sp0 : D} {go : Ln} {b : Bool} {l : List Ln} (hl : l.length < 1000000000) (hx : ∀ x ∈ l, x.co.length < 1000000000) : ∀ (r acc : List Ln) (i : Nat), l.drop i = r → acc.length = i →
    outC ⟨0, false⟩ [0, 1, 0, 1, 0, 0, 0, 0, 0] (rnd (aCode (level E (n + 1)) ⟨0, false⟩ b11_0) (head ⟨0, false⟩ [0, 1, 0, 1, 0, 1, 1, 1, 0])
      ⟨[.junk, .ptr 0 0, .junk, .ptr 1 0, .junk, .imm (slD b 2 (l.map enL)), .imm (.int .i64 l.length), .imm (.int .i64 i), .junk],
       [.box [.imm .nil, .imm .nil, .imm .nil, .imm (.int .i64 0)], .box [.imm sp0, vK 2 2 (acc.map enL), .imm (slD go.nl 1 (go.co.map ic)), .imm (.int .i64 go.c)]] ++ oK 2 (acc.map enL), none⟩) =
      some (.exit 0, ⟨[.junk, .ptr 0 0, .junk, .ptr 1 0, .junk, .junk, .junk, .junk, .junk],
       [.box [.imm .nil, .imm .nil, .imm .nil, .imm (.int .i64 0)], .box [.imm sp0, vK 2 2 ((acc ++ r.map lnc).map enL), .imm (slD go.nl 1 (go.co.map ic)), .imm (.int .i64 go.c)]] ++ oK 2 ((acc ++ r.map lnc).map enL), none⟩)
  | [], acc, i, h, ha => by
    rw [rnd_eq]
    cases acc <;> simp only [go_sem, Nat.reduceAdd, Nat.reduceSub, Nat.reduceMul, Nat.reduceDiv, Nat.reduceMod, Nat.reduceLeDiff, Nat.reduceLT, Nat.reduceBEq, Int.reduceToNat, Int.reduceLT, Int.reduceLE, Int.reduceEq, vK, oK, lt_f (drop_n h)]
  | s :: r, acc, i, h, ha => by
    obtain ⟨h1, h2, h3⟩ := drop_c h
    have h6 := wrpS (i := i) (by omega)
    have h25 := ok25 n s (hx s (List.mem_of_getElem? h1))
    have IH := l11 (n := n) (sp0 := sp0) (go := go) (b := b) hl hx r (acc ++ [lnc s]) (i + 1) h3 (by simp [ha])
    rw [rnd_eq]
    simp only [go_sem, Nat.reduceAdd, Nat.reduceSub, Nat.reduceMul, Nat.reduceDiv, Nat.reduceMod, Nat.reduceLeDiff, Nat.reduceLT, Nat.reduceBEq, Int.reduceToNat, Int.reduceLT, Int.reduceLE, Int.reduceEq] at h25
    cases acc with
    | nil =>
      simp only [go_sem, Nat.reduceAdd, Nat.reduceSub, Nat.reduceMul, Nat.reduceDiv, Nat.reduceMod, Nat.reduceLeDiff, Nat.reduceLT, Nat.reduceBEq, Int.reduceToNat, Int.reduceLT, Int.reduceLE, Int.reduceEq, vK, oK] at IH
      simp only [go_sem, Nat.reduceAdd, Nat.reduceSub, Nat.reduceMul, Nat.reduceDiv, Nat.reduceMod, Nat.reduceLeDiff, Nat.reduceLT, Nat.reduceBEq, Int.reduceToNat, Int.reduceLT, Int.reduceLE, Int.reduceEq, vK, oK, lt_t h2, h1, h6, h25]
      exact IH
    | cons x acc =>
      have h5 : (acc.length + 1 + 1) * 33 ≤ 70368744177664 := by simp at ha; omega
      have e7 : acc.length + (r.length + 1) + 1 = acc.length + 1 + r.length + 1 := by omega
      have e8 : ∀ (L : List (List D)) (y : List D), List.map enL acc ++ y :: L = List.map enL acc ++ [y] ++ L := fun L y => by simp
      simp only [go_sem, Nat.reduceAdd, Nat.reduceSub, Nat.reduceMul, Nat.reduceDiv, Nat.reduceMod, Nat.reduceLeDiff, Nat.reduceLT, Nat.reduceBEq, Int.reduceToNat, Int.reduceLT, Int.reduceLE, Int.reduceEq, vK, oK] at IH
      simp only [go_sem, Nat.reduceAdd, Nat.reduceSub, Nat.reduceMul, Nat.reduceDiv, Nat.reduceMod, Nat.reduceLeDiff, Nat.reduceLT, Nat.reduceBEq, Int.reduceToNat, Int.reduceLT, Int.reduceLE, Int.reduceEq, vK, oK, lt_t h2, h1, h6, h5, h25, e7, e8 (List.map enL (List.map lnc r))]
      exact IH
def cpy (c : Cl) : Cl := ⟨true, c.sp, true, c.gv.map lnc, lnc c.go⟩
theorem ok11 (n : Nat) (c : Cl) (hf : c.Fit) : callP (level E (n+2)) 11 [.agg (enC c)] = some (.agg (enC (cpy c))) := by
  obtain ⟨sn, sp, gn, gv, go⟩ := c
  have h := l11 (n := n) (sp0 := slD true 2 (sp.map enS)) (go := lnc go) (b := gn) (l := gv) (by have := hf.gv; simp at this; omega) hf.ln gv [] 0 rfl rfl
  have h36 := ok36 n sn sp hf.sp
  have h25 := ok25 n go hf.go
  rw [cast0] at h
  rw [p11]
  simp only [go_sem, Nat.reduceAdd, Nat.reduceSub, Nat.reduceMul, Nat.reduceDiv, Nat.reduceMod, Nat.reduceLeDiff, Nat.reduceLT, Nat.reduceBEq, Int.reduceToNat, Int.reduceLT, Int.reduceLE, Int.reduceEq] at h25
  cases gv with
  | nil =>
    simp only [go_sem, Nat.reduceAdd, Nat.reduceSub, Nat.reduceMul, Nat.reduceDiv, Nat.reduceMod, Nat.reduceLeDiff, Nat.reduceLT, Nat.reduceBEq, Int.reduceToNat, Int.reduceLT, Int.reduceLE, Int.reduceEq, vK, oK] at h
    simp only [go_sem, Nat.reduceAdd, Nat.reduceSub, Nat.reduceMul, Nat.reduceDiv, Nat.reduceMod, Nat.reduceLeDiff, Nat.reduceLT, Nat.reduceBEq, Int.reduceToNat, Int.reduceLT, Int.reduceLE, Int.reduceEq, h, h36, h25, cpy]
    rfl
  | cons x l =>
    simp only [go_sem, Nat.reduceAdd, Nat.reduceSub, Nat.reduceMul, Nat.reduceDiv, Nat.reduceMod, Nat.reduceLeDiff, Nat.reduceLT, Nat.reduceBEq, Int.reduceToNat, Int.reduceLT, Int.reduceLE, Int.reduceEq, vK, oK] at h
    simp only [go_sem, Nat.reduceAdd, Nat.reduceSub, Nat.reduceMul, Nat.reduceDiv, Nat.reduceMod, Nat.reduceLeDiff, Nat.reduceLT, Nat.reduceBEq, Int.reduceToNat, Int.reduceLT, Int.reduceLE, Int.reduceEq, h, h36, h25, cpy]
    rfl
def x9 (b : Bool) : AExit × S := match b with
  | true => (.exit 0, ⟨[.junk, .junk, .junk, .junk, .junk, .junk, .junk], [], none⟩)
  | false => (.ret, ⟨[.junk, .imm (.bool false), .junk, .junk, .junk, .junk, .junk], [], none⟩)
def shortLn (x : Ln) : Bool := decide (x.co.length ≤ 8)
theorem l9 {n : Nat} {c : Cl} (hl : c.gv.length < 1000000000) : ∀ (r : List Ln) (i : Nat), c.gv.drop i = r →
    outC ⟨0, false⟩ [0, 1, 0, 0, 0, 0, 0] (rnd (aCode (level E (n + 1)) ⟨0, false⟩ b9_0) (head ⟨0, false⟩ [0, 0, 1, 1, 0, 0, 0])
      ⟨[.junk, .junk, .ptr 0 0, .imm (.int .i64 i), .junk, .junk, .junk], [.box ((enC c).map .imm)], none⟩) = some (x9 (r.all shortLn))
  | [], i, h => by
    rw [rnd_eq]
    simp only [go_sem, Nat.reduceAdd, Nat.reduceSub, Nat.reduceMul, Nat.reduceDiv, Nat.reduceMod, Nat.reduceLeDiff, Nat.reduceLT, Nat.reduceBEq, Int.reduceToNat, Int.reduceLT, Int.reduceLE, Int.reduceEq, lt_f (drop_n h), x9, List.all_nil]
  | s :: r, i, h => by
    obtain ⟨h1, h2, h3⟩ := drop_c h
    have h6 := wrpS (i := i) (by omega)
    have h51 := ok51 n s.nl s.co s.c
    have IH := l9 (n := n) (c := c) hl r (i + 1) h3
    rw [rnd_eq]
    simp only [go_sem, Nat.reduceAdd, Nat.reduceSub, Nat.reduceMul, Nat.reduceDiv, Nat.reduceMod, Nat.reduceLeDiff, Nat.reduceLT, Nat.reduceBEq, Int.reduceToNat, Int.reduceLT, Int.reduceLE, Int.reduceEq] at IH
    cases hs : decide (s.co.length ≤ 8)
    · rw [hs] at h51
      have e : (s :: r).all shortLn = false := by simp only [List.all_cons, shortLn, hs, Bool.false_and]
      simp only [go_sem, Nat.reduceAdd, Nat.reduceSub, Nat.reduceMul, Nat.reduceDiv, Nat.reduceMod, Nat.reduceLeDiff, Nat.reduceLT, Nat.reduceBEq, Int.reduceToNat, Int.reduceLT, Int.reduceLE, Int.reduceEq, lt_t h2, h1, h6, h51, e, x9]
    · rw [hs] at h51
      have e : (s :: r).all shortLn = r.all shortLn := by simp only [List.all_cons, shortLn, hs, Bool.true_and]
      simp only [go_sem, Nat.reduceAdd, Nat.reduceSub, Nat.reduceMul, Nat.reduceDiv, Nat.reduceMod, Nat.reduceLeDiff, Nat.reduceLT, Nat.reduceBEq, Int.reduceToNat, Int.reduceLT, Int.reduceLE, Int.reduceEq, lt_t h2, h1, h6, h51, e]
      exact IH
def short (c : Cl) : Bool := decide (c.sp.length ≤ 8 ∧ (c.gv.length ≤ 4 ∨ c.gv.length = 13)) && shortLn c.go && c.gv.all shortLn
theorem ok9 (n : Nat) (c : Cl) : callP (level E (n+2)) 9 [.agg (enC c)] = some (.bool (short c)) := by
  have h51 := ok51 n c.go.nl c.go.co c.go.c
  have eg : decide (c.go.co.length ≤ 8) = shortLn c.go := rfl
  rw [p9]
  unfold short
  by_cases a1 : (8 : Int) < ((c.sp.length : Nat) : Int)
  · have e : decide (c.sp.length ≤ 8 ∧ (c.gv.length ≤ 4 ∨ c.gv.length = 13)) = false := decide_eq_false (by omega)
    simp only [go_sem, Nat.reduceAdd, Nat.reduceSub, Nat.reduceMul, Nat.reduceDiv, Nat.reduceMod, Nat.reduceLeDiff, Nat.reduceLT, Nat.reduceBEq, Int.reduceToNat, Int.reduceLT, Int.reduceLE, Int.reduceEq, a1, e, Bool.false_and]
  · by_cases a2 : (4 : Int) < ((c.gv.length : Nat) : Int)
    · by_cases a3 : ((c.gv.length : Nat) : Int) = 13
      · have e : decide (c.sp.length ≤ 8 ∧ (c.gv.length ≤ 4 ∨ c.gv.length = 13)) = true := decide_eq_true (by omega)
        have h := l9 (n := n) (c := c) (by omega) c.gv 0 rfl
        rw [cast0] at h
        have b1 : (4 : Int) < 13 := by decide
        cases hg : shortLn c.go <;> rw [hg] at eg <;> rw [eg] at h51
        · simp only [go_sem, Nat.reduceAdd, Nat.reduceSub, Nat.reduceMul, Nat.reduceDiv, Nat.reduceMod, Nat.reduceLeDiff, Nat.reduceLT, Nat.reduceBEq, Int.reduceToNat, Int.reduceLT, Int.reduceLE, Int.reduceEq, a1, a3, b1, h51, e, ne_eq, not_true_eq_false, Bool.and_false, Bool.false_and, Bool.true_and]
        · cases ha : c.gv.all shortLn <;> rw [ha] at h <;> simp only [go_sem, Nat.reduceAdd, Nat.reduceSub, Nat.reduceMul, Nat.reduceDiv, Nat.reduceMod, Nat.reduceLeDiff, Nat.reduceLT, Nat.reduceBEq, Int.reduceToNat, Int.reduceLT, Int.reduceLE, Int.reduceEq, x9] at h <;>
          simp only [go_sem, Nat.reduceAdd, Nat.reduceSub, Nat.reduceMul, Nat.reduceDiv, Nat.reduceMod, Nat.reduceLeDiff, Nat.reduceLT, Nat.reduceBEq, Int.reduceToNat, Int.reduceLT, Int.reduceLE, Int.reduceEq, a1, a3, b1, h51, h, e, ne_eq, not_true_eq_false, Bool.and_false, Bool.false_and, Bool.true_and]
      · have e : decide (c.sp.length ≤ 8 ∧ (c.gv.length ≤ 4 ∨ c.gv.length = 13)) = false := decide_eq_false (by omega)
        simp only [go_sem, Nat.reduceAdd, Nat.reduceSub, Nat.reduceMul, Nat.reduceDiv, Nat.reduceMod, Nat.reduceLeDiff, Nat.reduceLT, Nat.reduceBEq, Int.reduceToNat, Int.reduceLT, Int.reduceLE, Int.reduceEq, a1, a2, a3, e, ne_eq, not_false_eq_true, Bool.false_and]
    · have e : decide (c.sp.length ≤ 8 ∧ (c.gv.length ≤ 4 ∨ c.gv.length = 13)) = true := decide_eq_true (by omega)
      have h := l9 (n := n) (c := c) (by omega) c.gv 0 rfl
      rw [cast0] at h
      cases hg : shortLn c.go <;> rw [hg] at eg <;> rw [eg] at h51
      · simp only [go_sem, Nat.reduceAdd, Nat.reduceSub, Nat.reduceMul, Nat.reduceDiv, Nat.reduceMod, Nat.reduceLeDiff, Nat.reduceLT, Nat.reduceBEq, Int.reduceToNat, Int.reduceLT, Int.reduceLE, Int.reduceEq, a1, a2, h51, e, Bool.and_false, Bool.false_and, Bool.true_and]
      · cases ha : c.gv.all shortLn <;> rw [ha] at h <;> simp only [go_sem, Nat.reduceAdd, Nat.reduceSub, Nat.reduceMul, Nat.reduceDiv, Nat.reduceMod, Nat.reduceLeDiff, Nat.reduceLT, Nat.reduceBEq, Int.reduceToNat, Int.reduceLT, Int.reduceLE, Int.reduceEq, x9] at h <;>
        simp only [go_sem, Nat.reduceAdd, Nat.reduceSub, Nat.reduceMul, Nat.reduceDiv, Nat.reduceMod, Nat.reduceLeDiff, Nat.reduceLT, Nat.reduceBEq, Int.reduceToNat, Int.reduceLT, Int.reduceLE, Int.reduceEq, a1, a2, h51, h, e, Bool.and_false, Bool.false_and, Bool.true_and]
end Go.Vm.P12

/- Chapter 12, functions: least values, refuting. -/
set_option maxRecDepth 100000
namespace Go.Vm.P12
open Go Go.Vm
def exs (g : Bool) : List Int → List Sp → Int → Int
  | x :: r, s :: t, a => exs g r t (ad a (ml x (if decide (0 < x) = g then s.hi else s.lo)))
  | _, _, a => a
theorem b00 : (false == false) = true := rfl
theorem b01 : (false == true) = false := rfl
theorem b10 : (true == false) = false := rfl
theorem b11 : (true == true) = true := rfl
theorem l80 {lo : Lower} {b1 b2 g : Bool} {co : List Int} {sp : List Sp} (hl : co.length ≤ sp.length) (hb : co.length < 1000000000) : ∀ (r : List Int) (t : List Sp) (i : Nat) (a : Int), co.drop i = r → sp.drop i = t →
    outC ⟨0, false⟩ [0, 0, 0, 0, 0, 1, 0, 0, 0, 0, 0, 0, 0, 0] (rnd (aCode lo ⟨0, false⟩ b80_0) (head ⟨0, false⟩ [0, 1, 1, 0, 0, 1, 0, 0, 0, 1, 1, 1, 0, 0])
      ⟨[.junk, .imm (slD b2 2 (sp.map enS)), .imm (.bool g), .junk, .junk, .imm (.int .i64 a), .junk, .junk, .junk, .imm (slD b1 1 (co.map ic)), .imm (.int .i64 co.length), .imm (.int .i64 i), .junk, .junk], [], none⟩) =
      some (.exit 0, ⟨[.junk, .junk, .junk, .junk, .junk, .imm (.int .i64 (exs g r t a)), .junk, .junk, .junk, .junk, .junk, .junk, .junk, .junk], [], none⟩)
  | [], t, i, a, h, h' => by
    rw [rnd_eq]
    simp only [go_sem, Nat.reduceAdd, Nat.reduceSub, Nat.reduceMul, Nat.reduceDiv, Nat.reduceMod, Nat.reduceLeDiff, Nat.reduceLT, Nat.reduceBEq, Int.reduceToNat, Int.reduceLT, Int.reduceLE, Int.reduceEq, lt_f (drop_n h), exs]
  | x :: r, [], i, a, h, h' => by
    obtain ⟨h1, h2, h3⟩ := drop_c h
    have := drop_n h'
    omega
  | x :: r, s :: t, i, a, h, h' => by
    obtain ⟨h1, h2, h3⟩ := drop_c h
    obtain ⟨h1', h2', h3'⟩ := drop_c h'
    have h6 := wrpS (i := i) (by omega)
    have IH := l80 (lo := lo) (b1 := b1) (b2 := b2) (g := g) hl hb r t (i + 1) (ad a (ml x (if decide (0 < x) = g then s.hi else s.lo))) h3 h3'
    rw [rnd_eq]
    simp only [exs]
    have hx : ∀ y : Int, wrp .i64 (a + wrp .i64 (x * y)) = ad a (ml x y) := fun _ => rfl
    cases h0 : decide ((0 : Int) < x) <;> cases g <;> rw [h0] at IH <;> simp only [Bool.false_eq_true, reduceCtorEq, if_true, if_false] at IH ⊢ <;>
      simp only [go_sem, Nat.reduceAdd, Nat.reduceSub, Nat.reduceMul, Nat.reduceDiv, Nat.reduceMod, Nat.reduceLeDiff, Nat.reduceLT, Nat.reduceBEq, Int.reduceToNat, Int.reduceLT, Int.reduceLE, Int.reduceEq, lt_t h2, lt_t h2', h1, h1', h6, h0, hx, b00, b01, b10, b11] <;> exact IH
theorem ok80 (n : Nat) (x : Ln) (b : Bool) (sp : List Sp) (g : Bool) (hl : x.co.length ≤ sp.length) (hb : x.co.length < 1000000000) : callP (level E (n+1)) 80 [.agg (enL x), slD b 2 (sp.map enS), .bool g] = some (.int .i64 (exs g x.co sp x.c)) := by
  have h := l80 (lo := level E n) (b1 := x.nl) (b2 := b) (g := g) hl hb x.co sp 0 x.c rfl rfl
  rw [cast0] at h
  rw [p80]
  simp only [go_sem, Nat.reduceAdd, Nat.reduceSub, Nat.reduceMul, Nat.reduceDiv, Nat.reduceMod, Nat.reduceLeDiff, Nat.reduceLT, Nat.reduceBEq, Int.reduceToNat, Int.reduceLT, Int.reduceLE, Int.reduceEq, h]
def bxErr (x : Ln) (sp : List Sp) : Int := fnz [lnErr x sp.length, spErr sp]
theorem ok79 (n : Nat) (x : Ln) (b : Bool) (sp : List Sp) (hx : x.co.length < 1000000000) (hs : sp.length < 1000000000) : callP (level E (n+6)) 79 [.agg (enL x), slD b 2 (sp.map enS)] = some (.int .i64 (bxErr x sp)) := by
  have h68 := ok68 n x sp.length hx
  have h71 := ok71 (n+2) b sp hs
  have h57 := ok57_2 (n+4) (lnErr x sp.length) (spErr sp)
  rw [p79]
  simp only [go_sem, Nat.reduceAdd, Nat.reduceSub, Nat.reduceMul, Nat.reduceDiv, Nat.reduceMod, Nat.reduceLeDiff, Nat.reduceLT, Nat.reduceBEq, Int.reduceToNat, Int.reduceLT, Int.reduceLE, Int.reduceEq] at h68
  simp only [go_sem, Nat.reduceAdd, Nat.reduceSub, Nat.reduceMul, Nat.reduceDiv, Nat.reduceMod, Nat.reduceLeDiff, Nat.reduceLT, Nat.reduceBEq, Int.reduceToNat, Int.reduceLT, Int.reduceLE, Int.reduceEq, h68, h71, h57, bxErr]
theorem bxErr0 {x : Ln} {sp : List Sp} (h : bxErr x sp = 0) : x.co.length = sp.length := by
  unfold bxErr at h
  by_cases hl : lnErr x sp.length = 0
  · unfold lnErr at hl
    by_cases he : (x.co.length : Int) = sp.length
    · omega
    · simp [fnz, he] at hl
  · simp [fnz, hl] at h
def least (g : Bool) (x : Ln) (sp : List Sp) : D := if bxErr x sp = 0 then .tup [.int .i64 (exs g x.co sp x.c), .int .i64 0] else .tup [.int .i64 0, .int .i64 (bxErr x sp)]
theorem ok35 (n : Nat) (x : Ln) (b : Bool) (sp : List Sp) (hx : x.co.length < 1000000000) (hs : sp.length < 1000000000) : callP (level E (n+7)) 35 [.agg (enL x), slD b 2 (sp.map enS)] = some (least false x sp) := by
  have h79 := ok79 n x b sp hx hs
  rw [p35]
  simp only [go_sem, Nat.reduceAdd, Nat.reduceSub, Nat.reduceMul, Nat.reduceDiv, Nat.reduceMod, Nat.reduceLeDiff, Nat.reduceLT, Nat.reduceBEq, Int.reduceToNat, Int.reduceLT, Int.reduceLE, Int.reduceEq] at h79
  unfold least
  by_cases h0 : bxErr x sp = 0
  · have h80 := ok80 (n+5) x b sp false (Nat.le_of_eq (bxErr0 h0)) hx
    simp only [go_sem, Nat.reduceAdd, Nat.reduceSub, Nat.reduceMul, Nat.reduceDiv, Nat.reduceMod, Nat.reduceLeDiff, Nat.reduceLT, Nat.reduceBEq, Int.reduceToNat, Int.reduceLT, Int.reduceLE, Int.reduceEq] at h80
    simp only [go_sem, Nat.reduceAdd, Nat.reduceSub, Nat.reduceMul, Nat.reduceDiv, Nat.reduceMod, Nat.reduceLeDiff, Nat.reduceLT, Nat.reduceBEq, Int.reduceToNat, Int.reduceLT, Int.reduceLE, Int.reduceEq, h79, h80, h0, ne_eq, not_true_eq_false]
  · simp only [go_sem, Nat.reduceAdd, Nat.reduceSub, Nat.reduceMul, Nat.reduceDiv, Nat.reduceMod, Nat.reduceLeDiff, Nat.reduceLT, Nat.reduceBEq, Int.reduceToNat, Int.reduceLT, Int.reduceLE, Int.reduceEq, h79, h0, ne_eq, not_false_eq_true]
theorem ok37 (n : Nat) (x : Ln) (b : Bool) (sp : List Sp) (hx : x.co.length < 1000000000) (hs : sp.length < 1000000000) : callP (level E (n+7)) 37 [.agg (enL x), slD b 2 (sp.map enS)] = some (least true x sp) := by
  have h79 := ok79 n x b sp hx hs
  rw [p37]
  simp only [go_sem, Nat.reduceAdd, Nat.reduceSub, Nat.reduceMul, Nat.reduceDiv, Nat.reduceMod, Nat.reduceLeDiff, Nat.reduceLT, Nat.reduceBEq, Int.reduceToNat, Int.reduceLT, Int.reduceLE, Int.reduceEq] at h79
  unfold least
  by_cases h0 : bxErr x sp = 0
  · have h80 := ok80 (n+5) x b sp true (Nat.le_of_eq (bxErr0 h0)) hx
    simp only [go_sem, Nat.reduceAdd, Nat.reduceSub, Nat.reduceMul, Nat.reduceDiv, Nat.reduceMod, Nat.reduceLeDiff, Nat.reduceLT, Nat.reduceBEq, Int.reduceToNat, Int.reduceLT, Int.reduceLE, Int.reduceEq] at h80
    simp only [go_sem, Nat.reduceAdd, Nat.reduceSub, Nat.reduceMul, Nat.reduceDiv, Nat.reduceMod, Nat.reduceLeDiff, Nat.reduceLT, Nat.reduceBEq, Int.reduceToNat, Int.reduceLT, Int.reduceLE, Int.reduceEq, h79, h80, h0, ne_eq, not_true_eq_false]
  · simp only [go_sem, Nat.reduceAdd, Nat.reduceSub, Nat.reduceMul, Nat.reduceDiv, Nat.reduceMod, Nat.reduceLeDiff, Nat.reduceLT, Nat.reduceBEq, Int.reduceToNat, Int.reduceLT, Int.reduceLE, Int.reduceEq, h79, h0, ne_eq, not_false_eq_true]
def vl : List Int → List Int → Int → Int
  | x :: r, p :: q, a => vl r q (ad a (ml x p))
  | _, _, a => a
theorem l62 {lo : Lower} {b1 b2 : Bool} {co pt : List Int} (hl : co.length ≤ pt.length) (hb : co.length < 1000000000) : ∀ (r t : List Int) (i : Nat) (a : Int), co.drop i = r → pt.drop i = t →
    outC ⟨0, false⟩ [0, 0, 0, 0, 1, 0, 0, 0, 0, 0, 0] (rnd (aCode lo ⟨0, false⟩ b62_0) (head ⟨0, false⟩ [0, 1, 0, 0, 1, 0, 0, 1, 1, 1, 0])
      ⟨[.junk, .imm (slD b2 1 (pt.map ic)), .junk, .junk, .imm (.int .i64 a), .junk, .junk, .imm (slD b1 1 (co.map ic)), .imm (.int .i64 co.length), .imm (.int .i64 i), .junk], [], none⟩) =
      some (.exit 0, ⟨[.junk, .junk, .junk, .junk, .imm (.int .i64 (vl r t a)), .junk, .junk, .junk, .junk, .junk, .junk], [], none⟩)
  | [], t, i, a, h, h' => by
    rw [rnd_eq]
    simp only [go_sem, Nat.reduceAdd, Nat.reduceSub, Nat.reduceMul, Nat.reduceDiv, Nat.reduceMod, Nat.reduceLeDiff, Nat.reduceLT, Nat.reduceBEq, Int.reduceToNat, Int.reduceLT, Int.reduceLE, Int.reduceEq, lt_f (drop_n h), vl]
  | x :: r, [], i, a, h, h' => by
    obtain ⟨h1, h2, h3⟩ := drop_c h
    have := drop_n h'
    omega
  | x :: r, s :: t, i, a, h, h' => by
    obtain ⟨h1, h2, h3⟩ := drop_c h
    obtain ⟨h1', h2', h3'⟩ := drop_c h'
    have h6 := wrpS (i := i) (by omega)
    have IH := l62 (lo := lo) (b1 := b1) (b2 := b2) hl hb r t (i + 1) (ad a (ml x s)) h3 h3'
    rw [rnd_eq]
    simp only [vl]
    have hx : wrp .i64 (a + wrp .i64 (x * s)) = ad a (ml x s) := rfl
    simp only [go_sem, Nat.reduceAdd, Nat.reduceSub, Nat.reduceMul, Nat.reduceDiv, Nat.reduceMod, Nat.reduceLeDiff, Nat.reduceLT, Nat.reduceBEq, Int.reduceToNat, Int.reduceLT, Int.reduceLE, Int.reduceEq, lt_t h2, lt_t h2', h1, h1', h6, hx]
    exact IH
theorem ok62 (n : Nat) (x : Ln) (b : Bool) (pt : List Int) (hl : x.co.length ≤ pt.length) (hb : x.co.length < 1000000000) : callP (level E (n+1)) 62 [.agg (enL x), slD b 1 (pt.map ic)] = some (.int .i64 (vl x.co pt x.c)) := by
  have h := l62 (lo := level E n) (b1 := x.nl) (b2 := b) hl hb x.co pt 0 x.c rfl rfl
  rw [cast0] at h
  rw [p62]
  simp only [go_sem, Nat.reduceAdd, Nat.reduceSub, Nat.reduceMul, Nat.reduceDiv, Nat.reduceMod, Nat.reduceLeDiff, Nat.reduceLT, Nat.reduceBEq, Int.reduceToNat, Int.reduceLT, Int.reduceLE, Int.reduceEq, h]
def neg1 (pt : List Int) (x : Ln) : Bool := decide (vl x.co pt x.c < 0)
theorem ok63 (n : Nat) (x : Ln) (b : Bool) (pt : List Int) (hl : x.co.length ≤ pt.length) (hb : x.co.length < 1000000000) : callP (level E (n+2)) 63 [.agg (enL x), .ptr [.fn 62 [] []], .ptr [slD b 1 (pt.map ic)]] = some (.bool (neg1 pt x)) := by
  have h := ok62 n x b pt hl hb
  rw [p63]
  simp only [go_sem, Nat.reduceAdd, Nat.reduceSub, Nat.reduceMul, Nat.reduceDiv, Nat.reduceMod, Nat.reduceLeDiff, Nat.reduceLT, Nat.reduceBEq, Int.reduceToNat, Int.reduceLT, Int.reduceLE, Int.reduceEq] at h
  simp only [go_sem, Nat.reduceAdd, Nat.reduceSub, Nat.reduceMul, Nat.reduceDiv, Nat.reduceMod, Nat.reduceLeDiff, Nat.reduceLT, Nat.reduceBEq, Int.reduceToNat, Int.reduceLT, Int.reduceLE, Int.reduceEq, h, neg1]
def ins : List Int → List Sp → Bool
  | p :: r, s :: t => !offB p s.lo s.hi && ins r t
  | _, _ => true
def x64 (b : Bool) : AExit × S := match b with
  | true => (.exit 0, ⟨[.junk, .junk, .junk, .junk, .junk, .junk, .junk, .junk, .junk, .junk], [], none⟩)
  | false => (.ret, ⟨[.junk, .junk, .imm (.bool false), .junk, .junk, .junk, .junk, .junk, .junk, .junk], [], none⟩)
theorem l64 {n : Nat} {b1 b2 : Bool} {pt : List Int} {sp : List Sp} (hl : pt.length ≤ sp.length) (hb : pt.length < 1000000000) : ∀ (r : List Int) (t : List Sp) (i : Nat), pt.drop i = r → sp.drop i = t →
    outC ⟨0, false⟩ [0, 0, 1, 0, 0, 0, 0, 0, 0, 0] (rnd (aCode (level E (n+1)) ⟨0, false⟩ b64_0) (head ⟨0, false⟩ [1, 0, 0, 0, 0, 1, 1, 1, 0, 0])
      ⟨[.imm (slD b2 2 (sp.map enS)), .junk, .junk, .junk, .junk, .imm (slD b1 1 (pt.map ic)), .imm (.int .i64 pt.length), .imm (.int .i64 i), .junk, .junk], [], none⟩) =
      some (x64 (ins r t))
  | [], t, i, h, h' => by
    rw [rnd_eq]
    simp only [go_sem, Nat.reduceAdd, Nat.reduceSub, Nat.reduceMul, Nat.reduceDiv, Nat.reduceMod, Nat.reduceLeDiff, Nat.reduceLT, Nat.reduceBEq, Int.reduceToNat, Int.reduceLT, Int.reduceLE, Int.reduceEq, lt_f (drop_n h), ins, x64]
  | x :: r, [], i, h, h' => by
    obtain ⟨h1, h2, h3⟩ := drop_c h
    have := drop_n h'
    omega
  | x :: r, s :: t, i, h, h' => by
    obtain ⟨h1, h2, h3⟩ := drop_c h
    obtain ⟨h1', h2', h3'⟩ := drop_c h'
    have h6 := wrpS (i := i) (by omega)
    have h59 := ok59 n x s.lo s.hi
    have IH := l64 (n := n) (b1 := b1) (b2 := b2) hl hb r t (i + 1) h3 h3'
    rw [rnd_eq]
    simp only [ins]
    cases h0 : offB x s.lo s.hi <;> rw [h0] at h59
    · simp only [go_sem, Nat.reduceAdd, Nat.reduceSub, Nat.reduceMul, Nat.reduceDiv, Nat.reduceMod, Nat.reduceLeDiff, Nat.reduceLT, Nat.reduceBEq, Int.reduceToNat, Int.reduceLT, Int.reduceLE, Int.reduceEq, lt_t h2, lt_t h2', h1, h1', h6, h59, Bool.not_false, Bool.true_and]
      exact IH
    · simp only [go_sem, Nat.reduceAdd, Nat.reduceSub, Nat.reduceMul, Nat.reduceDiv, Nat.reduceMod, Nat.reduceLeDiff, Nat.reduceLT, Nat.reduceBEq, Int.reduceToNat, Int.reduceLT, Int.reduceLE, Int.reduceEq, lt_t h2, lt_t h2', h1, h1', h6, h59, Bool.not_true, Bool.false_and, x64]
theorem ok64 (n : Nat) (b1 b2 : Bool) (pt : List Int) (sp : List Sp) (hl : pt.length ≤ sp.length) (hb : pt.length < 1000000000) : callP (level E (n+2)) 64 [slD b2 2 (sp.map enS), slD b1 1 (pt.map ic)] = some (.bool (ins pt sp)) := by
  have h := l64 (n := n) (b1 := b1) (b2 := b2) hl hb pt sp 0 rfl rfl
  rw [cast0] at h
  rw [p64]
  cases h0 : ins pt sp <;> rw [h0] at h <;> simp only [go_sem, Nat.reduceAdd, Nat.reduceSub, Nat.reduceMul, Nat.reduceDiv, Nat.reduceMod, Nat.reduceLeDiff, Nat.reduceLT, Nat.reduceBEq, Int.reduceToNat, Int.reduceLT, Int.reduceLE, Int.reduceEq, x64] at h <;> simp only [go_sem, Nat.reduceAdd, Nat.reduceSub, Nat.reduceMul, Nat.reduceDiv, Nat.reduceMod, Nat.reduceLeDiff, Nat.reduceLT, Nat.reduceBEq, Int.reduceToNat, Int.reduceLT, Int.reduceLE, Int.reduceEq, h]
theorem l90 {n : Nat} {b : Bool} {l : List Ln} {g : FuncId} {cs : List D} {p : Ln → Bool} (H : ∀ x ∈ l, callP (level E n) g (.agg (enL x) :: cs) = some (.bool (p x))) (hl : l.length < 1000000000) : ∀ (r : List Ln) (i : Nat), l.drop i = r →
    outC ⟨0, false⟩ [0, 0, 1, 0, 0, 0, 0, 0] (rnd (aCode (level E n) ⟨0, false⟩ b90_0) (head ⟨0, false⟩ [1, 1, 0, 0, 1, 1, 0, 0]) ⟨[.imm (slD b 2 (l.map enL)), .imm (.fn g [] cs), .junk, .junk, .imm (.int .i64 l.length), .imm (.int .i64 i), .junk, .junk], [], none⟩) =
      some (if r.any p then (.ret, ⟨[.junk, .junk, .imm (.int .i64 (fidx p r i)), .junk, .junk, .junk, .junk, .junk], [], none⟩) else (.exit 0, ⟨[.junk, .junk, .junk, .junk, .junk, .junk, .junk, .junk], [], none⟩))
  | [], i, h => by
    rw [rnd_eq]
    simp only [go_sem, Nat.reduceAdd, Nat.reduceSub, Nat.reduceMul, Nat.reduceDiv, Nat.reduceMod, Nat.reduceLeDiff, Nat.reduceLT, Nat.reduceBEq, Int.reduceToNat, Int.reduceLT, Int.reduceLE, Int.reduceEq, lt_f (drop_n h), List.any_nil, Bool.false_eq_true]
  | x :: r, i, h => by
    obtain ⟨h1, h2, h3⟩ := drop_c h
    have H' := H x (List.mem_of_getElem? h1)
    simp only [go_sem, Nat.reduceAdd, Nat.reduceSub, Nat.reduceMul, Nat.reduceDiv, Nat.reduceMod, Nat.reduceLeDiff, Nat.reduceLT, Nat.reduceBEq, Int.reduceToNat, Int.reduceLT, Int.reduceLE, Int.reduceEq] at H'
    rw [rnd_eq]
    cases h0 : p x
    · simp only [go_sem, Nat.reduceAdd, Nat.reduceSub, Nat.reduceMul, Nat.reduceDiv, Nat.reduceMod, Nat.reduceLeDiff, Nat.reduceLT, Nat.reduceBEq, Int.reduceToNat, Int.reduceLT, Int.reduceLE, Int.reduceEq, lt_t h2, h1, H', h0, List.any_cons, fidx, Bool.false_eq_true]
      rw [wrpS (by omega)]
      exact l90 H hl r (i + 1) h3
    · simp only [go_sem, Nat.reduceAdd, Nat.reduceSub, Nat.reduceMul, Nat.reduceDiv, Nat.reduceMod, Nat.reduceLeDiff, Nat.reduceLT, Nat.reduceBEq, Int.reduceToNat, Int.reduceLT, Int.reduceLE, Int.reduceEq, lt_t h2, h1, H', h0, List.any_cons, fidx]
theorem ok90 (n : Nat) (b : Bool) (l : List Ln) (g : FuncId) (cs : List D) (p : Ln → Bool) (H : ∀ x ∈ l, callP (level E n) g (.agg (enL x) :: cs) = some (.bool (p x))) (hl : l.length < 1000000000) :
    callP (level E (n+1)) 90 [slD b 2 (l.map enL), .fn g [] cs] = some (.int .i64 (fidx p l 0)) := by
  rw [p90]
  have h := l90 (b := b) H hl l 0
  have h1 : l.any p = false → fidx p l 0 = -1 := by
    intro h
    have : ∀ (l : List Ln) (i : Nat), l.any p = false → fidx p l i = -1 := by
      intro l
      induction l with
      | nil => intros; rfl
      | cons x r ih => intro i h; simp only [List.any_cons, Bool.or_eq_false_iff] at h; simp only [fidx, h.1, Bool.false_eq_true, if_false]; exact ih _ h.2
    exact this l 0 h
  rw [cast0] at h
  simp only [go_sem, Nat.reduceAdd, Nat.reduceSub, Nat.reduceMul, Nat.reduceDiv, Nat.reduceMod, Nat.reduceLeDiff, Nat.reduceLT, Nat.reduceBEq, Int.reduceToNat, Int.reduceLT, Int.reduceLE, Int.reduceEq]
  rw [h rfl]
  cases h0 : l.any p
  · simp only [go_sem, Nat.reduceAdd, Nat.reduceSub, Nat.reduceMul, Nat.reduceDiv, Nat.reduceMod, Nat.reduceLeDiff, Nat.reduceLT, Nat.reduceBEq, Int.reduceToNat, Int.reduceLT, Int.reduceLE, Int.reduceEq, Bool.false_eq_true, h1 h0]
  · simp only [go_sem, Nat.reduceAdd, Nat.reduceSub, Nat.reduceMul, Nat.reduceDiv, Nat.reduceMod, Nat.reduceLeDiff, Nat.reduceLT, Nat.reduceBEq, Int.reduceToNat, Int.reduceLT, Int.reduceLE, Int.reduceEq]
theorem ok65 (n : Nat) (b : Bool) (l : List Ln) (g : FuncId) (cs : List D) (p : Ln → Bool) (H : ∀ x ∈ l, callP (level E n) g (.agg (enL x) :: cs) = some (.bool (p x))) (hl : l.length < 1000000000) :
    callP (level E (n+2)) 65 [slD b 2 (l.map enL), .fn g [] cs] = some (.bool (l.any p)) := by
  rw [p65]
  simp only [go_sem, Nat.reduceAdd, Nat.reduceSub, Nat.reduceMul, Nat.reduceDiv, Nat.reduceMod, Nat.reduceLeDiff, Nat.reduceLT, Nat.reduceBEq, Int.reduceToNat, Int.reduceLT, Int.reduceLE, Int.reduceEq, ok90 n b l g cs p H hl, fidx_ge]
def rfE (c : Cl) (pt : List Int) : Int := fnz [clErr c, if decide (pt.length ≠ c.sp.length) then 2 else 0]
def rfB (c : Cl) (pt : List Int) : Bool := ins pt c.sp && !c.gv.any (neg1 pt) && neg1 pt c.go
def refutes (c : Cl) (pt : List Int) : D := if rfE c pt = 0 then .tup [.bool (rfB c pt), .int .i64 0] else .tup [.bool false, .int .i64 (rfE c pt)]
theorem ok23 (n : Nat) (c : Cl) (b : Bool) (pt : List Int) (hf : c.Fit) (hp : pt.length < 1000000000) : callP (level E (n+9)) 23 [.agg (enC c), slD b 1 (pt.map ic)] = some (refutes c pt) := by
  have h28 := ok28 n c hf
  have h57 := ok57_2 (n + 7) (clErr c) (if decide (pt.length ≠ c.sp.length) then 2 else 0)
  have h58 := ok58 (n + 7) (decide (pt.length ≠ c.sp.length)) 2
  have hd : decide (¬ ((pt.length : Nat) : Int) = c.sp.length) = decide (pt.length ≠ c.sp.length) := by
    apply decide_eq_decide.2; omega
  have hE : rfE c pt = fnz [clErr c, if decide (pt.length ≠ c.sp.length) then 2 else 0] := rfl
  rw [← hE] at h57
  rw [p23]
  unfold refutes
  simp only [go_sem, Nat.reduceAdd, Nat.reduceSub, Nat.reduceMul, Nat.reduceDiv, Nat.reduceMod, Nat.reduceLeDiff, Nat.reduceLT, Nat.reduceBEq, Int.reduceToNat, Int.reduceLT, Int.reduceLE, Int.reduceEq] at h28 h57 h58
  generalize decide (pt.length ≠ c.sp.length) = db at hd h57 h58 hE
  by_cases h0 : rfE c pt = 0
  · have h00 := h0
    rw [hE] at h0
    have hcl : clErr c = 0 := by
      by_cases h : clErr c = 0
      · exact h
      · simp [fnz, h] at h0
    have hdb : db = false := by
      cases db
      · rfl
      · rw [hcl] at h0; simp [fnz] at h0
    subst hdb
    simp only [Bool.false_eq_true, if_false] at h57 h58
    have hpl : pt.length = c.sp.length := by
      have : ((pt.length : Nat) : Int) = c.sp.length := by simpa using hd.symm
      omega
    have hev := clErr_even hf hcl
    have h64 := ok64 (n + 6) b c.sn pt c.sp (Nat.le_of_eq hpl) hp
    have H : ∀ x ∈ c.gv, callP (level E (n + 6)) 63 (.agg (enL x) :: [.ptr [.fn 62 [] []], .ptr [slD b 1 (pt.map ic)]]) = some (.bool (neg1 pt x)) := fun x hx => ok63 (n + 4) x b pt (by rw [hev.gv x hx]; omega) (hf.ln x hx)
    have h65 := ok65 (n + 6) c.gn c.gv 63 [.ptr [.fn 62 [] []], .ptr [slD b 1 (pt.map ic)]] (neg1 pt) H (by have := hf.gv; omega)
    have h63 := ok63 (n + 6) c.go b pt (by rw [hev.go]; omega) hf.go
    simp only [go_sem, Nat.reduceAdd, Nat.reduceSub, Nat.reduceMul, Nat.reduceDiv, Nat.reduceMod, Nat.reduceLeDiff, Nat.reduceLT, Nat.reduceBEq, Int.reduceToNat, Int.reduceLT, Int.reduceLE, Int.reduceEq] at h63
    simp only [go_sem, Nat.reduceAdd, Nat.reduceSub, Nat.reduceMul, Nat.reduceDiv, Nat.reduceMod, Nat.reduceLeDiff, Nat.reduceLT, Nat.reduceBEq, Int.reduceToNat, Int.reduceLT, Int.reduceLE, Int.reduceEq, h28, h57, h58, ne_eq, hd, h00, rfB, not_true_eq_false]
    cases i1 : ins pt c.sp <;> rw [i1] at h64
    · simp only [go_sem, Nat.reduceAdd, Nat.reduceSub, Nat.reduceMul, Nat.reduceDiv, Nat.reduceMod, Nat.reduceLeDiff, Nat.reduceLT, Nat.reduceBEq, Int.reduceToNat, Int.reduceLT, Int.reduceLE, Int.reduceEq, h64, Bool.false_and]
    · cases i2 : c.gv.any (neg1 pt) <;> rw [i2] at h65
      · cases i3 : neg1 pt c.go <;> rw [i3] at h63 <;> simp only [go_sem, Nat.reduceAdd, Nat.reduceSub, Nat.reduceMul, Nat.reduceDiv, Nat.reduceMod, Nat.reduceLeDiff, Nat.reduceLT, Nat.reduceBEq, Int.reduceToNat, Int.reduceLT, Int.reduceLE, Int.reduceEq, h64, h65, h63, Bool.not_false, Bool.true_and]
      · simp only [go_sem, Nat.reduceAdd, Nat.reduceSub, Nat.reduceMul, Nat.reduceDiv, Nat.reduceMod, Nat.reduceLeDiff, Nat.reduceLT, Nat.reduceBEq, Int.reduceToNat, Int.reduceLT, Int.reduceLE, Int.reduceEq, h64, h65, Bool.not_true, Bool.true_and, Bool.false_and]
  · simp only [go_sem, Nat.reduceAdd, Nat.reduceSub, Nat.reduceMul, Nat.reduceDiv, Nat.reduceMod, Nat.reduceLeDiff, Nat.reduceLT, Nat.reduceBEq, Int.reduceToNat, Int.reduceLT, Int.reduceLE, Int.reduceEq, h28, h57, h58, h0, ne_eq, hd, not_false_eq_true]
end Go.Vm.P12

/- Chapter 12, the laws: values of lines, short proofs, leaves of proofs. -/
set_option maxRecDepth 100000
namespace Go.Vm.P12
open Go Go.Vm
def ptB (pt : List Int) : Bool := pt.any fun x => offB x (-1048576) 1048576
def vlE (x : Ln) (pt : List Int) : Int := fnz [if decide ((6 : Int) < pt.length) then 5 else 0, if ptB pt then 3 else 0, lnErr x pt.length]
def value (x : Ln) (pt : List Int) : D := if vlE x pt = 0 then .tup [.int .i64 (vl x.co pt x.c), .int .i64 0] else .tup [.int .i64 0, .int .i64 (vlE x pt)]
theorem vlE_len {x : Ln} {pt : List Int} (h : vlE x pt = 0) : x.co.length = pt.length := by
  have h1 : lnErr x pt.length = 0 := by
    unfold vlE at h
    rw [fnz_cons, fnz_cons] at h
    by_cases h1 : (if decide ((6 : Int) < pt.length) then (5 : Int) else 0) = 0
    · by_cases h2 : (if ptB pt then (3 : Int) else 0) = 0
      · rw [if_pos h1, if_pos h2, fnz_cons] at h
        by_cases h3 : lnErr x pt.length = 0
        · exact h3
        · rw [if_neg h3] at h; exact h
      · rw [if_pos h1, if_neg h2] at h; exact absurd h h2
    · rw [if_neg h1] at h; exact absurd h h1
  unfold lnErr at h1
  rw [fnz_cons] at h1
  by_cases h2 : (x.co.length : Int) = pt.length
  · omega
  · simp [h2] at h1
theorem ok24 (n : Nat) (x : Ln) (b : Bool) (pt : List Int) (hx : x.co.length < 1000000000) (hp : pt.length < 1000000000) : callP (level E (n+6)) 24 [.agg (enL x), slD b 1 (pt.map ic)] = some (value x pt) := by
  have h58a := ok58 (n + 4) (decide ((6 : Int) < pt.length)) 5
  have h58b := ok58 (n + 4) (ptB pt) 3
  have h67 := ok67 (n + 3) b pt 66 [] _ (fun c _ => ok66 (n+1) c) hp
  have e67 : (pt.any fun x => offB x (-1048576) 1048576) = ptB pt := rfl
  rw [e67] at h67
  have h68 := ok68 n x pt.length hx
  have h57 := ok57_3 (n + 4) (if decide ((6 : Int) < pt.length) then 5 else 0) (if ptB pt then 3 else 0) (lnErr x pt.length)
  have hE : fnz [if decide ((6 : Int) < pt.length) then 5 else 0, if ptB pt then 3 else 0, lnErr x pt.length] = vlE x pt := rfl
  rw [hE] at h57
  rw [p24]
  simp only [go_sem, Nat.reduceAdd, Nat.reduceSub, Nat.reduceMul, Nat.reduceDiv, Nat.reduceMod, Nat.reduceLeDiff, Nat.reduceLT, Nat.reduceBEq, Int.reduceToNat, Int.reduceLT, Int.reduceLE, Int.reduceEq] at h68
  unfold value
  by_cases h0 : vlE x pt = 0
  · have h62 := ok62 (n + 4) x b pt (Nat.le_of_eq (vlE_len h0)) hx
    simp only [go_sem, Nat.reduceAdd, Nat.reduceSub, Nat.reduceMul, Nat.reduceDiv, Nat.reduceMod, Nat.reduceLeDiff, Nat.reduceLT, Nat.reduceBEq, Int.reduceToNat, Int.reduceLT, Int.reduceLE, Int.reduceEq] at h62
    simp only [go_sem, Nat.reduceAdd, Nat.reduceSub, Nat.reduceMul, Nat.reduceDiv, Nat.reduceMod, Nat.reduceLeDiff, Nat.reduceLT, Nat.reduceBEq, Int.reduceToNat, Int.reduceLT, Int.reduceLE, Int.reduceEq, h58a, h58b, h67, h68, h57, h62, h0, ne_eq, not_true_eq_false]
  · simp only [go_sem, Nat.reduceAdd, Nat.reduceSub, Nat.reduceMul, Nat.reduceDiv, Nat.reduceMod, Nat.reduceLeDiff, Nat.reduceLT, Nat.reduceBEq, Int.reduceToNat, Int.reduceLT, Int.reduceLE, Int.reduceEq, h58a, h58b, h67, h68, h57, h0, ne_eq, not_false_eq_true]
def x22 (b : Bool) : AExit × S := match b with
  | true => (.exit 0, ⟨[.junk, .junk, .junk, .junk, .junk, .junk, .junk], [], none⟩)
  | false => (.ret, ⟨[.junk, .imm (.bool false), .junk, .junk, .junk, .junk, .junk], [], none⟩)
end Go.Vm.P12

/- Chapter 12, plain laws: numbers, leaves. -/
set_option maxRecDepth 100000
namespace Go.Vm.P12
open Go Go.Vm
end Go.Vm.P12

/- Chapter 12, plain laws: the leaves of both sides. -/
set_option maxRecDepth 100000
namespace Go.Vm.P12
open Go Go.Vm
def nz (s : Stp) : Stp := { s with gn := false, ln := false, hn := false }
theorem lw_len {c : Cl} (hc : c.Even) : ∀ s ∈ leaves c, s.lw.length = c.sp.length ∧ s.hg.length = c.sp.length := by
  have hl : ∀ (goal : Int) (g : List Int), (leafOf c goal g).lw.length = c.sp.length ∧ (leafOf c goal g).hg.length = c.sp.length := by
    intro goal g
    have hll : (left ⟨true, goal, false, g, true, [], true, [], 0, 0, 0, 0⟩ c).co.length = c.sp.length := lft_len c.gv _ _ (by simp [pls, hc.go]) hc.gv
    simp [leafOf, hll]
  have hs : ∀ (g : Int) (i k m : Nat), ∀ s ∈ lfs c g i m k, s.lw.length = c.sp.length ∧ s.hg.length = c.sp.length := by
    intro g i k
    induction k with
    | zero => intro m s h; cases h
    | succ k ih =>
      intro m s h
      rcases List.mem_cons.1 h with rfl | h
      · exact hl _ _
      · exact ih _ s h
  have hg : ∀ (g : Int) (M r i : Nat), ∀ s ∈ lfg c g M i r, s.lw.length = c.sp.length ∧ s.hg.length = c.sp.length := by
    intro g M r
    induction r with
    | zero => intro i s h; cases h
    | succ r ih =>
      intro i s h
      rcases List.mem_append.1 h with h | h
      · exact hs _ _ _ _ s h
      · exact ih _ s h
  intro s h
  simp only [leaves, List.mem_append, List.mem_cons] at h
  rcases h with h | rfl | h
  · exact hg _ _ _ _ s h
  · exact hl _ _
  · exact hg _ _ _ _ s h
end Go.Vm.P12

/- Chapter 12, the laws: values in the reference, ranges, copies of proofs and claims. -/
set_option maxRecDepth 100000
set_option maxHeartbeats 2000000
namespace Go.Vm.P12
open Go Go.Vm
def rex (g : Bool) : List Int → List Sp → Int → Int
  | x :: r, s :: t, a => rex g r t (ad a (if g then max (ml x s.lo) (ml x s.hi) else min (ml x s.lo) (ml x s.hi)))
  | _, _, a => a
theorem l40 {lo : Lower} {b1 b2 : Bool} {co : List Int} {c : Int} {sp : List Sp} (hl : sp.length ≤ co.length) (hb : sp.length < 1000000000) : ∀ (t : List Sp) (r : List Int) (i : Nat) (a : Int), co.drop i = r → sp.drop i = t →
    outC ⟨0, false⟩ [0, 0, 0, 0, 1, 0, 0] (rnd (aCode lo ⟨0, false⟩ b40_0) (head ⟨0, false⟩ [0, 1, 0, 1, 1, 1, 0])
      ⟨[.junk, .imm (slD b2 2 (sp.map enS)), .junk, .ptr 0 0, .imm (.int .i64 a), .imm (.int .i64 i), .junk], [.box [.imm (slD b1 1 (co.map ic)), .imm (.int .i64 c)]], none⟩) =
      some (.exit 0, ⟨[.junk, .junk, .junk, .junk, .imm (.int .i64 (rex false r t a)), .junk, .junk], [], none⟩)
  | [], r, i, a, h, h' => by
    rw [rnd_eq]
    cases r <;> simp only [go_sem, Nat.reduceAdd, Nat.reduceSub, Nat.reduceMul, Nat.reduceDiv, Nat.reduceMod, Nat.reduceLeDiff, Nat.reduceLT, Nat.reduceBEq, Int.reduceToNat, Int.reduceLT, Int.reduceLE, Int.reduceEq, lt_f (drop_n h'), rex]
  | s :: t, [], i, a, h, h' => by
    obtain ⟨h1', h2', h3'⟩ := drop_c h'
    have := drop_n h
    omega
  | s :: t, x :: r, i, a, h, h' => by
    obtain ⟨h1, h2, h3⟩ := drop_c h
    obtain ⟨h1', h2', h3'⟩ := drop_c h'
    have h6 := wrpS (i := i) (by omega)
    have IH := l40 (lo := lo) (b1 := b1) (b2 := b2) (c := c) hl hb t r (i + 1) (ad a (min (ml x s.lo) (ml x s.hi))) h3 h3'
    have hx : ∀ y : Int, wrp .i64 (x * y) = ml x y := fun _ => rfl
    have hy : ∀ y : Int, wrp .i64 (a + y) = ad a y := fun _ => rfl
    rw [rnd_eq]
    simp only [rex, Bool.false_eq_true, if_false]
    simp only [go_sem, Nat.reduceAdd, Nat.reduceSub, Nat.reduceMul, Nat.reduceDiv, Nat.reduceMod, Nat.reduceLeDiff, Nat.reduceLT, Nat.reduceBEq, Int.reduceToNat, Int.reduceLT, Int.reduceLE, Int.reduceEq, lt_t h2, lt_t h2', h1, h1', h6, hx, hy]
    exact IH
theorem ok40 (n : Nat) (x : Ln) (b : Bool) (sp : List Sp) (hl : sp.length ≤ x.co.length) (hb : sp.length < 1000000000) : callP (level E (n+1)) 40 [.agg (enL x), slD b 2 (sp.map enS)] = some (.int .i64 (rex false x.co sp x.c)) := by
  have h := l40 (lo := level E n) (b1 := x.nl) (b2 := b) (c := x.c) hl hb sp x.co 0 x.c rfl rfl
  rw [cast0] at h
  rw [p40]
  simp only [go_sem, Nat.reduceAdd, Nat.reduceSub, Nat.reduceMul, Nat.reduceDiv, Nat.reduceMod, Nat.reduceLeDiff, Nat.reduceLT, Nat.reduceBEq, Int.reduceToNat, Int.reduceLT, Int.reduceLE, Int.reduceEq, sg_slD, h]
theorem l41 {lo : Lower} {b1 b2 : Bool} {co : List Int} {c : Int} {sp : List Sp} (hl : sp.length ≤ co.length) (hb : sp.length < 1000000000) : ∀ (t : List Sp) (r : List Int) (i : Nat) (a : Int), co.drop i = r → sp.drop i = t →
    outC ⟨0, false⟩ [0, 0, 0, 0, 1, 0, 0] (rnd (aCode lo ⟨0, false⟩ b41_0) (head ⟨0, false⟩ [0, 1, 0, 1, 1, 1, 0])
      ⟨[.junk, .imm (slD b2 2 (sp.map enS)), .junk, .ptr 0 0, .imm (.int .i64 a), .imm (.int .i64 i), .junk], [.box [.imm (slD b1 1 (co.map ic)), .imm (.int .i64 c)]], none⟩) =
      some (.exit 0, ⟨[.junk, .junk, .junk, .junk, .imm (.int .i64 (rex true r t a)), .junk, .junk], [], none⟩)
  | [], r, i, a, h, h' => by
    rw [rnd_eq]
    cases r <;> simp only [go_sem, Nat.reduceAdd, Nat.reduceSub, Nat.reduceMul, Nat.reduceDiv, Nat.reduceMod, Nat.reduceLeDiff, Nat.reduceLT, Nat.reduceBEq, Int.reduceToNat, Int.reduceLT, Int.reduceLE, Int.reduceEq, lt_f (drop_n h'), rex]
  | s :: t, [], i, a, h, h' => by
    obtain ⟨h1', h2', h3'⟩ := drop_c h'
    have := drop_n h
    omega
  | s :: t, x :: r, i, a, h, h' => by
    obtain ⟨h1, h2, h3⟩ := drop_c h
    obtain ⟨h1', h2', h3'⟩ := drop_c h'
    have h6 := wrpS (i := i) (by omega)
    have IH := l41 (lo := lo) (b1 := b1) (b2 := b2) (c := c) hl hb t r (i + 1) (ad a (max (ml x s.lo) (ml x s.hi))) h3 h3'
    have hx : ∀ y : Int, wrp .i64 (x * y) = ml x y := fun _ => rfl
    have hy : ∀ y : Int, wrp .i64 (a + y) = ad a y := fun _ => rfl
    rw [rnd_eq]
    simp only [rex, if_true]
    simp only [go_sem, Nat.reduceAdd, Nat.reduceSub, Nat.reduceMul, Nat.reduceDiv, Nat.reduceMod, Nat.reduceLeDiff, Nat.reduceLT, Nat.reduceBEq, Int.reduceToNat, Int.reduceLT, Int.reduceLE, Int.reduceEq, lt_t h2, lt_t h2', h1, h1', h6, hx, hy]
    exact IH
theorem ok41 (n : Nat) (x : Ln) (b : Bool) (sp : List Sp) (hl : sp.length ≤ x.co.length) (hb : sp.length < 1000000000) : callP (level E (n+1)) 41 [.agg (enL x), slD b 2 (sp.map enS)] = some (.int .i64 (rex true x.co sp x.c)) := by
  have h := l41 (lo := level E n) (b1 := x.nl) (b2 := b) (c := x.c) hl hb sp x.co 0 x.c rfl rfl
  rw [cast0] at h
  rw [p41]
  simp only [go_sem, Nat.reduceAdd, Nat.reduceSub, Nat.reduceMul, Nat.reduceDiv, Nat.reduceMod, Nat.reduceLeDiff, Nat.reduceLT, Nat.reduceBEq, Int.reduceToNat, Int.reduceLT, Int.reduceLE, Int.reduceEq, sg_slD, h]
theorem l43 {lo : Lower} {b1 b2 : Bool} {co : List Int} {c : Int} {pt : List Int} (hl : pt.length ≤ co.length) (hb : pt.length < 1000000000) : ∀ (t : List Int) (r : List Int) (i : Nat) (a : Int), co.drop i = r → pt.drop i = t →
    outC ⟨0, false⟩ [0, 0, 0, 0, 1, 0, 0] (rnd (aCode lo ⟨0, false⟩ b43_0) (head ⟨0, false⟩ [0, 1, 0, 1, 1, 1, 0])
      ⟨[.junk, .imm (slD b2 1 (pt.map ic)), .junk, .ptr 0 0, .imm (.int .i64 a), .imm (.int .i64 i), .junk], [.box [.imm (slD b1 1 (co.map ic)), .imm (.int .i64 c)]], none⟩) =
      some (.exit 0, ⟨[.junk, .junk, .junk, .junk, .imm (.int .i64 (vl r t a)), .junk, .junk], [], none⟩)
  | [], r, i, a, h, h' => by
    rw [rnd_eq]
    cases r <;> simp only [go_sem, Nat.reduceAdd, Nat.reduceSub, Nat.reduceMul, Nat.reduceDiv, Nat.reduceMod, Nat.reduceLeDiff, Nat.reduceLT, Nat.reduceBEq, Int.reduceToNat, Int.reduceLT, Int.reduceLE, Int.reduceEq, lt_f (drop_n h'), vl]
  | s :: t, [], i, a, h, h' => by
    obtain ⟨h1', h2', h3'⟩ := drop_c h'
    have := drop_n h
    omega
  | s :: t, x :: r, i, a, h, h' => by
    obtain ⟨h1, h2, h3⟩ := drop_c h
    obtain ⟨h1', h2', h3'⟩ := drop_c h'
    have h6 := wrpS (i := i) (by omega)
    have IH := l43 (lo := lo) (b1 := b1) (b2 := b2) (c := c) hl hb t r (i + 1) (ad a (ml x s)) h3 h3'
    have hx : wrp .i64 (a + wrp .i64 (x * s)) = ad a (ml x s) := rfl
    rw [rnd_eq]
    simp only [vl]
    simp only [go_sem, Nat.reduceAdd, Nat.reduceSub, Nat.reduceMul, Nat.reduceDiv, Nat.reduceMod, Nat.reduceLeDiff, Nat.reduceLT, Nat.reduceBEq, Int.reduceToNat, Int.reduceLT, Int.reduceLE, Int.reduceEq, lt_t h2, lt_t h2', h1, h1', h6, hx]
    exact IH
theorem ok43 (n : Nat) (x : Ln) (b : Bool) (pt : List Int) (hl : pt.length ≤ x.co.length) (hb : pt.length < 1000000000) : callP (level E (n+1)) 43 [.agg (enL x), slD b 1 (pt.map ic)] = some (.int .i64 (vl x.co pt x.c)) := by
  have h := l43 (lo := level E n) (b1 := x.nl) (b2 := b) (c := x.c) hl hb pt x.co 0 x.c rfl rfl
  rw [cast0] at h
  rw [p43]
  simp only [go_sem, Nat.reduceAdd, Nat.reduceSub, Nat.reduceMul, Nat.reduceDiv, Nat.reduceMod, Nat.reduceLeDiff, Nat.reduceLT, Nat.reduceBEq, Int.reduceToNat, Int.reduceLT, Int.reduceLE, Int.reduceEq, sg_slD, h]
def x44 (b : Bool) (l : List Int) (c : Cl) (ok : Bool) : AExit × S := match ok with
  | true => (.exit 0, ⟨[.junk, .imm (slD b 1 (l.map ic)), .junk, .ptr 0 0, .junk, .junk, .junk, .junk, .junk, .junk], [.box ((enC c).map .imm)], none⟩)
  | false => (.ret, ⟨[.junk, .imm (slD b 1 (l.map ic)), .imm (.bool false), .ptr 0 0, .junk, .junk, .junk, .junk, .junk, .junk], [.box ((enC c).map .imm)], none⟩)
theorem l44 {lo : Lower} {b : Bool} {pt : List Int} {c : Cl} (hl : pt.length ≤ c.sp.length) (hb : pt.length < 1000000000) : ∀ (r : List Int) (t : List Sp) (i : Nat), pt.drop i = r → c.sp.drop i = t →
    outC ⟨0, false⟩ [0, 1, 1, 1, 0, 0, 0, 0, 0, 0] (rnd (aCode lo ⟨0, false⟩ b44_0) (head ⟨0, false⟩ [0, 1, 0, 1, 1, 0, 0, 0, 0, 0])
      ⟨[.junk, .imm (slD b 1 (pt.map ic)), .junk, .ptr 0 0, .imm (.int .i64 i), .junk, .junk, .junk, .junk, .junk], [.box ((enC c).map .imm)], none⟩) =
      some (x44 b pt c (ins r t))
  | [], t, i, h, h' => by
    rw [rnd_eq]
    simp only [go_sem, Nat.reduceAdd, Nat.reduceSub, Nat.reduceMul, Nat.reduceDiv, Nat.reduceMod, Nat.reduceLeDiff, Nat.reduceLT, Nat.reduceBEq, Int.reduceToNat, Int.reduceLT, Int.reduceLE, Int.reduceEq, lt_f (drop_n h), ins, x44]
  | x :: r, [], i, h, h' => by
    obtain ⟨h1, h2, h3⟩ := drop_c h
    have := drop_n h'
    omega
  | x :: r, s :: t, i, h, h' => by
    obtain ⟨h1, h2, h3⟩ := drop_c h
    obtain ⟨h1', h2', h3'⟩ := drop_c h'
    have h6 := wrpS (i := i) (by omega)
    have IH := l44 (lo := lo) (b := b) hl hb r t (i + 1) h3 h3'
    rw [rnd_eq]
    simp only [ins]
    simp only [go_sem, Nat.reduceAdd, Nat.reduceSub, Nat.reduceMul, Nat.reduceDiv, Nat.reduceMod, Nat.reduceLeDiff, Nat.reduceLT, Nat.reduceBEq, Int.reduceToNat, Int.reduceLT, Int.reduceLE, Int.reduceEq] at IH
    by_cases a1 : x < s.lo
    · have e : offB x s.lo s.hi = true := by simp [offB, a1]
      simp only [go_sem, Nat.reduceAdd, Nat.reduceSub, Nat.reduceMul, Nat.reduceDiv, Nat.reduceMod, Nat.reduceLeDiff, Nat.reduceLT, Nat.reduceBEq, Int.reduceToNat, Int.reduceLT, Int.reduceLE, Int.reduceEq, lt_t h2, lt_t h2', h1, h1', h6, a1, e, Bool.not_true, Bool.false_and, x44]
    · by_cases a2 : s.hi < x
      · have e : offB x s.lo s.hi = true := by simp [offB, a2]
        simp only [go_sem, Nat.reduceAdd, Nat.reduceSub, Nat.reduceMul, Nat.reduceDiv, Nat.reduceMod, Nat.reduceLeDiff, Nat.reduceLT, Nat.reduceBEq, Int.reduceToNat, Int.reduceLT, Int.reduceLE, Int.reduceEq, lt_t h2, lt_t h2', h1, h1', h6, a1, a2, e, Bool.not_true, Bool.false_and, x44]
      · have e : offB x s.lo s.hi = false := by simp [offB, a1, a2]
        simp only [go_sem, Nat.reduceAdd, Nat.reduceSub, Nat.reduceMul, Nat.reduceDiv, Nat.reduceMod, Nat.reduceLeDiff, Nat.reduceLT, Nat.reduceBEq, Int.reduceToNat, Int.reduceLT, Int.reduceLE, Int.reduceEq, lt_t h2, lt_t h2', h1, h1', h6, a1, a2, e, Bool.not_false, Bool.true_and]
        exact IH
def x44b (b : Bool) (l : List Int) (c : Cl) (ok : Bool) : AExit × S := match ok with
  | true => (.exit 2, ⟨[.junk, .imm (slD b 1 (l.map ic)), .junk, .ptr 0 0, .junk, .junk, .junk, .junk, .junk, .junk], [.box ((enC c).map .imm)], none⟩)
  | false => (.ret, ⟨[.junk, .imm (slD b 1 (l.map ic)), .imm (.bool false), .ptr 0 0, .junk, .junk, .junk, .junk, .junk, .junk], [.box ((enC c).map .imm)], none⟩)
theorem l44b {n : Nat} {b : Bool} {pt : List Int} {c : Cl} (hg : c.gv.length < 1000000000) (hl : ∀ x ∈ c.gv, pt.length ≤ x.co.length) (hb : pt.length < 1000000000) : ∀ (r : List Ln) (i : Nat), c.gv.drop i = r →
    outC ⟨0, false⟩ [0, 1, 1, 1, 0, 0, 0, 0, 0, 0] (rnd (aCode (level E (n+1)) ⟨0, false⟩ b44_1) (head ⟨0, false⟩ [0, 1, 0, 1, 0, 1, 0, 0, 0, 0])
      ⟨[.junk, .imm (slD b 1 (pt.map ic)), .junk, .ptr 0 0, .junk, .imm (.int .i64 i), .junk, .junk, .junk, .junk], [.box ((enC c).map .imm)], none⟩) =
      some (x44b b pt c (!r.any (neg1 pt)))
  | [], i, h => by
    rw [rnd_eq]
    simp only [go_sem, Nat.reduceAdd, Nat.reduceSub, Nat.reduceMul, Nat.reduceDiv, Nat.reduceMod, Nat.reduceLeDiff, Nat.reduceLT, Nat.reduceBEq, Int.reduceToNat, Int.reduceLT, Int.reduceLE, Int.reduceEq, lt_f (drop_n h), List.any_nil, Bool.not_false, x44b]
  | x :: r, i, h => by
    obtain ⟨h1, h2, h3⟩ := drop_c h
    have h6 := wrpS (i := i) (by omega)
    have IH := l44b (n := n) (b := b) hg hl hb r (i + 1) h3
    have h43 := ok43 n x b pt (hl x (List.mem_of_getElem? h1)) hb
    rw [rnd_eq, List.any_cons]
    simp only [go_sem, Nat.reduceAdd, Nat.reduceSub, Nat.reduceMul, Nat.reduceDiv, Nat.reduceMod, Nat.reduceLeDiff, Nat.reduceLT, Nat.reduceBEq, Int.reduceToNat, Int.reduceLT, Int.reduceLE, Int.reduceEq] at IH h43
    by_cases a1 : vl x.co pt x.c < 0
    · have e : neg1 pt x = true := by simp [neg1, a1]
      simp only [go_sem, Nat.reduceAdd, Nat.reduceSub, Nat.reduceMul, Nat.reduceDiv, Nat.reduceMod, Nat.reduceLeDiff, Nat.reduceLT, Nat.reduceBEq, Int.reduceToNat, Int.reduceLT, Int.reduceLE, Int.reduceEq, lt_t h2, h1, h6, h43, a1, e, Bool.true_or, Bool.not_true, x44b]
    · have e : neg1 pt x = false := by simp [neg1, a1]
      simp only [go_sem, Nat.reduceAdd, Nat.reduceSub, Nat.reduceMul, Nat.reduceDiv, Nat.reduceMod, Nat.reduceLeDiff, Nat.reduceLT, Nat.reduceBEq, Int.reduceToNat, Int.reduceLT, Int.reduceLE, Int.reduceEq, lt_t h2, h1, h6, h43, a1, e, Bool.false_or]
      exact IH
theorem ok44 (n : Nat) (c : Cl) (b : Bool) (pt : List Int) (hc : c.Even) (hp : pt.length = c.sp.length) (hg : c.gv.length < 1000000000) (hb : pt.length < 1000000000) : callP (level E (n+2)) 44 [.agg (enC c), slD b 1 (pt.map ic)] = some (.bool (rfB c pt)) := by
  have ha := l44 (lo := level E (n+1)) (b := b) (c := c) (Nat.le_of_eq hp) hb pt c.sp 0 rfl rfl
  have hd := l44b (n := n) (b := b) (pt := pt) (c := c) hg (fun x hx => by rw [hc.gv x hx]; omega) hb c.gv 0 rfl
  have h43 := ok43 n c.go b pt (by rw [hc.go]; omega) hb
  have e43 : decide (vl c.go.co pt c.go.c < 0) = neg1 pt c.go := rfl
  rw [cast0] at ha hd
  rw [p44]
  unfold rfB
  simp only [go_sem, Nat.reduceAdd, Nat.reduceSub, Nat.reduceMul, Nat.reduceDiv, Nat.reduceMod, Nat.reduceLeDiff, Nat.reduceLT, Nat.reduceBEq, Int.reduceToNat, Int.reduceLT, Int.reduceLE, Int.reduceEq] at h43
  cases i1 : ins pt c.sp <;> rw [i1] at ha <;> simp only [go_sem, Nat.reduceAdd, Nat.reduceSub, Nat.reduceMul, Nat.reduceDiv, Nat.reduceMod, Nat.reduceLeDiff, Nat.reduceLT, Nat.reduceBEq, Int.reduceToNat, Int.reduceLT, Int.reduceLE, Int.reduceEq, x44] at ha
  · simp only [go_sem, Nat.reduceAdd, Nat.reduceSub, Nat.reduceMul, Nat.reduceDiv, Nat.reduceMod, Nat.reduceLeDiff, Nat.reduceLT, Nat.reduceBEq, Int.reduceToNat, Int.reduceLT, Int.reduceLE, Int.reduceEq, sg_slD, ha, Bool.false_and]
  · cases i2 : c.gv.any (neg1 pt) <;> rw [i2] at hd <;> simp only [go_sem, Nat.reduceAdd, Nat.reduceSub, Nat.reduceMul, Nat.reduceDiv, Nat.reduceMod, Nat.reduceLeDiff, Nat.reduceLT, Nat.reduceBEq, Int.reduceToNat, Int.reduceLT, Int.reduceLE, Int.reduceEq, x44b, Bool.not_true, Bool.not_false] at hd
    · simp only [go_sem, Nat.reduceAdd, Nat.reduceSub, Nat.reduceMul, Nat.reduceDiv, Nat.reduceMod, Nat.reduceLeDiff, Nat.reduceLT, Nat.reduceBEq, Int.reduceToNat, Int.reduceLT, Int.reduceLE, Int.reduceEq, sg_slD, ha, hd, h43, e43, Bool.not_false, Bool.true_and]
    · simp only [go_sem, Nat.reduceAdd, Nat.reduceSub, Nat.reduceMul, Nat.reduceDiv, Nat.reduceMod, Nat.reduceLeDiff, Nat.reduceLT, Nat.reduceBEq, Int.reduceToNat, Int.reduceLT, Int.reduceLE, Int.reduceEq, sg_slD, ha, hd, Bool.not_true, Bool.true_and, Bool.false_and]
end Go.Vm.P12

/- Chapter 12, functions: the form of a proof. -/
set_option maxRecDepth 100000
namespace Go.Vm.P12
open Go Go.Vm
section
variable {lo : Lower} {cx : Cx} {v0 v1 v2 v5 v6 v7 v8 v9 : AV}
def lf1 (y : Stp) (c : Cl) : Bool := decide (¬ (y.gv.length : Int) = c.gv.length) || decide (¬ (y.lw.length : Int) = c.sp.length) || decide (¬ (y.hg.length : Int) = c.sp.length)
@[go_sem high] theorem r75_3 {y : Stp} {c : Cl} {b0 b1 b2 b3 b4 b5 d1 d2 : D} :
    aCode lo cx (.region [
  ⟨none, none, .faddr 2 (.var 3)⟩,
  ⟨none, none, .load false 1 (.loc 0)⟩,
  ⟨none, none, .len .sl (.loc 1)⟩,
  ⟨none, none, .faddr 1 (.var 4)⟩,
  ⟨none, none, .load false 1 (.loc 3)⟩,
  ⟨none, none, .len .sl (.loc 4)⟩,
  ⟨none, none, .bin .neq (.loc 2) (.loc 5)⟩,
  ⟨none, none, .mv (.loc 6)⟩,
  ⟨none, some (7, false), .faddr 3 (.var 3)⟩,
  ⟨none, some (7, false), .load false 1 (.loc 8)⟩,
  ⟨none, some (7, false), .len .sl (.loc 9)⟩,
  ⟨none, some (7, false), .faddr 0 (.var 4)⟩,
  ⟨none, some (7, false), .load false 1 (.loc 11)⟩,
  ⟨none, some (7, false), .len .sl (.loc 12)⟩,
  ⟨none, some (7, false), .bin .neq (.loc 10) (.loc 13)⟩,
  ⟨none, none, .pick (.loc 7) (.k (.bool true)) (.loc 14)⟩,
  ⟨none, none, .mv (.loc 15)⟩,
  ⟨none, some (16, false), .faddr 4 (.var 3)⟩,
  ⟨none, some (16, false), .load false 1 (.loc 17)⟩,
  ⟨none, some (16, false), .len .sl (.loc 18)⟩,
  ⟨none, some (16, false), .faddr 0 (.var 4)⟩,
  ⟨none, some (16, false), .load false 1 (.loc 20)⟩,
  ⟨none, some (16, false), .len .sl (.loc 21)⟩,
  ⟨none, some (16, false), .bin .neq (.loc 19) (.loc 22)⟩,
  ⟨none, none, .pick (.loc 16) (.k (.bool true)) (.loc 23)⟩,
  ⟨(some 8), none, .mv (.loc 24)⟩] none) ⟨[v0, v1, v2, .ptr 0 0, .ptr 1 0, v5, v6, v7, v8, v9], [.box [.imm b0, .imm b1, .imm (slD y.gn 1 (y.gv.map ic)), .imm (slD y.ln 1 (y.lw.map ic)), .imm (slD y.hn 1 (y.hg.map ic)), .imm b2, .imm b3, .imm b4, .imm b5], .box [.imm (slD c.sn 2 (c.sp.map enS)), .imm (slD c.gn 2 (c.gv.map enL)), .imm d1, .imm d2]], none⟩ =
      some (.normal, ⟨[v0, v1, v2, .ptr 0 0, .ptr 1 0, v5, v6, v7, .imm (.bool (lf1 y c)), v9], [.box [.imm b0, .imm b1, .imm (slD y.gn 1 (y.gv.map ic)), .imm (slD y.ln 1 (y.lw.map ic)), .imm (slD y.hn 1 (y.hg.map ic)), .imm b2, .imm b3, .imm b4, .imm b5], .box [.imm (slD c.sn 2 (c.sp.map enS)), .imm (slD c.gn 2 (c.gv.map enL)), .imm d1, .imm d2]], none⟩) := by
  unfold lf1
  cases h1 : decide (¬ (y.gv.length : Int) = c.gv.length) <;> cases h2 : decide (¬ (y.lw.length : Int) = c.sp.length) <;>
    simp only [go_sem, Nat.reduceAdd, Nat.reduceSub, Nat.reduceMul, Nat.reduceDiv, Nat.reduceMod, Nat.reduceLeDiff, Nat.reduceLT, Nat.reduceBEq, Int.reduceToNat, Int.reduceLT, Int.reduceLE, Int.reduceEq, ne_eq, h1, h2, Bool.true_or, Bool.false_or]
def lf2 (y : Stp) : Bool := offB y.goal 0 1000 || y.gv.any (fun x => offB x 0 1000) || y.lw.any (fun x => offB x 0 34359738368) || y.hg.any (fun x => offB x 0 34359738368)
structure Stp.Fits (s : Stp) : Prop where
  gv : s.gv.length < 1000000000
  lw : s.lw.length < 1000000000
  hg : s.hg.length < 1000000000
@[go_sem high] theorem r75_4 {n : Nat} {y : Stp} {o : AO} {b0 : D} (hy : y.Fits) :
    aCode (level E (n + 4)) cx (.region [
  ⟨none, none, .mv (.var 6)⟩,
  ⟨none, none, .faddr 1 (.var 3)⟩,
  ⟨none, none, .load false 1 (.loc 1)⟩,
  ⟨none, none, .call .pure (.loc 0) [(.loc 2)]⟩,
  ⟨none, none, .mv (.loc 3)⟩,
  ⟨none, some (4, false), .faddr 2 (.var 3)⟩,
  ⟨none, some (4, false), .load false 1 (.loc 5)⟩,
  ⟨none, some (4, false), .mv (.var 6)⟩,
  ⟨none, some (4, false), .call .pure (.k (.fn 67 [] [])) [(.loc 6), (.loc 7)]⟩,
  ⟨none, none, .pick (.loc 4) (.k (.bool true)) (.loc 8)⟩,
  ⟨none, none, .mv (.loc 9)⟩,
  ⟨none, some (10, false), .faddr 3 (.var 3)⟩,
  ⟨none, some (10, false), .load false 1 (.loc 11)⟩,
  ⟨none, some (10, false), .mv (.var 7)⟩,
  ⟨none, some (10, false), .call .pure (.k (.fn 67 [] [])) [(.loc 12), (.loc 13)]⟩,
  ⟨none, none, .pick (.loc 10) (.k (.bool true)) (.loc 14)⟩,
  ⟨none, none, .mv (.loc 15)⟩,
  ⟨none, some (16, false), .faddr 4 (.var 3)⟩,
  ⟨none, some (16, false), .load false 1 (.loc 17)⟩,
  ⟨none, some (16, false), .mv (.var 7)⟩,
  ⟨none, some (16, false), .call .pure (.k (.fn 67 [] [])) [(.loc 18), (.loc 19)]⟩,
  ⟨none, none, .pick (.loc 16) (.k (.bool true)) (.loc 20)⟩,
  ⟨(some 9), none, .mv (.loc 21)⟩] none) ⟨[v0, v1, v2, .ptr 0 0, v5, v7, .imm (.fn 95 [] [.ptr [.int .i64 1000]]), .imm (.fn 95 [] [.ptr [.int .i64 34359738368]]), v8, v9], [.box [.imm b0, .imm (.int .i64 y.goal), .imm (slD y.gn 1 (y.gv.map ic)), .imm (slD y.ln 1 (y.lw.map ic)), .imm (slD y.hn 1 (y.hg.map ic)), .imm (.int .i64 y.va), .imm (.int .i64 y.bo), .imm (.int .i64 y.k0), .imm (.int .i64 y.k1)], o], none⟩ =
      some (.normal, ⟨[v0, v1, v2, .ptr 0 0, v5, v7, .imm (.fn 95 [] [.ptr [.int .i64 1000]]), .imm (.fn 95 [] [.ptr [.int .i64 34359738368]]), v8, .imm (.bool (lf2 y))], [.box [.imm b0, .imm (.int .i64 y.goal), .imm (slD y.gn 1 (y.gv.map ic)), .imm (slD y.ln 1 (y.lw.map ic)), .imm (slD y.hn 1 (y.hg.map ic)), .imm (.int .i64 y.va), .imm (.int .i64 y.bo), .imm (.int .i64 y.k0), .imm (.int .i64 y.k1)], o], none⟩) := by
  have h0 := ok95 (n + 2) y.goal 1000 []
  have h1 := ok67 (n + 2) y.gn y.gv 95 [.ptr [.int .i64 1000]] (fun x => offB x 0 1000) (fun x _ => ok95 n x 1000 []) hy.gv
  have h2 := ok67 (n + 2) y.ln y.lw 95 [.ptr [.int .i64 34359738368]] (fun x => offB x 0 34359738368) (fun x _ => ok95 n x 34359738368 []) hy.lw
  have h3 := ok67 (n + 2) y.hn y.hg 95 [.ptr [.int .i64 34359738368]] (fun x => offB x 0 34359738368) (fun x _ => ok95 n x 34359738368 []) hy.hg
  unfold lf2
  cases a0 : offB y.goal 0 1000 <;> rw [a0] at h0 <;> cases a1 : y.gv.any (fun x => offB x 0 1000) <;> rw [a1] at h1 <;> cases a2 : y.lw.any (fun x => offB x 0 34359738368) <;> rw [a2] at h2 <;>
    simp only [go_sem, Nat.reduceAdd, Nat.reduceSub, Nat.reduceMul, Nat.reduceDiv, Nat.reduceMod, Nat.reduceLeDiff, Nat.reduceLT, Nat.reduceBEq, Int.reduceToNat, Int.reduceLT, Int.reduceLE, Int.reduceEq, h0, h1, h2, h3, Bool.true_or, Bool.false_or]
def lf3 (y : Stp) : Bool := decide (¬ y.va = 0) || decide (¬ y.bo = 0) || !(decide (y.k0 = 0) && decide (y.k1 = 0))
def lfErr (y : Stp) (c : Cl) : Int := fnz [if lf1 y c then 2 else 0, if lf2 y then 3 else 0, if lf3 y then 1 else 0]
@[go_sem high] theorem r75_5 {n : Nat} {y : Stp} {o : AO} {b0 : D} {e1 e2 : Bool} :
    aCode (level E (n + 1)) cx (.region [
  ⟨none, none, .mv (.var 8)⟩,
  ⟨none, none, .call .pure (.k (.fn 58 [] [])) [(.loc 0), (.k (.int .i64 2))]⟩,
  ⟨none, none, .mv (.var 9)⟩,
  ⟨none, none, .call .pure (.k (.fn 58 [] [])) [(.loc 2), (.k (.int .i64 3))]⟩,
  ⟨none, none, .faddr 5 (.var 3)⟩,
  ⟨none, none, .load false 1 (.loc 4)⟩,
  ⟨none, none, .bin .neq (.loc 5) (.k (.int .i64 0))⟩,
  ⟨none, none, .mv (.loc 6)⟩,
  ⟨none, some (7, false), .faddr 6 (.var 3)⟩,
  ⟨none, some (7, false), .load false 1 (.loc 8)⟩,
  ⟨none, some (7, false), .bin .neq (.loc 9) (.k (.int .i64 0))⟩,
  ⟨none, none, .pick (.loc 7) (.k (.bool true)) (.loc 10)⟩,
  ⟨none, none, .mv (.loc 11)⟩,
  ⟨none, some (12, false), .faddr 7 (.var 3)⟩,
  ⟨none, some (12, false), .load true 2 (.loc 13)⟩,
  ⟨none, some (12, false), .build [.int .i64 0, .int .i64 0] []⟩,
  ⟨none, some (12, false), .eqs true (.agg [(0, .int), (1, .int)]) (.loc 14) (.loc 15)⟩,
  ⟨none, none, .pick (.loc 12) (.k (.bool true)) (.loc 16)⟩,
  ⟨none, none, .call .pure (.k (.fn 58 [] [])) [(.loc 17), (.k (.int .i64 1))]⟩,
  ⟨none, none, .bslice false 1 [.int .i64 0] 3 [(0, (.loc 1)), (1, (.loc 3)), (2, (.loc 18))]⟩,
  ⟨none, none, .call .pure (.k (.fn 57 [] [])) [(.loc 19)]⟩,
  ⟨(some 2), none, .mv (.loc 20)⟩] (some (22, []))) ⟨[v0, v1, v2, .ptr 0 0, v5, v7, v6, v8, .imm (.bool e1), .imm (.bool e2)], [.box [.imm b0, .imm (.int .i64 y.goal), .imm (slD y.gn 1 (y.gv.map ic)), .imm (slD y.ln 1 (y.lw.map ic)), .imm (slD y.hn 1 (y.hg.map ic)), .imm (.int .i64 y.va), .imm (.int .i64 y.bo), .imm (.int .i64 y.k0), .imm (.int .i64 y.k1)], o], none⟩ =
      some (.normal, ⟨[v0, v1, .imm (.int .i64 (fnz [if e1 then 2 else 0, if e2 then 3 else 0, if lf3 y then 1 else 0])), .ptr 0 0, v5, v7, v6, v8, .imm (.bool e1), .imm (.bool e2)], [.box [.imm b0, .imm (.int .i64 y.goal), .imm (slD y.gn 1 (y.gv.map ic)), .imm (slD y.ln 1 (y.lw.map ic)), .imm (slD y.hn 1 (y.hg.map ic)), .imm (.int .i64 y.va), .imm (.int .i64 y.bo), .imm (.int .i64 y.k0), .imm (.int .i64 y.k1)], o], none⟩) := by
  have h1 := ok58 n e1 2
  have h2 := ok58 n e2 3
  have h3 := ok58 n (lf3 y) 1
  have h57 := ok57_3 n (if e1 then 2 else 0) (if e2 then 3 else 0) (if lf3 y then 1 else 0)
  have hl : lf3 y = (decide (¬ y.va = 0) || decide (¬ y.bo = 0) || !(decide (y.k0 = 0) && decide (y.k1 = 0))) := rfl
  cases a0 : decide (¬ y.va = 0) <;> rw [a0] at hl
  · cases a1 : decide (¬ y.bo = 0) <;> rw [a1] at hl
    · simp only [Bool.false_or] at hl
      simp only [← hl, go_sem, Nat.reduceAdd, Nat.reduceSub, Nat.reduceMul, Nat.reduceDiv, Nat.reduceMod, Nat.reduceLeDiff, Nat.reduceLT, Nat.reduceBEq, Int.reduceToNat, Int.reduceLT, Int.reduceLE, Int.reduceEq, ne_eq, a0, a1, h1, h2, h3, h57, eq_agg2]
    · simp only [Bool.true_or, Bool.false_or] at hl
      rw [hl] at h3 h57 ⊢
      simp only [if_true] at h3 h57
      simp only [go_sem, Nat.reduceAdd, Nat.reduceSub, Nat.reduceMul, Nat.reduceDiv, Nat.reduceMod, Nat.reduceLeDiff, Nat.reduceLT, Nat.reduceBEq, Int.reduceToNat, Int.reduceLT, Int.reduceLE, Int.reduceEq, ne_eq, a0, a1, h1, h2, h3, h57, eq_agg2]
  · simp only [Bool.true_or] at hl
    rw [hl] at h3 h57 ⊢
    simp only [if_true] at h3 h57
    simp only [go_sem, Nat.reduceAdd, Nat.reduceSub, Nat.reduceMul, Nat.reduceDiv, Nat.reduceMod, Nat.reduceLeDiff, Nat.reduceLT, Nat.reduceBEq, Int.reduceToNat, Int.reduceLT, Int.reduceLE, Int.reduceEq, ne_eq, a0, h1, h2, h3, h57, eq_agg2]
theorem ok75 (n : Nat) (y : Stp) (c : Cl) (hy : y.Fits) : callP (level E (n + 5)) 75 [.agg (enT y), .agg (enC c)] = some (.int .i64 (lfErr y c)) := by
  have h94 := ok94 (n + 3)
  have r4 := fun (v0 v1 v2 v5 v7 v8 v9 : AV) (o : AO) (b0 : D) => @r75_4 ⟨0, false⟩ v0 v1 v2 v5 v7 v8 v9 n y o b0 hy
  rw [p75]
  simp only [go_sem, Nat.reduceAdd, Nat.reduceSub, Nat.reduceMul, Nat.reduceDiv, Nat.reduceMod, Nat.reduceLeDiff, Nat.reduceLT, Nat.reduceBEq, Int.reduceToNat, Int.reduceLT, Int.reduceLE, Int.reduceEq, h94, r4]
  rfl
end
end Go.Vm.P12

/- Chapter 12, functions: the form of a proof, splits. -/
set_option maxRecDepth 100000
namespace Go.Vm.P12
open Go Go.Vm
def mk (ks : List Int) : List (Int × D) := ks.map (·, .bool true)
theorem look_mk (k : Int) : ∀ ks : List Int, (lookI (mk ks) k).getD (.bool false) = .bool (ks.contains k)
  | [] => rfl
  | x :: ks => by
    have IH := look_mk k ks
    simp only [lookI, mk, List.map_cons] at IH ⊢
    rw [List.find?_cons]
    simp only
    by_cases h : x = k
    · subst h; simp
    · have h1 : (x == k) = false := by simpa using h
      have h2 : (k == x) = false := by simpa using fun e : k = x => h e.symm
      rw [h1, List.contains_cons, h2]
      simpa using IH
theorem set_mk (k : Int) : ∀ ks : List Int, ks.contains k = false → mapSet (mk ks) k (.bool true) = mk (ks ++ [k])
  | [], _ => rfl
  | x :: ks, h => by
    rw [List.contains_cons, Bool.or_eq_false_iff] at h
    have h1 : ¬ x = k := fun e => by rw [e] at h; simp at h
    have IH := set_mk k ks h.2
    simp only [mk, List.map_cons, mapSet, if_neg h1, List.cons_append] at IH ⊢
    rw [IH]
def lk2 (z : D) (k : Int) (o : Option AO) : Option (AV × List AO) := match o with
  | some (.imap es) => some (.imm ((lookI es k).getD z), [])
  | _ => none
theorem lk_map {st : List AO} {z : D} {id : Nat} {k : Int} : lkC st z (.map id) (some k) = lk2 z k st[id]? := by
  simp only [lkC, lk2]
  rcases st[id]? with _ | o
  · rfl
  · cases o <;> rfl
theorem lk_mk {k : Int} {ks : List Int} : lk2 (.bool false) k (some (.imap (mk ks))) = some (.imm (.bool (ks.contains k)), []) := by
  simp only [lk2, look_mk]
def muC (vars : List AV) (ext : Option Ext) (st : List AO) (id : Nat) (k : Int) (v : D) (o : Option AO) : Option (AV × S) := match o with
  | some (.imap es) => some (.junk, ⟨vars, st.set id (.imap (mapSet es k v)), ext⟩)
  | _ => none
def muF (vars : List AV) (ext : Option Ext) (st : List AO) (m : AV) (k : Option Int) (v : AV) : Option (AV × S) := match m, k, v with
  | .map id, some k, .imm v => muC vars ext st id k v st[id]?
  | _, _, _ => none
theorem mu_go {vars : List AV} {ext : Option Ext} {st : List AO} {id : Nat} {k : Int} {d : D} : muF vars ext st (.map id) (some k) (.imm d) = muC vars ext st id k d st[id]? := _root_.id rfl
theorem op_mapup' {lo : Lower} {vars env : List AV} {st : List AO} {ext : Option Ext} {m k v : Opnd} :
    aOp lo vars env ⟨vars, st, ext⟩ (.mapup m k v) = muF vars ext st (opnd vars env m) (keyI (opnd vars env k)) (opnd vars env v) := by
  simp only [aOp, muF, muC]
  rcases opnd vars env m <;> rcases keyI (opnd vars env k) with _ | k' <;> rcases opnd vars env v <;> simp only <;> split <;> simp_all
theorem mu_mk {vars : List AV} {st : List AO} {ext : Option Ext} {id : Nat} {k : Int} {ks : List Int} (h : ks.contains k = false) : muC vars ext st id k (.bool true) (some (.imap (mk ks))) = some (.junk, ⟨vars, st.set id (.imap (mk (ks ++ [k]))), ext⟩) := by
  simp only [muC, set_mk k ks h]
theorem len_mk {ks : List Int} : (mk ks).length = ks.length := by simp [mk]
attribute [go_sem] lk_map lk_mk op_mapup' mu_go mu_mk len_mk
section
variable {lo : Lower} {cx : Cx} {v0 v1 v2 v3 v4 v7 v8 v9 v10 v11 v12 v13 v14 : AV}
def sp1 (y : Stp) : Bool := decide (¬ y.goal = 0) || decide (0 < wrp .i64 (wrp .i64 (y.gv.length + y.lw.length) + y.hg.length))
@[go_sem high] theorem r76_1 {m o : AO} {y : Stp} {b0 b2 b3 b4 b5 : D} :
    aCode lo cx (.region [
  ⟨none, none, .faddr 1 (.var 5)⟩,
  ⟨none, none, .load false 1 (.loc 0)⟩,
  ⟨none, none, .bin .neq (.loc 1) (.k (.int .i64 0))⟩,
  ⟨none, none, .mv (.loc 2)⟩,
  ⟨none, some (3, false), .faddr 2 (.var 5)⟩,
  ⟨none, some (3, false), .load false 1 (.loc 4)⟩,
  ⟨none, some (3, false), .len .sl (.loc 5)⟩,
  ⟨none, some (3, false), .faddr 3 (.var 5)⟩,
  ⟨none, some (3, false), .load false 1 (.loc 7)⟩,
  ⟨none, some (3, false), .len .sl (.loc 8)⟩,
  ⟨none, some (3, false), .bin .add (.loc 6) (.loc 9)⟩,
  ⟨none, some (3, false), .faddr 4 (.var 5)⟩,
  ⟨none, some (3, false), .load false 1 (.loc 11)⟩,
  ⟨none, some (3, false), .len .sl (.loc 12)⟩,
  ⟨none, some (3, false), .bin .add (.loc 10) (.loc 13)⟩,
  ⟨none, some (3, false), .bin .gtr (.loc 14) (.k (.int .i64 0))⟩,
  ⟨none, none, .pick (.loc 3) (.k (.bool true)) (.loc 15)⟩,
  ⟨(some 7), none, .mv (.loc 16)⟩] none) ⟨[v0, v1, v2, v3, v4, .ptr 1 0, .ptr 2 0, v7, v8, v9, v10, v11, v12, v13, v14], [m, .box [.imm b0, .imm (.int .i64 y.goal), .imm (slD y.gn 1 (y.gv.map ic)), .imm (slD y.ln 1 (y.lw.map ic)), .imm (slD y.hn 1 (y.hg.map ic)), .imm b2, .imm b3, .imm b4, .imm b5], o], none⟩ =
      some (.normal, ⟨[v0, v1, v2, v3, v4, .ptr 1 0, .ptr 2 0, .imm (.bool (sp1 y)), v8, v9, v10, v11, v12, v13, v14], [m, .box [.imm b0, .imm (.int .i64 y.goal), .imm (slD y.gn 1 (y.gv.map ic)), .imm (slD y.ln 1 (y.lw.map ic)), .imm (slD y.hn 1 (y.hg.map ic)), .imm b2, .imm b3, .imm b4, .imm b5], o], none⟩) := by
  unfold sp1
  cases h1 : decide (¬ y.goal = 0) <;> simp only [go_sem, Nat.reduceAdd, Nat.reduceSub, Nat.reduceMul, Nat.reduceDiv, Nat.reduceMod, Nat.reduceLeDiff, Nat.reduceLT, Nat.reduceBEq, Int.reduceToNat, Int.reduceLT, Int.reduceLE, Int.reduceEq, ne_eq, h1, Bool.true_or, Bool.false_or]
def sp2 (y : Stp) (i : Int) : Bool := offB y.k0 0 (sb i 1) || offB y.k1 0 (sb i 1)
def spE (e : Bool) (y : Stp) (c : Cl) (i : Int) : Int := fnz [if e then 1 else 0, if offB y.va 0 (sb c.sp.length 1) then 8 else 0, if offB y.bo (-1048576) 1048576 then 3 else 0, if sp2 y i then 9 else 0]
@[go_sem high] theorem r76_2 {n : Nat} {m : AO} {y : Stp} {c : Cl} {i : Int} {b0 b1 b2 b3 b4 d0 d1 d2 : D} {e : Bool} :
    aCode (level E (n + 1)) cx (.region [
  ⟨none, none, .mv (.var 7)⟩,
  ⟨none, none, .call .pure (.k (.fn 58 [] [])) [(.loc 0), (.k (.int .i64 1))]⟩,
  ⟨none, none, .faddr 5 (.var 5)⟩,
  ⟨none, none, .load false 1 (.loc 2)⟩,
  ⟨none, none, .faddr 0 (.var 6)⟩,
  ⟨none, none, .load false 1 (.loc 4)⟩,
  ⟨none, none, .len .sl (.loc 5)⟩,
  ⟨none, none, .bin .sub (.loc 6) (.k (.int .i64 1))⟩,
  ⟨none, none, .call .pure (.k (.fn 59 [] [])) [(.loc 3), (.k (.int .i64 0)), (.loc 7)]⟩,
  ⟨none, none, .call .pure (.k (.fn 58 [] [])) [(.loc 8), (.k (.int .i64 8))]⟩,
  ⟨none, none, .faddr 6 (.var 5)⟩,
  ⟨none, none, .load false 1 (.loc 10)⟩,
  ⟨none, none, .call .pure (.k (.fn 59 [] [])) [(.loc 11), (.k (.int .i64 (-1048576))), (.k (.int .i64 1048576))]⟩,
  ⟨none, none, .call .pure (.k (.fn 58 [] [])) [(.loc 12), (.k (.int .i64 3))]⟩,
  ⟨none, none, .faddr 7 (.var 5)⟩,
  ⟨none, none, .iaddr (some 2) 1 (.loc 14) (.k (.int .i64 0))⟩,
  ⟨none, none, .load false 1 (.loc 15)⟩,
  ⟨none, none, .mv (.var 2)⟩,
  ⟨none, none, .bin .sub (.loc 17) (.k (.int .i64 1))⟩,
  ⟨none, none, .call .pure (.k (.fn 59 [] [])) [(.loc 16), (.k (.int .i64 0)), (.loc 18)]⟩,
  ⟨none, none, .mv (.loc 19)⟩,
  ⟨none, some (20, false), .faddr 7 (.var 5)⟩,
  ⟨none, some (20, false), .iaddr (some 2) 1 (.loc 21) (.k (.int .i64 1))⟩,
  ⟨none, some (20, false), .load false 1 (.loc 22)⟩,
  ⟨none, some (20, false), .mv (.var 2)⟩,
  ⟨none, some (20, false), .bin .sub (.loc 24) (.k (.int .i64 1))⟩,
  ⟨none, some (20, false), .call .pure (.k (.fn 59 [] [])) [(.loc 23), (.k (.int .i64 0)), (.loc 25)]⟩,
  ⟨none, none, .pick (.loc 20) (.k (.bool true)) (.loc 26)⟩,
  ⟨none, none, .call .pure (.k (.fn 58 [] [])) [(.loc 27), (.k (.int .i64 9))]⟩,
  ⟨none, none, .bslice false 1 [.int .i64 0] 4 [(0, (.loc 1)), (1, (.loc 9)), (2, (.loc 13)), (3, (.loc 28))]⟩,
  ⟨none, none, .call .pure (.k (.fn 57 [] [])) [(.loc 29)]⟩,
  ⟨(some 8), none, .mv (.loc 30)⟩] (some (32, []))) ⟨[v0, v1, .imm (.int .i64 i), v3, v4, .ptr 1 0, .ptr 2 0, .imm (.bool e), v8, v9, v10, v11, v12, v13, v14], [m, .box [.imm b0, .imm b1, .imm b2, .imm b3, .imm b4, .imm (.int .i64 y.va), .imm (.int .i64 y.bo), .imm (.int .i64 y.k0), .imm (.int .i64 y.k1)], .box [.imm (slD c.sn 2 (c.sp.map enS)), .imm d0, .imm d1, .imm d2]], none⟩ =
      some (.normal, ⟨[v0, v1, .imm (.int .i64 i), v3, v4, .ptr 1 0, .ptr 2 0, .imm (.bool e), .imm (.int .i64 (spE e y c i)), v9, v10, v11, v12, v13, v14], [m, .box [.imm b0, .imm b1, .imm b2, .imm b3, .imm b4, .imm (.int .i64 y.va), .imm (.int .i64 y.bo), .imm (.int .i64 y.k0), .imm (.int .i64 y.k1)], .box [.imm (slD c.sn 2 (c.sp.map enS)), .imm d0, .imm d1, .imm d2]], none⟩) := by
  have h1 := ok58 n e 1
  have h2 := ok58 n (offB y.va 0 (sb c.sp.length 1)) 8
  have h3 := ok58 n (offB y.bo (-1048576) 1048576) 3
  have h4 := ok58 n (sp2 y i) 9
  have h57 := ok57_4 n (if e then 1 else 0) (if offB y.va 0 (sb c.sp.length 1) then 8 else 0) (if offB y.bo (-1048576) 1048576 then 3 else 0) (if sp2 y i then 9 else 0)
  have h5 := ok59 n y.k0 0 (sb i 1)
  have h6 := ok59 n y.k1 0 (sb i 1)
  have h7 := ok59 n y.va 0 (sb c.sp.length 1)
  have h8 := ok59 n y.bo (-1048576) 1048576
  have g1 : wrp .i64 (((c.sp.length : Nat) : Int) - 1) = sb c.sp.length 1 := rfl
  have g2 : wrp .i64 (i - 1) = sb i 1 := rfl
  have z0 : (0 : Int) < ((2 : Nat) : Int) := by decide
  have z1 : (1 : Int) < ((2 : Nat) : Int) := by decide
  have hs : sp2 y i = (offB y.k0 0 (sb i 1) || offB y.k1 0 (sb i 1)) := rfl
  unfold spE
  cases a0 : offB y.k0 0 (sb i 1) <;> rw [a0] at h5 hs
  · simp only [Bool.false_or] at hs
    rw [← hs] at h6
    simp only [go_sem, Nat.reduceAdd, Nat.reduceSub, Nat.reduceMul, Nat.reduceDiv, Nat.reduceMod, Nat.reduceLeDiff, Nat.reduceLT, Nat.reduceBEq, Int.reduceToNat, Int.reduceLT, Int.reduceLE, Int.reduceEq, g1, g2, z0, z1, h1, h2, h3, h4, h57, h5, h6, h7, h8]
  · simp only [Bool.true_or] at hs
    rw [hs] at h4 h57 ⊢
    simp only [if_true] at h4 h57
    simp only [go_sem, Nat.reduceAdd, Nat.reduceSub, Nat.reduceMul, Nat.reduceDiv, Nat.reduceMod, Nat.reduceLeDiff, Nat.reduceLT, Nat.reduceBEq, Int.reduceToNat, Int.reduceLT, Int.reduceLE, Int.reduceEq, g1, g2, z0, z1, h1, h2, h3, h4, h57, h5, h6, h7, h8]
end
def spl (y : Stp) (c : Cl) (i : Int) (ks : List Int) : Int × List Int :=
  if spE (sp1 y) y c i = 0 then
    if ks.contains y.k0 then (7, ks) else if (ks ++ [y.k0]).contains y.k1 then (7, ks ++ [y.k0]) else (0, ks ++ [y.k0] ++ [y.k1])
  else (spE (sp1 y) y c i, ks)
theorem ok76 (n : Nat) (y : Stp) (c : Cl) (i : Int) (ks : List Int) : callS (level E (n + 2)) 76 [.imm (.agg (enT y)), .imm (.agg (enC c)), .imm (.int .i64 i), .map 0] [.imap (mk ks)] = some (.imm (.int .i64 (spl y c i ks).1), [.imap (mk (spl y c i ks).2)]) := by
  rw [callS_go (n := n + 1) (fn := ir76) (c := c76) (r := [.v 4]) rfl rfl rfl rfl rfl]
  have u := rnd_eq (aCode (level E (n + 1)) ⟨1, false⟩ b76_0)
  have z0 : (0 : Int) < ((2 : Nat) : Int) := by decide
  have z1 : (1 : Int) < ((2 : Nat) : Int) := by decide
  unfold spl
  by_cases h0 : spE (sp1 y) y c i = 0
  · cases a0 : ks.contains y.k0
    · cases a1 : (ks ++ [y.k0]).contains y.k1
      · simp only [go_sem, Nat.reduceAdd, Nat.reduceSub, Nat.reduceMul, Nat.reduceDiv, Nat.reduceMod, Nat.reduceLeDiff, Nat.reduceLT, Nat.reduceBEq, Int.reduceToNat, Int.reduceLT, Int.reduceLE, Int.reduceEq, ir76, sg_slD, h0, u, z0, z1, a0, a1, ne_eq, not_true_eq_false]
        trace_state
      · simp only [go_sem, Nat.reduceAdd, Nat.reduceSub, Nat.reduceMul, Nat.reduceDiv, Nat.reduceMod, Nat.reduceLeDiff, Nat.reduceLT, Nat.reduceBEq, Int.reduceToNat, Int.reduceLT, Int.reduceLE, Int.reduceEq, ir76, sg_slD, h0, u, z0, z1, a0, a1, ne_eq, not_true_eq_false]
        trace_state
    · simp only [go_sem, Nat.reduceAdd, Nat.reduceSub, Nat.reduceMul, Nat.reduceDiv, Nat.reduceMod, Nat.reduceLeDiff, Nat.reduceLT, Nat.reduceBEq, Int.reduceToNat, Int.reduceLT, Int.reduceLE, Int.reduceEq, ir76, sg_slD, h0, u, z0, z1, a0, ne_eq, not_true_eq_false]
      trace_state
  · simp only [go_sem, Nat.reduceAdd, Nat.reduceSub, Nat.reduceMul, Nat.reduceDiv, Nat.reduceMod, Nat.reduceLeDiff, Nat.reduceLT, Nat.reduceBEq, Int.reduceToNat, Int.reduceLT, Int.reduceLE, Int.reduceEq, ir76, sg_slD, h0, ne_eq, not_false_eq_true]
    trace_state
end Go.Vm.P12

/- Chapter 12, functions: the form of a proof, end. -/
set_option maxRecDepth 100000
namespace Go.Vm.P12
open Go Go.Vm
def cf (c : Cl) : List Stp → Nat → List Int → Int × List Int
  | [], _, ks => (0, ks)
  | s :: r, i, ks => if s.leaf then (if lfErr s c = 0 then cf c r (i + 1) ks else (lfErr s c, ks)) else
    if (spl s c i ks).1 = 0 then cf c r (i + 1) (spl s c i ks).2 else spl s c i ks
def x29 (b : Bool) (l : List Stp) (r : Int × List Int) : AExit × S := if r.1 = 0 then
    (.exit 0, ⟨[.junk, .junk, .junk, .junk, .ptr 0 0, .junk, .map 1, .junk, .junk, .junk, .junk, .junk, .junk, .junk, .junk, .junk, .junk], [.box [.imm (slD b 9 (l.map enT))], .imap (mk r.2)], none⟩)
  else (.ret, ⟨[.junk, .junk, .imm (.int .i64 r.1), .junk, .ptr 0 0, .junk, .map 1, .junk, .junk, .junk, .junk, .junk, .junk, .junk, .junk, .junk, .junk], [.box [.imm (slD b 9 (l.map enT))], .imap (mk r.2)], none⟩)
theorem l29 {n : Nat} {c : Cl} {b : Bool} {l : List Stp} (hl : l.length < 1000000000) (hf : ∀ s ∈ l, s.Fits) : ∀ (r : List Stp) (i : Nat) (ks : List Int), l.drop i = r →
    outC ⟨0, false⟩ [0, 0, 1, 0, 1, 0, 1, 0, 0, 0, 0, 0, 0, 0, 0, 0, 0] (rnd (aCode (level E (n + 5)) ⟨0, false⟩ b29_0) (head ⟨0, false⟩ [0, 0, 0, 1, 1, 0, 1, 0, 0, 0, 0, 1, 1, 1, 0, 0, 0])
      ⟨[.junk, .junk, .junk, .ptr 0 0, .ptr 1 0, .junk, .map 2, .junk, .junk, .junk, .junk, .imm (slD b 9 (l.map enT)), .imm (.int .i64 l.length), .imm (.int .i64 i), .junk, .junk, .junk],
       [.box ((enC c).map .imm), .box [.imm (slD b 9 (l.map enT))], .imap (mk ks)], none⟩) = some (x29 b l (cf c r i ks))
  | [], i, ks, h => by
    rw [rnd_eq]
    simp only [go_sem, Nat.reduceAdd, Nat.reduceSub, Nat.reduceMul, Nat.reduceDiv, Nat.reduceMod, Nat.reduceLeDiff, Nat.reduceLT, Nat.reduceBEq, Int.reduceToNat, Int.reduceLT, Int.reduceLE, Int.reduceEq, lt_f (drop_n h), cf, x29]
  | s :: r, i, ks, h => by
    obtain ⟨h1, h2, h3⟩ := drop_c h
    have h6 := wrpS (i := i) (by omega)
    have h75 := ok75 n s c (hf s (List.mem_of_getElem? h1))
    have h76 := ok76 (n + 3) s c i ks
    rw [rnd_eq]
    simp only [cf]
    cases hs : s.leaf
    · simp only [Bool.false_eq_true, if_false]
      generalize spl s c i ks = q at h76
      obtain ⟨e, ks'⟩ := q
      simp only [go_sem, Nat.reduceAdd, Nat.reduceSub, Nat.reduceMul, Nat.reduceDiv, Nat.reduceMod, Nat.reduceLeDiff, Nat.reduceLT, Nat.reduceBEq, Int.reduceToNat, Int.reduceLT, Int.reduceLE, Int.reduceEq, hs] at h76
      by_cases h0 : e = 0
      · have IH := l29 (n := n) (c := c) (b := b) hl hf r (i + 1) ks' h3
        simp only [h0, if_true]
        rw [h0] at h76
        simp only [go_sem, Nat.reduceAdd, Nat.reduceSub, Nat.reduceMul, Nat.reduceDiv, Nat.reduceMod, Nat.reduceLeDiff, Nat.reduceLT, Nat.reduceBEq, Int.reduceToNat, Int.reduceLT, Int.reduceLE, Int.reduceEq] at IH
        simp only [go_sem, Nat.reduceAdd, Nat.reduceSub, Nat.reduceMul, Nat.reduceDiv, Nat.reduceMod, Nat.reduceLeDiff, Nat.reduceLT, Nat.reduceBEq, Int.reduceToNat, Int.reduceLT, Int.reduceLE, Int.reduceEq, lt_t h2, h1, h6, hs, h76, ne_eq, not_true_eq_false]
        exact IH
      · simp only [h0, if_false, x29]
        simp only [go_sem, Nat.reduceAdd, Nat.reduceSub, Nat.reduceMul, Nat.reduceDiv, Nat.reduceMod, Nat.reduceLeDiff, Nat.reduceLT, Nat.reduceBEq, Int.reduceToNat, Int.reduceLT, Int.reduceLE, Int.reduceEq, lt_t h2, h1, h6, hs, h76, ne_eq, h0, not_false_eq_true]
    · simp only [if_true]
      simp only [go_sem, Nat.reduceAdd, Nat.reduceSub, Nat.reduceMul, Nat.reduceDiv, Nat.reduceMod, Nat.reduceLeDiff, Nat.reduceLT, Nat.reduceBEq, Int.reduceToNat, Int.reduceLT, Int.reduceLE, Int.reduceEq, hs] at h75
      by_cases h0 : lfErr s c = 0
      · have IH := l29 (n := n) (c := c) (b := b) hl hf r (i + 1) ks h3
        simp only [h0, if_true]
        rw [h0] at h75
        simp only [go_sem, Nat.reduceAdd, Nat.reduceSub, Nat.reduceMul, Nat.reduceDiv, Nat.reduceMod, Nat.reduceLeDiff, Nat.reduceLT, Nat.reduceBEq, Int.reduceToNat, Int.reduceLT, Int.reduceLE, Int.reduceEq] at IH
        simp only [go_sem, Nat.reduceAdd, Nat.reduceSub, Nat.reduceMul, Nat.reduceDiv, Nat.reduceMod, Nat.reduceLeDiff, Nat.reduceLT, Nat.reduceBEq, Int.reduceToNat, Int.reduceLT, Int.reduceLE, Int.reduceEq, lt_t h2, h1, h6, hs, h75, ne_eq, not_true_eq_false]
        exact IH
      · simp only [h0, if_false, x29]
        simp only [go_sem, Nat.reduceAdd, Nat.reduceSub, Nat.reduceMul, Nat.reduceDiv, Nat.reduceMod, Nat.reduceLeDiff, Nat.reduceLT, Nat.reduceBEq, Int.reduceToNat, Int.reduceLT, Int.reduceLE, Int.reduceEq, lt_t h2, h1, h6, hs, h75, ne_eq, h0, not_false_eq_true]
def cfE (c : Cl) (l : List Stp) : Int := fnz [clErr c, if decide ((l.length : Int) = 0) then 10 else 0, if decide ((400 : Int) < l.length) then 5 else 0]
def cform (c : Cl) (l : List Stp) : Int := if cfE c l = 0 then
    let r := cf c l 0 []
    if r.1 = 0 then (if decide (¬ (r.2.length : Int) = sb l.length 1) then 2 else 0) else r.1
  else cfE c l
theorem ok29 (n : Nat) (c : Cl) (b : Bool) (l : List Stp) (hc : c.Fit) (hl : l.length < 1000000000) (hf : ∀ s ∈ l, s.Fits) : callP (level E (n+9)) 29 [.agg (enC c), .agg [slD b 9 (l.map enT)]] = some (.int .i64 (cform c l)) := by
  have h28 := ok28 n c hc
  have h58a := ok58 (n + 7) (decide ((l.length : Int) = 0)) 10
  have h58b := ok58 (n + 7) (decide ((400 : Int) < l.length)) 5
  have h57 := ok57_3 (n + 7) (clErr c) (if decide ((l.length : Int) = 0) then 10 else 0) (if decide ((400 : Int) < l.length) then 5 else 0)
  have hE : fnz [clErr c, if decide ((l.length : Int) = 0) then 10 else 0, if decide ((400 : Int) < l.length) then 5 else 0] = cfE c l := rfl
  rw [hE] at h57
  rw [p29]
  simp only [go_sem, Nat.reduceAdd, Nat.reduceSub, Nat.reduceMul, Nat.reduceDiv, Nat.reduceMod, Nat.reduceLeDiff, Nat.reduceLT, Nat.reduceBEq, Int.reduceToNat, Int.reduceLT, Int.reduceLE, Int.reduceEq] at h28
  unfold cform
  by_cases h0 : cfE c l = 0
  · have h := l29 (n := n + 3) (c := c) (b := b) hl hf l 0 [] rfl
    rw [cast0] at h
    generalize cf c l 0 [] = r at h
    obtain ⟨e, ks⟩ := r
    have h58c := ok58 (n + 7) (decide (¬ (ks.length : Int) = sb l.length 1)) 2
    have g1 : wrp .i64 (((l.length : Nat) : Int) - 1) = sb l.length 1 := rfl
    have m0 : mk [] = [] := rfl
    rw [m0] at h
    by_cases h1 : e = 0
    · simp only [x29, h1, if_true] at h
      simp only [go_sem, Nat.reduceAdd, Nat.reduceSub, Nat.reduceMul, Nat.reduceDiv, Nat.reduceMod, Nat.reduceLeDiff, Nat.reduceLT, Nat.reduceBEq, Int.reduceToNat, Int.reduceLT, Int.reduceLE, Int.reduceEq] at h
      simp only [go_sem, Nat.reduceAdd, Nat.reduceSub, Nat.reduceMul, Nat.reduceDiv, Nat.reduceMod, Nat.reduceLeDiff, Nat.reduceLT, Nat.reduceBEq, Int.reduceToNat, Int.reduceLT, Int.reduceLE, Int.reduceEq, h28, h58a, h58b, h57, h0, h, ne_eq, not_true_eq_false, h1, g1, h58c]
    · simp only [x29, h1, if_false] at h
      simp only [go_sem, Nat.reduceAdd, Nat.reduceSub, Nat.reduceMul, Nat.reduceDiv, Nat.reduceMod, Nat.reduceLeDiff, Nat.reduceLT, Nat.reduceBEq, Int.reduceToNat, Int.reduceLT, Int.reduceLE, Int.reduceEq] at h
      simp only [go_sem, Nat.reduceAdd, Nat.reduceSub, Nat.reduceMul, Nat.reduceDiv, Nat.reduceMod, Nat.reduceLeDiff, Nat.reduceLT, Nat.reduceBEq, Int.reduceToNat, Int.reduceLT, Int.reduceLE, Int.reduceEq, h28, h58a, h58b, h57, h0, h, ne_eq, not_true_eq_false, h1]
  · simp only [go_sem, Nat.reduceAdd, Nat.reduceSub, Nat.reduceMul, Nat.reduceDiv, Nat.reduceMod, Nat.reduceLeDiff, Nat.reduceLT, Nat.reduceBEq, Int.reduceToNat, Int.reduceLT, Int.reduceLE, Int.reduceEq, h28, h58a, h58b, h57, h0, ne_eq, not_false_eq_true]
end Go.Vm.P12

/- Chapter 12, functions: the tasks of a check. -/
set_option maxRecDepth 100000
set_option maxHeartbeats 2000000
namespace Go.Vm.P12
open Go Go.Vm
theorem sl_ref {st : List AO} {id sz a n h : Nat} (hh : h ≤ n) : aSlice st none sz (.ref id sz a n) none (some h) none = some (.ref id sz a h) := by
  simp [aSlice, hh]
attribute [go_sem] sl_ref
structure Tk where
  y : Stp
  c : Cl
  k : Int
def enK (t : Tk) : List D := enT t.y ++ enC t.c ++ [.int .i64 t.k]
attribute [go_sem] enK
structure RdK (lo : Lower) (e1 : Ext) (eF : Int → Int → Ext) (I : Ext → Prop) : Prop where
  h1 : I e1
  hr : ∀ e t x, I e → lo.round e [.agg (enK t), .int .i64 x] = some (if x = 0 then (e1, true) else (eF t.k x, false))
def ck (l : List Stp) : Nat → Cl → Nat → Int × Int
  | 0, _, _ => (0, 0)
  | f + 1, c, k => match l[k]? with
    | none => (0, 0)
    | some y =>
      if y.leaf then (if prv y c then (0, 0) else ((k : Int), 29))
      else
        let s := c.sp.getD y.va.toNat ⟨0, 0⟩
        if offB y.bo s.lo (sb s.hi 1) then ((k : Int), 14)
        else
          let r := ck l f (nar c y.va.toNat ⟨s.lo, y.bo⟩) y.k0.toNat
          if r.2 = 0 then ck l f (nar c y.va.toNat ⟨ad y.bo 1, s.hi⟩) y.k1.toNat else r
structure Wf (l : List Stp) (sp gv : Nat) : Prop where
  leaf : ∀ (i : Nat) y, l[i]? = some y → y.leaf = true → y.gv.length = gv ∧ y.lw.length = sp ∧ y.hg.length = sp
  split : ∀ (i : Nat) y, l[i]? = some y → y.leaf = false → 0 ≤ y.va ∧ y.va < sp ∧ 0 ≤ y.k0 ∧ y.k0 < i ∧ 0 ≤ y.k1 ∧ y.k1 < i
def S93 (pr : D) (es : List (List D)) (m : Nat) (e : Ext) : S := ⟨[.yield, .imm (.ptr [pr]), .junk, .junk, .ref 0 14 0 m, .junk, .junk, .junk, .junk, .junk, .junk, .junk, .junk], [.arr 14 es], some e⟩
noncomputable def lp93 (n : Nat) (s : S) : Option (AExit × S) := outC ⟨0, false⟩ [0, 0, 0, 0, 0, 0, 0, 0, 0, 0, 0, 0, 0] (rnd (aCode (level E (n + 6)) ⟨0, false⟩ b93_0) (head ⟨0, false⟩ [1, 1, 0, 0, 1, 0, 0, 0, 0, 0, 0, 0, 0]) s)
def out93 (e : Ext) : AExit × S := (.exit 0, ⟨[.junk, .junk, .junk, .junk, .junk, .junk, .junk, .junk, .junk, .junk, .junk, .junk, .junk], [], some e⟩)
theorem l93_end {n : Nat} {pr : D} {es : List (List D)} {e : Ext} : lp93 n (S93 pr es 0 e) = some (out93 e) := by
  unfold lp93
  rw [rnd_eq]
  simp only [S93]
  simp only [go_sem, Nat.reduceAdd, Nat.reduceSub, Nat.reduceMul, Nat.reduceDiv, Nat.reduceMod, Nat.reduceLeDiff, Nat.reduceLT, Nat.reduceBEq, Int.reduceToNat, Int.reduceLT, Int.reduceLE, Int.reduceEq, out93]
section
variable {n m : Nat} {b : Bool} {l : List Stp} {e1 : Ext} {eF : Int → Int → Ext} {I : Ext → Prop} {es : List (List D)} {c : Cl} {y : Stp} {k : Int} {e : Ext}
theorem s93_a (R : RdK (level E (n + 6)) e1 eF I) (hI : I e) (hm0 : m < 1000000000) (hlast : es[m]? = some (enK ⟨y, c, k⟩)) (hc : c.Even) (hlf : y.leaf = true) (hg : y.gv.length = c.gv.length) (hlw : y.lw.length = c.sp.length) (hhg : y.hg.length = c.sp.length) :
    lp93 n (S93 (slD b 9 (l.map enT)) es (m + 1) e) = if prv y c then lp93 n (S93 (slD b 9 (l.map enT)) es m e1) else some (out93 (eF k 29)) := by
  have hm : (0 : Int) < ((m + 1 : Nat) : Int) := by omega
  have hm1 : wrp .i64 (((m + 1 : Nat) : Int) - 1) = (m : Int) := by rw [wrp_ok (by omega)]; omega
  have hrl : ((m : Nat) : Int) < ((m + 1 : Nat) : Int) := by omega
  have hh : m ≤ m + 1 := by omega
  have q1 : m * 14 / 14 = m := by omega
  have q2 : m * 14 % 14 = 0 := by omega
  have h83 := ok83 (n + 1) y c hc (by omega) hlw hhg
  have h58 := ok58 (n + 5) (!prv y c) 29
  have hr0 := R.hr e ⟨y, c, k⟩ 0 hI
  have hr1 := R.hr e ⟨y, c, k⟩ 29 hI
  unfold lp93
  rw [rnd_eq]
  simp only [S93]
  simp only [go_sem, Nat.reduceAdd, Nat.reduceSub, Nat.reduceMul, Nat.reduceDiv, Nat.reduceMod, Nat.reduceLeDiff, Nat.reduceLT, Nat.reduceBEq, Int.reduceToNat, Int.reduceLT, Int.reduceLE, Int.reduceEq] at hlast h83 hr0 hr1
  cases hp : prv y c <;> rw [hp] at h83 h58 <;> simp only [go_sem, Nat.reduceAdd, Nat.reduceSub, Nat.reduceMul, Nat.reduceDiv, Nat.reduceMod, Nat.reduceLeDiff, Nat.reduceLT, Nat.reduceBEq, Int.reduceToNat, Int.reduceLT, Int.reduceLE, Int.reduceEq, hlf] at h83 h58 hr0 hr1 hlast ⊢
  · simp only [go_sem, Nat.reduceAdd, Nat.reduceSub, Nat.reduceMul, Nat.reduceDiv, Nat.reduceMod, Nat.reduceLeDiff, Nat.reduceLT, Nat.reduceBEq, Int.reduceToNat, Int.reduceLT, Int.reduceLE, Int.reduceEq, hm, hm1, hrl, hlast, Int.natCast_nonneg, hlf, q1, q2, hh, h83, h58, hr0, hr1, ne_eq, not_true_eq_false]
    rfl
  · simp only [go_sem, Nat.reduceAdd, Nat.reduceSub, Nat.reduceMul, Nat.reduceDiv, Nat.reduceMod, Nat.reduceLeDiff, Nat.reduceLT, Nat.reduceBEq, Int.reduceToNat, Int.reduceLT, Int.reduceLE, Int.reduceEq, hm, hm1, hrl, hlast, Int.natCast_nonneg, hlf, q1, q2, hh, h83, h58, hr0, hr1, ne_eq, not_true_eq_false]
theorem s93_b (R : RdK (level E (n + 6)) e1 eF I) (hI : I e) (hm0 : m + 2 < 1000000000) (hlast : es[m]? = some (enK ⟨y, c, k⟩)) (hc : c.Even) (hlf : y.leaf = false) {v k0 k1 : Nat} {s : Sp} (hva : y.va = v) (hk0 : y.k0 = k0) (hk1 : y.k1 = k1) (hs : c.sp[v]? = some s)
    {y0 y1 : Stp} (h0 : l[k0]? = some y0) (h1 : l[k1]? = some y1) :
    lp93 n (S93 (slD b 9 (l.map enT)) es (m + 1) e) = if offB y.bo s.lo (sb s.hi 1) then some (out93 (eF k 14)) else
      lp93 n (S93 (slD b 9 (l.map enT)) (es.take m ++ [enK ⟨y1, nar c v ⟨ad y.bo 1, s.hi⟩, k1⟩, enK ⟨y0, nar c v ⟨s.lo, y.bo⟩, k0⟩]) (m + 2) e1) := by
  have hm : (0 : Int) < ((m + 1 : Nat) : Int) := by omega
  have hm1 : wrp .i64 (((m + 1 : Nat) : Int) - 1) = (m : Int) := by rw [wrp_ok (by omega)]; omega
  have hrl : ((m : Nat) : Int) < ((m + 1 : Nat) : Int) := by omega
  have hh : m ≤ m + 1 := by omega
  have q1 : m * 14 / 14 = m := by omega
  have q2 : m * 14 % 14 = 0 := by omega
  have hvl : (v : Int) < ((c.sp.length : Nat) : Int) := by
    have := (List.getElem?_eq_some_iff.1 hs).1; omega
  have h0l : (k0 : Int) < ((l.length : Nat) : Int) := by
    have := (List.getElem?_eq_some_iff.1 h0).1; omega
  have h1l : (k1 : Int) < ((l.length : Nat) : Int) := by
    have := (List.getElem?_eq_some_iff.1 h1).1; omega
  have g1 : wrp .i64 (s.hi - 1) = sb s.hi 1 := rfl
  have h59 := ok59 (n + 5) y.bo s.lo (sb s.hi 1)
  have h58 := ok58 (n + 5) (offB y.bo s.lo (sb s.hi 1)) 14
  have h87 := ok87 (n + 3) c v s y.bo hs hc.fit.sp
  have hr0 := R.hr e ⟨y, c, k⟩ 0 hI
  have hr1 := R.hr e ⟨y, c, k⟩ 14 hI
  have i0 : (0 : Int) < ((2 : Nat) : Int) := by decide
  have i1 : (1 : Int) < ((2 : Nat) : Int) := by decide
  have hml : m ≤ es.length := by
    have := (List.getElem?_eq_some_iff.1 hlast).1; omega
  have h5 : (m + 2) * 209 ≤ 70368744177664 := by omega
  unfold lp93
  rw [rnd_eq]
  simp only [S93]
  simp only [go_sem, Nat.reduceAdd, Nat.reduceSub, Nat.reduceMul, Nat.reduceDiv, Nat.reduceMod, Nat.reduceLeDiff, Nat.reduceLT, Nat.reduceBEq, Int.reduceToNat, Int.reduceLT, Int.reduceLE, Int.reduceEq, hlf, hva, hk0, hk1] at hlast hr0 hr1 h87
  cases hp : offB y.bo s.lo (sb s.hi 1) <;> rw [hp] at h59 h58 <;> simp only [go_sem, Nat.reduceAdd, Nat.reduceSub, Nat.reduceMul, Nat.reduceDiv, Nat.reduceMod, Nat.reduceLeDiff, Nat.reduceLT, Nat.reduceBEq, Int.reduceToNat, Int.reduceLT, Int.reduceLE, Int.reduceEq, hlf] at h58 hr0 hr1 hlast ⊢
  · simp only [go_sem, Nat.reduceAdd, Nat.reduceSub, Nat.reduceMul, Nat.reduceDiv, Nat.reduceMod, Nat.reduceLeDiff, Nat.reduceLT, Nat.reduceBEq, Int.reduceToNat, Int.reduceLT, Int.reduceLE, Int.reduceEq, hm, hm1, hrl, hlast, Int.natCast_nonneg, hlf, q1, q2, hh, h59, h58, hr0, hr1, hvl, hs, g1, h87, i0, i1, h0l, h1l, h0, h1, h5, hml, ne_eq, not_true_eq_false]
    trace_state
  · simp only [go_sem, Nat.reduceAdd, Nat.reduceSub, Nat.reduceMul, Nat.reduceDiv, Nat.reduceMod, Nat.reduceLeDiff, Nat.reduceLT, Nat.reduceBEq, Int.reduceToNat, Int.reduceLT, Int.reduceLE, Int.reduceEq, hm, hm1, hrl, hlast, Int.natCast_nonneg, hlf, q1, q2, hh, h59, h58, hr0, hr1, hvl, hs, g1, i0, i1, ne_eq, not_true_eq_false]
    rfl
end
theorem l93 {n : Nat} {b : Bool} {l : List Stp} {spn gvn : Nat} {e1 : Ext} {eF : Int → Int → Ext} {I : Ext → Prop} (R : RdK (level E (n + 6)) e1 eF I) (hw : Wf l spn gvn) : ∀ (f k : Nat) (c : Cl) (y : Stp) (rest : List Tk) (es : List (List D)) (e : Ext), k < f → c.Even → c.sp.length = spn → c.gv.length = gvn → l[k]? = some y → I e → rest.length + k + 2 < 1000000000 →
    es.take (rest.length + 1) = (rest ++ [Tk.mk y c k]).map enK →
    ((ck l f c k).2 = 0 → ∃ es', es'.take rest.length = rest.map enK ∧ lp93 n (S93 (slD b 9 (l.map enT)) es (rest.length + 1) e) = lp93 n (S93 (slD b 9 (l.map enT)) es' rest.length e1)) ∧
    ((ck l f c k).2 ≠ 0 → lp93 n (S93 (slD b 9 (l.map enT)) es (rest.length + 1) e) = some (out93 (eF (ck l f c k).1 (ck l f c k).2)))
  | 0, k, c, y, rest, es, e, hk, hc, hs, hg, hy, hI, hb, ht => by omega
  | f + 1, k, c, y, rest, es, e, hk, hc, hs, hg, hy, hI, hb, ht => by
    have hlen : rest.length + 1 ≤ es.length := by
      have := congrArg List.length ht
      simp at this; omega
    have hlast : es[rest.length]? = some (enK ⟨y, c, k⟩) := by
      have := congrArg (fun z => z[rest.length]?) ht
      simp only [List.getElem?_take] at this
      rw [if_pos (by omega)] at this
      rw [this]
      simp
    have htk : es.take rest.length = rest.map enK := by
      have := congrArg (List.take rest.length) ht
      rw [List.take_take, Nat.min_eq_left (by omega)] at this
      rw [this, List.map_append]
      exact List.take_left' (by simp)
    simp only [ck, hy]
    cases hlf : y.leaf
    · obtain ⟨w1, w2, w3, w4, w5, w6⟩ := hw.split k y hy hlf
      obtain ⟨v, hv⟩ : ∃ v : Nat, y.va = v := ⟨y.va.toNat, by omega⟩
      obtain ⟨k0, hk0⟩ : ∃ k0 : Nat, y.k0 = k0 := ⟨y.k0.toNat, by omega⟩
      obtain ⟨k1, hk1⟩ : ∃ k1 : Nat, y.k1 = k1 := ⟨y.k1.toNat, by omega⟩
      have hkl := (List.getElem?_eq_some_iff.1 hy).1
      have hvl : v < c.sp.length := by omega
      obtain ⟨s, hsv⟩ : ∃ s, c.sp[v]? = some s := ⟨_, List.getElem?_eq_getElem hvl⟩
      obtain ⟨y0, hy0⟩ : ∃ y0, l[k0]? = some y0 := ⟨_, List.getElem?_eq_getElem (show k0 < l.length by omega)⟩
      obtain ⟨y1, hy1⟩ : ∃ y1, l[k1]? = some y1 := ⟨_, List.getElem?_eq_getElem (show k1 < l.length by omega)⟩
      have hgd : c.sp.getD v ⟨0, 0⟩ = s := by rw [List.getD_eq_getElem?_getD, hsv]; rfl
      have hb1 := s93_b (b := b) R hI (by omega) hlast hc hlf hv hk0 hk1 hsv hy0 hy1
      simp only [Bool.false_eq_true, if_false]
      rw [hv, hk0, hk1, Int.toNat_natCast, Int.toNat_natCast, Int.toNat_natCast, hgd]
      cases ho : offB y.bo s.lo (sb s.hi 1)
      · rw [ho] at hb1
        simp only [Bool.false_eq_true, if_false] at hb1 ⊢
        obtain ⟨c0, hc0⟩ : ∃ c0, c0 = nar c v ⟨s.lo, y.bo⟩ := ⟨_, rfl⟩
        obtain ⟨c1, hc1⟩ : ∃ c1, c1 = nar c v ⟨ad y.bo 1, s.hi⟩ := ⟨_, rfl⟩
        have ev0 : c0.Even := hc0 ▸ nar_even hc _ _
        have ev1 : c1.Even := hc1 ▸ nar_even hc _ _
        have s0 : c0.sp.length = spn := by rw [hc0]; simpa [nar] using hs
        have s1 : c1.sp.length = spn := by rw [hc1]; simpa [nar] using hs
        have g0 : c0.gv.length = gvn := by rw [hc0]; exact hg
        have g1 : c1.gv.length = gvn := by rw [hc1]; exact hg
        rw [← hc0, ← hc1] at hb1 ⊢
        obtain ⟨IA, IB⟩ := l93 (b := b) R hw f k0 c0 y0 (rest ++ [Tk.mk y1 c1 k1]) (es.take rest.length ++ [enK ⟨y1, c1, k1⟩, enK ⟨y0, c0, k0⟩]) e1 (by omega) ev0 s0 g0 hy0 R.h1 (by simp; omega) (by
          rw [htk]
          simp [List.take_of_length_le])
        have el : (rest ++ [Tk.mk y1 c1 k1]).length = rest.length + 1 := by simp
        rw [el] at IA IB
        rw [hb1]
        by_cases h0 : (ck l f c0 k0).2 = 0
        · rw [if_pos h0]
          obtain ⟨es', e3, e4⟩ := IA h0
          have := l93 (b := b) R hw f k1 c1 y1 rest es' e1 (by omega) ev1 s1 g1 hy1 R.h1 (by omega) e3
          rw [e4]
          exact this
        · rw [if_neg h0]
          refine ⟨fun h => absurd h h0, fun _ => IB h0⟩
      · rw [ho] at hb1
        simp only [if_true] at hb1 ⊢
        exact ⟨fun h => absurd h (by decide), fun _ => hb1⟩
    · obtain ⟨w1, w2, w3⟩ := hw.leaf k y hy hlf
      have ha := s93_a (b := b) (l := l) R hI (by omega) hlast hc hlf (by omega) (by omega) (by omega)
      simp only [if_true]
      cases hp : prv y c
      · rw [hp] at ha
        simp only [Bool.false_eq_true, if_false] at ha ⊢
        exact ⟨fun h => absurd h (by decide), fun _ => ha⟩
      · rw [hp] at ha
        simp only [if_true] at ha ⊢
        exact ⟨fun _ => ⟨es, htk, ha⟩, fun h => absurd rfl h⟩
end Go.Vm.P12

/- Chapter 12, functions: Check. -/
set_option maxRecDepth 100000
set_option maxHeartbeats 2000000
namespace Go.Vm.P12
open Go Go.Vm
theorem call93 {n : Nat} {b : Bool} {l : List Stp} {spn gvn : Nat} {e1 : Ext} {eF : Int → Int → Ext} {I : Ext → Prop} (R : RdK (level E (n + 6)) e1 eF I) (hw : Wf l spn gvn) (k : Nat) (c : Cl) (y : Stp) (e : Ext) (hc : c.Even) (hs : c.sp.length = spn) (hg : c.gv.length = gvn) (hy : l[k]? = some y) (hI : I e) (hb : l.length < 1000) :
    (level E (n+7)).call 93 [.yield, .imm (.ptr [slD b 9 (l.map enT)]), .imm (.ptr [.int .i64 k]), .imm (.ptr (enC c))] [] (some e) = some (.imm (.tup []), [], some (if (ck l (k + 1) c k).2 = 0 then e1 else eF (ck l (k + 1) c k).1 (ck l (k + 1) c k).2)) := by
  have hkl := (List.getElem?_eq_some_iff.1 hy).1
  obtain ⟨hA, hB⟩ := l93 (b := b) R hw (k + 1) k c y [] [enK ⟨y, c, k⟩] e (by omega) hc hs hg hy hI (by simp; omega) rfl
  have h0l : (k : Int) < ((l.length : Nat) : Int) := by omega
  have key : lp93 n (S93 (slD b 9 (l.map enT)) [enK ⟨y, c, k⟩] 1 e) = some (out93 (if (ck l (k + 1) c k).2 = 0 then e1 else eF (ck l (k + 1) c k).1 (ck l (k + 1) c k).2)) := by
    by_cases h0 : (ck l (k + 1) c k).2 = 0
    · obtain ⟨es', e3, e4⟩ := hA h0
      rw [if_pos h0]
      exact e4.trans l93_end
    · rw [if_neg h0]
      exact hB h0
  generalize (if (ck l (k + 1) c k).2 = 0 then e1 else eF (ck l (k + 1) c k).1 (ck l (k + 1) c k).2) = eR at key
  rw [call_go (fn := ir93) (c := c93) (r := []) rfl rfl rfl rfl rfl]
  simp only [lp93, S93, out93] at key
  simp only [go_sem, Nat.reduceAdd, Nat.reduceSub, Nat.reduceMul, Nat.reduceDiv, Nat.reduceMod, Nat.reduceLeDiff, Nat.reduceLT, Nat.reduceBEq, Int.reduceToNat, Int.reduceLT, Int.reduceLE, Int.reduceEq] at key
  simp only [go_sem, Nat.reduceAdd, Nat.reduceSub, Nat.reduceMul, Nat.reduceDiv, Nat.reduceMod, Nat.reduceLeDiff, Nat.reduceLT, Nat.reduceBEq, Int.reduceToNat, Int.reduceLT, Int.reduceLE, Int.reduceEq, ir93, sg_slD, h0l, hy, Int.natCast_nonneg, key]
theorem ok69 (n : Nat) (b : Bool) (l : List Stp) (c : Cl) (k : Int) : callP (level E (n+1)) 69 [.agg [slD b 9 (l.map enT)], .agg (enC c), .int .i64 k] = some (.fn 93 [] [.ptr [slD b 9 (l.map enT)], .ptr [.int .i64 k], .ptr (enC c)]) := by
  rw [p69]; simp only [go_sem, Nat.reduceAdd, Nat.reduceSub, Nat.reduceMul, Nat.reduceDiv, Nat.reduceMod, Nat.reduceLeDiff, Nat.reduceLT, Nat.reduceBEq, Int.reduceToNat, Int.reduceLT, Int.reduceLE, Int.reduceEq, sg_slD]
def y0 (c : Cl) (b : Bool) (l : List Stp) (q : Int) : Ext := ⟨[11, 12], b26_0, b26_1, [.imm (.agg (enC c)), .imm (.agg [slD b 9 (l.map enT)]), .ptr 2 0, .ptr 3 0, .ptr 0 0, .ptr 1 0, .imm (.int .i64 0), .junk, .junk, .imm (.bool false), .imm (.fn 93 [] [.ptr [slD b 9 (l.map enT)], .ptr [.int .i64 q], .ptr (enC c)]), .junk, .junk, .junk],
  [.box ((enC c).map .imm), .box [.imm (slD b 9 (l.map enT))], .box [.imm (.int .i64 0)], .box [.imm (.int .i64 0)]], 0, none⟩
def y1 (c : Cl) (b : Bool) (l : List Stp) (q : Int) : Ext := ⟨[11, 12], b26_0, b26_1, [.imm (.agg (enC c)), .imm (.agg [slD b 9 (l.map enT)]), .ptr 0 0, .ptr 1 0, .ptr 2 0, .ptr 3 0, .imm (.int .i64 0), .junk, .junk, .imm (.bool false), .imm (.fn 93 [] [.ptr [slD b 9 (l.map enT)], .ptr [.int .i64 q], .ptr (enC c)]), .junk, .junk, .junk],
  [.box [.imm (.int .i64 0)], .box [.imm (.int .i64 0)], .box ((enC c).map .imm), .box [.imm (slD b 9 (l.map enT))]], 0, none⟩
def yF (c : Cl) (b : Bool) (l : List Stp) (q : Int) (k x : Int) : Ext := ⟨[11, 12], b26_0, b26_1, [.imm (.agg (enC c)), .imm (.agg [slD b 9 (l.map enT)]), .ptr 0 0, .ptr 1 0, .ptr 2 0, .ptr 3 0, .imm (.int .i64 0), .junk, .junk, .imm (.bool false), .imm (.fn 93 [] [.ptr [slD b 9 (l.map enT)], .ptr [.int .i64 q], .ptr (enC c)]), .junk, .junk, .junk],
  [.box [.imm (.int .i64 k)], .box [.imm (.int .i64 x)], .box ((enC c).map .imm), .box [.imm (slD b 9 (l.map enT))]], 0, some .ret⟩
theorem rd26 (n : Nat) (c : Cl) (b : Bool) (l : List Stp) (q : Int) : RdK (level E (n+6)) (y1 c b l q) (yF c b l q) (fun e => e = y0 c b l q ∨ e = y1 c b l q) := by
  refine ⟨.inr rfl, fun e t x he => ?_⟩
  rcases he with rfl | rfl <;> by_cases h0 : x = 0 <;> simp only [y0, y1, yF] <;> rw [round_go (by rfl)] <;> simp only [go_sem, Nat.reduceAdd, Nat.reduceSub, Nat.reduceMul, Nat.reduceDiv, Nat.reduceMod, Nat.reduceLeDiff, Nat.reduceLT, Nat.reduceBEq, Int.reduceToNat, Int.reduceLT, Int.reduceLE, Int.reduceEq, sg_slD, h0, ne_eq, not_true_eq_false, not_false_eq_true]
  all_goals trace_state
theorem fnz0 : ∀ l : List Int, fnz l = 0 → ∀ x ∈ l, x = 0 := by
  intro l
  induction l with
  | nil => intro _ x hx; cases hx
  | cons y l ih =>
    intro h x hx
    rw [fnz_cons] at h
    by_cases hy : y = 0
    · rw [if_pos hy] at h
      rcases List.mem_cons.1 hx with rfl | hx
      · exact hy
      · exact ih h x hx
    · rw [if_neg hy] at h; exact absurd h hy
theorem offB_f {a lo hi : Int} (h : offB a lo hi = false) : lo ≤ a ∧ a ≤ hi := by
  simp only [offB, Bool.or_eq_false_iff, decide_eq_false_iff_not] at h
  omega
def StepOk (c : Cl) (i : Nat) (y : Stp) : Prop := (y.leaf = true → lfErr y c = 0) ∧ (y.leaf = false → spE (sp1 y) y c i = 0)
theorem cf_ok (c : Cl) : ∀ (r : List Stp) (i : Nat) (ks : List Int), (cf c r i ks).1 = 0 → ∀ (j : Nat) (y : Stp), r[j]? = some y → StepOk c (i + j) y
  | [], i, ks, h, j, y, hj => by simp at hj
  | s :: r, i, ks, h, j, y, hj => by
    simp only [cf] at h
    have key : StepOk c i s ∧ ∃ ks', (cf c r (i + 1) ks').1 = 0 := by
      cases hs : s.leaf
      · rw [hs] at h
        simp only [Bool.false_eq_true, if_false] at h
        by_cases h1 : (spl s c i ks).1 = 0
        · rw [if_pos h1] at h
          refine ⟨⟨fun hh => (by rw [hs] at hh; cases hh), fun _ => ?_⟩, _, h⟩
          unfold spl at h1
          by_cases h2 : spE (sp1 s) s c i = 0
          · exact h2
          · rw [if_neg h2] at h1; exact h1
        · rw [if_neg h1] at h; exact absurd h h1
      · rw [hs] at h
        simp only [if_true] at h
        by_cases h1 : lfErr s c = 0
        · rw [if_pos h1] at h
          exact ⟨⟨fun _ => h1, fun hh => (by rw [hs] at hh; cases hh)⟩, _, h⟩
        · rw [if_neg h1] at h; exact absurd h h1
    obtain ⟨k1, ks', k2⟩ := key
    cases j with
    | zero => simp only [List.getElem?_cons_zero, Option.some.injEq] at hj; subst hj; exact k1
    | succ j =>
      simp only [List.getElem?_cons_succ] at hj
      have := cf_ok c r (i + 1) ks' k2 j y hj
      rw [show i + (j + 1) = i + 1 + j by omega]
      exact this
theorem lf1_f {y : Stp} {c : Cl} (h : lfErr y c = 0) : y.gv.length = c.gv.length ∧ y.lw.length = c.sp.length ∧ y.hg.length = c.sp.length := by
  have h1 := fnz0 _ h _ (List.mem_cons_self)
  have h2 : lf1 y c = false := by
    cases h3 : lf1 y c
    · rfl
    · rw [h3] at h1; simp at h1
  simp only [lf1, Bool.or_eq_false_iff, decide_eq_false_iff_not, Decidable.not_not] at h2
  omega
theorem sbn {m : Nat} (h : m < 1000000000) : sb m 1 = (m : Int) - 1 := by rw [sb, wrp_ok (by omega)]
theorem spE_f {y : Stp} {c : Cl} {i : Nat} (hi : i < 1000000000) (hs : c.sp.length < 1000000000) (h : spE (sp1 y) y c i = 0) : 0 ≤ y.va ∧ y.va < c.sp.length ∧ 0 ≤ y.k0 ∧ y.k0 < i ∧ 0 ≤ y.k1 ∧ y.k1 < i := by
  have g := fnz0 _ h
  have h1 := g (if offB y.va 0 (sb c.sp.length 1) then 8 else 0) (by simp)
  have h2 := g (if sp2 y i then 9 else 0) (by simp)
  have a1 : offB y.va 0 (sb c.sp.length 1) = false := by
    cases h3 : offB y.va 0 (sb c.sp.length 1)
    · rfl
    · rw [h3] at h1; simp at h1
  have a2 : sp2 y i = false := by
    cases h3 : sp2 y i
    · rfl
    · rw [h3] at h2; simp at h2
  simp only [sp2, Bool.or_eq_false_iff] at a2
  have b1 := offB_f a1
  have b2 := offB_f a2.1
  have b3 := offB_f a2.2
  rw [sbn hs] at b1
  rw [sbn hi] at b2 b3
  omega
theorem cfE_f {c : Cl} {l : List Stp} (h : cfE c l = 0) : clErr c = 0 ∧ 0 < l.length ∧ l.length ≤ 400 := by
  have g := fnz0 _ h
  have h0 := g (clErr c) (by simp)
  have h1 := g (if decide ((l.length : Int) = 0) then 10 else 0) (by simp)
  have h2 := g (if decide ((400 : Int) < l.length) then 5 else 0) (by simp)
  refine ⟨h0, ?_, ?_⟩
  · by_cases e : (l.length : Int) = 0
    · simp [e] at h1
    · omega
  · by_cases e : (400 : Int) < l.length
    · simp [e] at h2
    · omega
theorem cform_cf {c : Cl} {l : List Stp} (h : cform c l = 0) : cfE c l = 0 ∧ (cf c l 0 []).1 = 0 := by
  unfold cform at h
  by_cases h0 : cfE c l = 0
  · rw [if_pos h0] at h
    refine ⟨h0, ?_⟩
    by_cases h1 : (cf c l 0 []).1 = 0
    · exact h1
    · simp only [h1, if_false] at h
  · rw [if_neg h0] at h; exact absurd h h0
theorem cform_wf {c : Cl} {l : List Stp} (hc : c.Fit) (h : cform c l = 0) : Wf l c.sp.length c.gv.length := by
  obtain ⟨h0, h1⟩ := cform_cf h
  obtain ⟨_, _, h2⟩ := cfE_f h0
  constructor
  · intro i y hy hl
    have := cf_ok c l 0 [] h1 i y hy
    exact lf1_f (this.1 hl)
  · intro i y hy hl
    have := (cf_ok c l 0 [] h1 i y hy).2 hl
    rw [Nat.zero_add] at this
    have hi := (List.getElem?_eq_some_iff.1 hy).1
    exact spE_f (by omega) hc.sp this
def chkR (c : Cl) (l : List Stp) : Int × Int := ck l l.length c (l.length - 1)
def chk (c : Cl) (l : List Stp) : D := if cform c l = 0 then (if (chkR c l).2 = 0 then .tup [.int .i64 0, .int .i64 0] else .tup [.int .i64 (chkR c l).1, .int .i64 (chkR c l).2]) else .tup [.int .i64 0, .int .i64 (cform c l)]
theorem ok26 (n : Nat) (c : Cl) (b : Bool) (l : List Stp) (hc : c.Fit) (hl : l.length < 1000000000) (hf : ∀ s ∈ l, s.Fits) : callP (level E (n+10)) 26 [.agg (enC c), .agg [slD b 9 (l.map enT)]] = some (chk c l) := by
  have h29 := ok29 n c b l hc hl hf
  have h69 := ok69 (n+8) b l c (sb l.length 1)
  have g1 : wrp .i64 (((l.length : Nat) : Int) - 1) = sb l.length 1 := rfl
  rw [p26]
  simp only [go_sem, Nat.reduceAdd, Nat.reduceSub, Nat.reduceMul, Nat.reduceDiv, Nat.reduceMod, Nat.reduceLeDiff, Nat.reduceLT, Nat.reduceBEq, Int.reduceToNat, Int.reduceLT, Int.reduceLE, Int.reduceEq] at h29 h69
  unfold chk
  by_cases h0 : cform c l = 0
  · obtain ⟨c1, c2, c3⟩ := cfE_f (cform_cf h0).1
    obtain ⟨k, hk⟩ : ∃ k, l.length = k + 1 := ⟨l.length - 1, by omega⟩
    have hq : sb (l.length : Nat) 1 = (k : Int) := by rw [sbn hl]; omega
    obtain ⟨y, hy⟩ : ∃ y, l[k]? = some y := ⟨_, List.getElem?_eq_getElem (show k < l.length by omega)⟩
    have h93 := call93 (b := b) (rd26 (n+2) c b l k) (cform_wf hc h0) k c y (y0 c b l k) (clErr_even hc c1) rfl rfl hy (.inl rfl) (by omega)
    have hR : chkR c l = ck l (k + 1) c k := by rw [chkR, hk]; rfl
    rw [← hR] at h93
    rw [hq] at h69 g1
    by_cases h1 : (chkR c l).2 = 0
    · rw [if_pos h1] at h93
      simp only [y0, y1] at h93
      simp only [go_sem, Nat.reduceAdd, Nat.reduceSub, Nat.reduceMul, Nat.reduceDiv, Nat.reduceMod, Nat.reduceLeDiff, Nat.reduceLT, Nat.reduceBEq, Int.reduceToNat, Int.reduceLT, Int.reduceLE, Int.reduceEq] at h93
      simp only [go_sem, Nat.reduceAdd, Nat.reduceSub, Nat.reduceMul, Nat.reduceDiv, Nat.reduceMod, Nat.reduceLeDiff, Nat.reduceLT, Nat.reduceBEq, Int.reduceToNat, Int.reduceLT, Int.reduceLE, Int.reduceEq, sg_slD, h29, h69, g1, h0, ne_eq, not_true_eq_false, h93, h1]
    · rw [if_neg h1] at h93
      simp only [y0, yF] at h93
      simp only [go_sem, Nat.reduceAdd, Nat.reduceSub, Nat.reduceMul, Nat.reduceDiv, Nat.reduceMod, Nat.reduceLeDiff, Nat.reduceLT, Nat.reduceBEq, Int.reduceToNat, Int.reduceLT, Int.reduceLE, Int.reduceEq] at h93
      simp only [go_sem, Nat.reduceAdd, Nat.reduceSub, Nat.reduceMul, Nat.reduceDiv, Nat.reduceMod, Nat.reduceLeDiff, Nat.reduceLT, Nat.reduceBEq, Int.reduceToNat, Int.reduceLT, Int.reduceLE, Int.reduceEq, sg_slD, h29, h69, g1, h0, ne_eq, not_true_eq_false, h93, h1]
  · simp only [go_sem, Nat.reduceAdd, Nat.reduceSub, Nat.reduceMul, Nat.reduceDiv, Nat.reduceMod, Nat.reduceLeDiff, Nat.reduceLT, Nat.reduceBEq, Int.reduceToNat, Int.reduceLT, Int.reduceLE, Int.reduceEq, sg_slD, h29, h69, g1, h0, ne_eq, not_false_eq_true]
end Go.Vm.P12

/- Chapter 12, the laws: copies of proofs and claims. -/
set_option maxRecDepth 100000
set_option maxHeartbeats 2000000
namespace Go.Vm.P12
open Go Go.Vm
theorem src_0 {st : List AO} {b : Bool} {sz : Nat} : srcOf st (.imm (slD b sz [])) = some (if b then 0 else sz, []) := by cases b <;> rfl
theorem ok81 (n : Nat) (x : Ln) (h : x.co.length < 1000000000) : callP (level E (n+1)) 81 [.agg (enL x)] = some (.agg (enL (lnc x))) := by
  obtain ⟨nl, co, c⟩ := x
  simp only at h
  rw [p81]
  cases co with
  | nil => cases nl <;> simp only [go_sem, Nat.reduceAdd, Nat.reduceSub, Nat.reduceMul, Nat.reduceDiv, Nat.reduceMod, Nat.reduceLeDiff, Nat.reduceLT, Nat.reduceBEq, Int.reduceToNat, Int.reduceLT, Int.reduceLE, Int.reduceEq, lnc, slD_nil, slD_f]
  | cons y co =>
    have h5 : (co.length + 1) * 9 ≤ 70368744177664 := by simp at h; omega
    simp only [go_sem, Nat.reduceAdd, Nat.reduceSub, Nat.reduceMul, Nat.reduceDiv, Nat.reduceMod, Nat.reduceLeDiff, Nat.reduceLT, Nat.reduceBEq, Int.reduceToNat, Int.reduceLT, Int.reduceLE, Int.reduceEq, lnc, slD_cons, h5]
end Go.Vm.P12

/- Chapter 12, the laws: ProveEnds, an own claim. -/
set_option maxRecDepth 100000
set_option maxHeartbeats 4000000
namespace Go.Vm.P12
open Go Go.Vm
def nx (k : Nat) (sp : List Sp) : Nat := match sp with | [] => k | _ => k + 1
theorem l45 {n : Nat} {c : Cl} (hf : c.Fit) : ∀ (r acc : List Ln) (i : Nat), c.gv.drop i = r → acc.length = i →
    outC ⟨0, false⟩ [0, 1, 0, 1, 0, 0] (rnd (aCode (level E (n + 1)) ⟨0, false⟩ b45_0) (head ⟨0, false⟩ [0, 1, 1, 1, 1, 0])
      ⟨[.junk, .ptr 0 0, .ptr 1 0, .ptr 2 0, .imm (.int .i64 i), .junk],
       [.box [.imm .nil, .imm .nil, .imm .nil, .imm (.int .i64 0)], .box ((enC c).map .imm), .box [eK 3 2 (c.sp.map enS), vK (nx 3 c.sp) 2 (acc.map enL), .imm (slD false 1 (c.go.co.map ic)), .imm (.int .i64 c.go.c)]] ++ oK 2 (c.sp.map enS) ++ oK 2 (acc.map enL), none⟩) =
      some (.exit 0, ⟨[.junk, .ptr 0 0, .junk, .ptr 1 0, .junk, .junk],
       [.box [.imm .nil, .imm .nil, .imm .nil, .imm (.int .i64 0)], .box [eK 2 2 (c.sp.map enS), vK (nx 2 c.sp) 2 ((acc ++ r.map lnc).map enL), .imm (slD false 1 (c.go.co.map ic)), .imm (.int .i64 c.go.c)]] ++ oK 2 (c.sp.map enS) ++ oK 2 ((acc ++ r.map lnc).map enL), none⟩)
  | [], acc, i, h, ha => by
    have e := lt_f (drop_n h)
    obtain ⟨sn, sp, gn, gv, go⟩ := c
    rw [rnd_eq]
    cases acc <;> cases sp <;> simp only [go_sem, Nat.reduceAdd, Nat.reduceSub, Nat.reduceMul, Nat.reduceDiv, Nat.reduceMod, Nat.reduceLeDiff, Nat.reduceLT, Nat.reduceBEq, Int.reduceToNat, Int.reduceLT, Int.reduceLE, Int.reduceEq, vK, oK, eK, nx, e]
  | s :: r, acc, i, h, ha => by
    obtain ⟨h1, h2, h3⟩ := drop_c h
    have hg := hf.gv
    have h6 := wrpS (i := i) (by omega)
    have h81 := ok81 n s (hf.ln s (List.mem_of_getElem? h1))
    have IH := l45 (n := n) (c := c) hf r (acc ++ [lnc s]) (i + 1) h3 (by simp [ha])
    have h5 : (acc.length + 1) * 33 ≤ 70368744177664 := by omega
    obtain ⟨sn, sp, gn, gv, go⟩ := c
    simp only at h1 h2 h3 IH
    rw [rnd_eq]
    simp only [go_sem, Nat.reduceAdd, Nat.reduceSub, Nat.reduceMul, Nat.reduceDiv, Nat.reduceMod, Nat.reduceLeDiff, Nat.reduceLT, Nat.reduceBEq, Int.reduceToNat, Int.reduceLT, Int.reduceLE, Int.reduceEq] at h81
    cases acc with
    | nil =>
      rcases sp with _ | ⟨s0, sp⟩ <;>
      simp only [go_sem, Nat.reduceAdd, Nat.reduceSub, Nat.reduceMul, Nat.reduceDiv, Nat.reduceMod, Nat.reduceLeDiff, Nat.reduceLT, Nat.reduceBEq, Int.reduceToNat, Int.reduceLT, Int.reduceLE, Int.reduceEq, vK, oK, eK, nx] at IH <;>
      simp only [go_sem, Nat.reduceAdd, Nat.reduceSub, Nat.reduceMul, Nat.reduceDiv, Nat.reduceMod, Nat.reduceLeDiff, Nat.reduceLT, Nat.reduceBEq, Int.reduceToNat, Int.reduceLT, Int.reduceLE, Int.reduceEq, vK, oK, eK, nx, lt_t h2, h1, h6, h81] <;>
      exact IH
    | cons x acc =>
      simp only [List.length_cons] at h5
      have e7 : acc.length + (r.length + 1) + 1 = acc.length + 1 + r.length + 1 := by omega
      have e8 : ∀ (L : List (List D)) (y : List D), List.map enL acc ++ y :: L = List.map enL acc ++ [y] ++ L := fun L y => by simp
      rcases sp with _ | ⟨s0, sp⟩ <;>
      simp only [go_sem, Nat.reduceAdd, Nat.reduceSub, Nat.reduceMul, Nat.reduceDiv, Nat.reduceMod, Nat.reduceLeDiff, Nat.reduceLT, Nat.reduceBEq, Int.reduceToNat, Int.reduceLT, Int.reduceLE, Int.reduceEq, vK, oK, eK, nx] at IH <;>
      simp only [go_sem, Nat.reduceAdd, Nat.reduceSub, Nat.reduceMul, Nat.reduceDiv, Nat.reduceMod, Nat.reduceLeDiff, Nat.reduceLT, Nat.reduceBEq, Int.reduceToNat, Int.reduceLT, Int.reduceLE, Int.reduceEq, vK, oK, eK, nx, lt_t h2, h1, h6, h81, h5, e7, e8 (List.map enL (List.map lnc r))] <;>
      exact IH
theorem ok45I (n : Nat) (c : Cl) (hf : c.Fit) : callI (level E (n+2)) 45 [.agg (enC c)] = some (mkAgg [eK 0 2 (c.sp.map enS), vK (nx 0 c.sp) 2 ((c.gv.map lnc).map enL), .imm (slD false 1 (c.go.co.map ic)), .imm (.int .i64 c.go.c)], oK 2 (c.sp.map enS) ++ oK 2 ((c.gv.map lnc).map enL)) := by
  have h := l45 (n := n) (c := c) hf c.gv [] 0 rfl rfl
  have h81 := ok81 n c.go hf.go
  rw [cast0] at h
  have hsp := hf.sp
  obtain ⟨sn, sp, gn, gv, go⟩ := c
  simp only at hsp h81
  have h5 : sp.length * 17 ≤ 70368744177664 := by omega
  rw [i45]
  simp only [go_sem, Nat.reduceAdd, Nat.reduceSub, Nat.reduceMul, Nat.reduceDiv, Nat.reduceMod, Nat.reduceLeDiff, Nat.reduceLT, Nat.reduceBEq, Int.reduceToNat, Int.reduceLT, Int.reduceLE, Int.reduceEq, lnc] at h81
  rcases sp with _ | ⟨s0, sp⟩ <;> rcases gv with _ | ⟨g0, gv⟩ <;> (try simp only [List.length_cons] at h5)
  · simp only [go_sem, Nat.reduceAdd, Nat.reduceSub, Nat.reduceMul, Nat.reduceDiv, Nat.reduceMod, Nat.reduceLeDiff, Nat.reduceLT, Nat.reduceBEq, Int.reduceToNat, Int.reduceLT, Int.reduceLE, Int.reduceEq, vK, oK, eK, nx] at h
    simp only [go_sem, Nat.reduceAdd, Nat.reduceSub, Nat.reduceMul, Nat.reduceDiv, Nat.reduceMod, Nat.reduceLeDiff, Nat.reduceLT, Nat.reduceBEq, Int.reduceToNat, Int.reduceLT, Int.reduceLE, Int.reduceEq, h, h81, src_0, vK, oK, eK, nx]
  · simp only [go_sem, Nat.reduceAdd, Nat.reduceSub, Nat.reduceMul, Nat.reduceDiv, Nat.reduceMod, Nat.reduceLeDiff, Nat.reduceLT, Nat.reduceBEq, Int.reduceToNat, Int.reduceLT, Int.reduceLE, Int.reduceEq, vK, oK, eK, nx, slD_cons] at h
    simp only [go_sem, Nat.reduceAdd, Nat.reduceSub, Nat.reduceMul, Nat.reduceDiv, Nat.reduceMod, Nat.reduceLeDiff, Nat.reduceLT, Nat.reduceBEq, Int.reduceToNat, Int.reduceLT, Int.reduceLE, Int.reduceEq, h, h81, src_0, vK, oK, eK, nx, slD_cons]
  · simp only [go_sem, Nat.reduceAdd, Nat.reduceSub, Nat.reduceMul, Nat.reduceDiv, Nat.reduceMod, Nat.reduceLeDiff, Nat.reduceLT, Nat.reduceBEq, Int.reduceToNat, Int.reduceLT, Int.reduceLE, Int.reduceEq, vK, oK, eK, nx, slD_cons] at h
    simp only [go_sem, Nat.reduceAdd, Nat.reduceSub, Nat.reduceMul, Nat.reduceDiv, Nat.reduceMod, Nat.reduceLeDiff, Nat.reduceLT, Nat.reduceBEq, Int.reduceToNat, Int.reduceLT, Int.reduceLE, Int.reduceEq, h, h81, src_0, h5, slD_cons, vK, oK, eK, nx]
  · simp only [go_sem, Nat.reduceAdd, Nat.reduceSub, Nat.reduceMul, Nat.reduceDiv, Nat.reduceMod, Nat.reduceLeDiff, Nat.reduceLT, Nat.reduceBEq, Int.reduceToNat, Int.reduceLT, Int.reduceLE, Int.reduceEq, vK, oK, eK, nx, slD_cons] at h
    simp only [go_sem, Nat.reduceAdd, Nat.reduceSub, Nat.reduceMul, Nat.reduceDiv, Nat.reduceMod, Nat.reduceLeDiff, Nat.reduceLT, Nat.reduceBEq, Int.reduceToNat, Int.reduceLT, Int.reduceLE, Int.reduceEq, h, h81, src_0, h5, slD_cons, vK, oK, eK, nx]
end Go.Vm.P12

/- Chapter 12, plain laws: the decisions of both sides; the errors of claims. -/
set_option maxRecDepth 100000
namespace Go.Vm.P12
open Go Go.Vm
def SpOk (l : List Sp) : Prop := ∀ s ∈ l, -1048576 ≤ s.lo ∧ s.lo ≤ s.hi ∧ s.hi ≤ 1048576
def Rel (l : List Sp) (k : Nat) (fd : Bool) (v : Nat) : Prop := v < l.length ∧ (fd = true → k = v ∧ 0 < wdt (l.getD v ⟨0, 0⟩)) ∧ (fd = false → v = 0 ∧ k = 0 ∧ wdt (l.getD v ⟨0, 0⟩) = 0)
theorem mem_set {α : Type} {l : List α} {i : Nat} {a b : α} (h : b ∈ l.set i a) : b = a ∨ b ∈ l := by
  rcases List.mem_or_eq_of_mem_set h with h | h
  · exact .inr h
  · exact .inl h
theorem nar_sp {c : Cl} (h : SpOk c.sp) {v : Nat} {s : Sp} (hs : -1048576 ≤ s.lo ∧ s.lo ≤ s.hi ∧ s.hi ≤ 1048576) : SpOk (nar c v s).sp := by
  intro x hx
  rcases mem_set hx with rfl | hx
  · exact hs
  · exact h x hx
end Go.Vm.P12

/- Chapter 12, plain laws: the errors of claims; a claim and its copy. -/
set_option maxRecDepth 100000
namespace Go.Vm.P12
open Go Go.Vm
theorem fnz_app : ∀ (l r : List Int), fnz (l ++ r) = if fnz l = 0 then fnz r else fnz l
  | [], r => by simp [fnz]
  | x :: l, r => by
    rw [List.cons_append, fnz_cons, fnz_cons, fnz_app l r]
    by_cases h : x = 0
    · simp [h]
    · simp [h]
theorem ck_off (a b c : Int) : ckR a b c = if offB a b c then 3 else 0 := by
  unfold ckR offB
  by_cases h1 : a < b <;> by_cases h2 : c < a <;> simp [h1, h2]
theorem sp1_eq (s : Sp) : spErr1 s = rSp1 s := by
  unfold spErr1 rSp1
  rw [ck_off, ck_off]
  cases offB s.lo (-1048576) 1048576 <;> cases offB s.hi (-1048576) 1048576 <;> simp [fnz]
theorem sp_eq (l : List Sp) : spErr l = rSpErr l := by
  unfold spErr rSpErr
  rw [show spErr1 = rSp1 from funext sp1_eq]
theorem fnz_ck : ∀ l : List Int, fnz (l.map ckC) = if l.any (fun c => offB c (-1048576) 1048576) then 3 else 0
  | [] => rfl
  | x :: l => by
    rw [List.map_cons, fnz_cons, fnz_ck l, ckC, ck_off, List.any_cons]
    cases offB x (-1048576) 1048576 <;> simp
theorem ln_eq (x : Ln) (m : Nat) : lnErr x m = rLnErr x m := by
  unfold lnErr rLnErr
  rw [fnz_ck, ck_off]
  by_cases h : x.co.length = m
  · have h' : (x.co.length : Int) = m := by omega
    cases x.co.any (fun c => offB c (-1048576) 1048576) <;> cases offB x.c (-1099511627776) 1099511627776 <;> simp [fnz, h]
  · have h' : ¬ (x.co.length : Int) = m := by omega
    simp [fnz, h, h']
theorem cl_eq (c : Cl) : clErr c = rClErr c := by
  unfold clErr rClErr clE0
  rw [sp_eq]
  have e : ((c.gv ++ [c.go]).map fun l => lnErr l c.sp.length) = (c.gv.map fun l => rLnErr l c.sp.length) ++ [rLnErr c.go c.sp.length] := by
    rw [List.map_append, List.map_cons, List.map_nil, ln_eq]
    congr 1
    exact List.map_congr_left fun l _ => ln_eq l _
  rw [e, fnz_app]
  by_cases h0 : rSpErr c.sp = 0
  · by_cases h1 : (12 : Int) < c.gv.length
    · simp [fnz, h0, h1]
    · simp only [fnz, h0, h1, decide_false, Bool.false_eq_true, if_false, if_true]
      by_cases h2 : fnz (c.gv.map fun l => rLnErr l c.sp.length) = 0
      · simp only [h2, if_true]
        by_cases h3 : rLnErr c.go c.sp.length = 0 <;> simp [h3]
      · simp only [h2, if_false]
  · simp [fnz, h0]
theorem cpy_err (c : Cl) : clErr (cpy c) = clErr c := by
  unfold clErr clE0
  have e : (((cpy c).gv ++ [(cpy c).go]).map fun l => lnErr l (cpy c).sp.length) = ((c.gv ++ [c.go]).map fun l => lnErr l c.sp.length) := by
    simp only [cpy, List.map_append, List.map_map, List.map_cons, List.map_nil]
    rfl
  rw [e]
  simp only [cpy, List.length_map]
theorem cpy_fit {c : Cl} (h : c.Fit) : (cpy c).Fit := by
  refine ⟨h.sp, by simpa [cpy] using h.gv, ?_, h.go⟩
  intro x hx
  simp only [cpy, List.mem_map] at hx
  obtain ⟨y, hy, rfl⟩ := hx
  exact h.ln y hy
theorem fz0 : ∀ l : List Int, fnz l = 0 → ∀ x ∈ l, x = 0
  | [], _, x, hx => by cases hx
  | y :: l, h, x, hx => by
    rw [fnz_cons] at h
    by_cases hy : y = 0
    · rw [if_pos hy] at h
      rcases List.mem_cons.1 hx with rfl | hx
      · exact hy
      · exact fz0 l h x hx
    · rw [if_neg hy] at h; exact absurd h hy
theorem off_f {a lo hi : Int} (h : offB a lo hi = false) : lo ≤ a ∧ a ≤ hi := by
  simp only [offB, Bool.or_eq_false_iff, decide_eq_false_iff_not] at h
  omega
end Go.Vm.P12

/- Evaluating: far places of a list. -/
namespace Go.Vm
section
universe u
variable {α : Type u} {d : α}
theorem gd64 {x0 x1 x2 x3 x4 x5 x6 x7 x8 x9 x10 x11 x12 x13 x14 x15 x16 x17 x18 x19 x20 x21 x22 x23 x24 x25 x26 x27 x28 x29 x30 x31 x32 x33 x34 x35 x36 x37 x38 x39 x40 x41 x42 x43 x44 x45 x46 x47 x48 x49 x50 x51 x52 x53 x54 x55 x56 x57 x58 x59 x60 x61 x62 x63 x64 : α} {r : List α} : List.getD (x0 :: x1 :: x2 :: x3 :: x4 :: x5 :: x6 :: x7 :: x8 :: x9 :: x10 :: x11 :: x12 :: x13 :: x14 :: x15 :: x16 :: x17 :: x18 :: x19 :: x20 :: x21 :: x22 :: x23 :: x24 :: x25 :: x26 :: x27 :: x28 :: x29 :: x30 :: x31 :: x32 :: x33 :: x34 :: x35 :: x36 :: x37 :: x38 :: x39 :: x40 :: x41 :: x42 :: x43 :: x44 :: x45 :: x46 :: x47 :: x48 :: x49 :: x50 :: x51 :: x52 :: x53 :: x54 :: x55 :: x56 :: x57 :: x58 :: x59 :: x60 :: x61 :: x62 :: x63 :: x64 :: r) 64 d = x64 := id rfl
theorem gd65 {x0 x1 x2 x3 x4 x5 x6 x7 x8 x9 x10 x11 x12 x13 x14 x15 x16 x17 x18 x19 x20 x21 x22 x23 x24 x25 x26 x27 x28 x29 x30 x31 x32 x33 x34 x35 x36 x37 x38 x39 x40 x41 x42 x43 x44 x45 x46 x47 x48 x49 x50 x51 x52 x53 x54 x55 x56 x57 x58 x59 x60 x61 x62 x63 x64 x65 : α} {r : List α} : List.getD (x0 :: x1 :: x2 :: x3 :: x4 :: x5 :: x6 :: x7 :: x8 :: x9 :: x10 :: x11 :: x12 :: x13 :: x14 :: x15 :: x16 :: x17 :: x18 :: x19 :: x20 :: x21 :: x22 :: x23 :: x24 :: x25 :: x26 :: x27 :: x28 :: x29 :: x30 :: x31 :: x32 :: x33 :: x34 :: x35 :: x36 :: x37 :: x38 :: x39 :: x40 :: x41 :: x42 :: x43 :: x44 :: x45 :: x46 :: x47 :: x48 :: x49 :: x50 :: x51 :: x52 :: x53 :: x54 :: x55 :: x56 :: x57 :: x58 :: x59 :: x60 :: x61 :: x62 :: x63 :: x64 :: x65 :: r) 65 d = x65 := id rfl
theorem gd66 {x0 x1 x2 x3 x4 x5 x6 x7 x8 x9 x10 x11 x12 x13 x14 x15 x16 x17 x18 x19 x20 x21 x22 x23 x24 x25 x26 x27 x28 x29 x30 x31 x32 x33 x34 x35 x36 x37 x38 x39 x40 x41 x42 x43 x44 x45 x46 x47 x48 x49 x50 x51 x52 x53 x54 x55 x56 x57 x58 x59 x60 x61 x62 x63 x64 x65 x66 : α} {r : List α} : List.getD (x0 :: x1 :: x2 :: x3 :: x4 :: x5 :: x6 :: x7 :: x8 :: x9 :: x10 :: x11 :: x12 :: x13 :: x14 :: x15 :: x16 :: x17 :: x18 :: x19 :: x20 :: x21 :: x22 :: x23 :: x24 :: x25 :: x26 :: x27 :: x28 :: x29 :: x30 :: x31 :: x32 :: x33 :: x34 :: x35 :: x36 :: x37 :: x38 :: x39 :: x40 :: x41 :: x42 :: x43 :: x44 :: x45 :: x46 :: x47 :: x48 :: x49 :: x50 :: x51 :: x52 :: x53 :: x54 :: x55 :: x56 :: x57 :: x58 :: x59 :: x60 :: x61 :: x62 :: x63 :: x64 :: x65 :: x66 :: r) 66 d = x66 := id rfl
theorem gd67 {x0 x1 x2 x3 x4 x5 x6 x7 x8 x9 x10 x11 x12 x13 x14 x15 x16 x17 x18 x19 x20 x21 x22 x23 x24 x25 x26 x27 x28 x29 x30 x31 x32 x33 x34 x35 x36 x37 x38 x39 x40 x41 x42 x43 x44 x45 x46 x47 x48 x49 x50 x51 x52 x53 x54 x55 x56 x57 x58 x59 x60 x61 x62 x63 x64 x65 x66 x67 : α} {r : List α} : List.getD (x0 :: x1 :: x2 :: x3 :: x4 :: x5 :: x6 :: x7 :: x8 :: x9 :: x10 :: x11 :: x12 :: x13 :: x14 :: x15 :: x16 :: x17 :: x18 :: x19 :: x20 :: x21 :: x22 :: x23 :: x24 :: x25 :: x26 :: x27 :: x28 :: x29 :: x30 :: x31 :: x32 :: x33 :: x34 :: x35 :: x36 :: x37 :: x38 :: x39 :: x40 :: x41 :: x42 :: x43 :: x44 :: x45 :: x46 :: x47 :: x48 :: x49 :: x50 :: x51 :: x52 :: x53 :: x54 :: x55 :: x56 :: x57 :: x58 :: x59 :: x60 :: x61 :: x62 :: x63 :: x64 :: x65 :: x66 :: x67 :: r) 67 d = x67 := id rfl
theorem gd68 {x0 x1 x2 x3 x4 x5 x6 x7 x8 x9 x10 x11 x12 x13 x14 x15 x16 x17 x18 x19 x20 x21 x22 x23 x24 x25 x26 x27 x28 x29 x30 x31 x32 x33 x34 x35 x36 x37 x38 x39 x40 x41 x42 x43 x44 x45 x46 x47 x48 x49 x50 x51 x52 x53 x54 x55 x56 x57 x58 x59 x60 x61 x62 x63 x64 x65 x66 x67 x68 : α} {r : List α} : List.getD (x0 :: x1 :: x2 :: x3 :: x4 :: x5 :: x6 :: x7 :: x8 :: x9 :: x10 :: x11 :: x12 :: x13 :: x14 :: x15 :: x16 :: x17 :: x18 :: x19 :: x20 :: x21 :: x22 :: x23 :: x24 :: x25 :: x26 :: x27 :: x28 :: x29 :: x30 :: x31 :: x32 :: x33 :: x34 :: x35 :: x36 :: x37 :: x38 :: x39 :: x40 :: x41 :: x42 :: x43 :: x44 :: x45 :: x46 :: x47 :: x48 :: x49 :: x50 :: x51 :: x52 :: x53 :: x54 :: x55 :: x56 :: x57 :: x58 :: x59 :: x60 :: x61 :: x62 :: x63 :: x64 :: x65 :: x66 :: x67 :: x68 :: r) 68 d = x68 := id rfl
theorem gd69 {x0 x1 x2 x3 x4 x5 x6 x7 x8 x9 x10 x11 x12 x13 x14 x15 x16 x17 x18 x19 x20 x21 x22 x23 x24 x25 x26 x27 x28 x29 x30 x31 x32 x33 x34 x35 x36 x37 x38 x39 x40 x41 x42 x43 x44 x45 x46 x47 x48 x49 x50 x51 x52 x53 x54 x55 x56 x57 x58 x59 x60 x61 x62 x63 x64 x65 x66 x67 x68 x69 : α} {r : List α} : List.getD (x0 :: x1 :: x2 :: x3 :: x4 :: x5 :: x6 :: x7 :: x8 :: x9 :: x10 :: x11 :: x12 :: x13 :: x14 :: x15 :: x16 :: x17 :: x18 :: x19 :: x20 :: x21 :: x22 :: x23 :: x24 :: x25 :: x26 :: x27 :: x28 :: x29 :: x30 :: x31 :: x32 :: x33 :: x34 :: x35 :: x36 :: x37 :: x38 :: x39 :: x40 :: x41 :: x42 :: x43 :: x44 :: x45 :: x46 :: x47 :: x48 :: x49 :: x50 :: x51 :: x52 :: x53 :: x54 :: x55 :: x56 :: x57 :: x58 :: x59 :: x60 :: x61 :: x62 :: x63 :: x64 :: x65 :: x66 :: x67 :: x68 :: x69 :: r) 69 d = x69 := id rfl
theorem gd70 {x0 x1 x2 x3 x4 x5 x6 x7 x8 x9 x10 x11 x12 x13 x14 x15 x16 x17 x18 x19 x20 x21 x22 x23 x24 x25 x26 x27 x28 x29 x30 x31 x32 x33 x34 x35 x36 x37 x38 x39 x40 x41 x42 x43 x44 x45 x46 x47 x48 x49 x50 x51 x52 x53 x54 x55 x56 x57 x58 x59 x60 x61 x62 x63 x64 x65 x66 x67 x68 x69 x70 : α} {r : List α} : List.getD (x0 :: x1 :: x2 :: x3 :: x4 :: x5 :: x6 :: x7 :: x8 :: x9 :: x10 :: x11 :: x12 :: x13 :: x14 :: x15 :: x16 :: x17 :: x18 :: x19 :: x20 :: x21 :: x22 :: x23 :: x24 :: x25 :: x26 :: x27 :: x28 :: x29 :: x30 :: x31 :: x32 :: x33 :: x34 :: x35 :: x36 :: x37 :: x38 :: x39 :: x40 :: x41 :: x42 :: x43 :: x44 :: x45 :: x46 :: x47 :: x48 :: x49 :: x50 :: x51 :: x52 :: x53 :: x54 :: x55 :: x56 :: x57 :: x58 :: x59 :: x60 :: x61 :: x62 :: x63 :: x64 :: x65 :: x66 :: x67 :: x68 :: x69 :: x70 :: r) 70 d = x70 := id rfl
theorem gd71 {x0 x1 x2 x3 x4 x5 x6 x7 x8 x9 x10 x11 x12 x13 x14 x15 x16 x17 x18 x19 x20 x21 x22 x23 x24 x25 x26 x27 x28 x29 x30 x31 x32 x33 x34 x35 x36 x37 x38 x39 x40 x41 x42 x43 x44 x45 x46 x47 x48 x49 x50 x51 x52 x53 x54 x55 x56 x57 x58 x59 x60 x61 x62 x63 x64 x65 x66 x67 x68 x69 x70 x71 : α} {r : List α} : List.getD (x0 :: x1 :: x2 :: x3 :: x4 :: x5 :: x6 :: x7 :: x8 :: x9 :: x10 :: x11 :: x12 :: x13 :: x14 :: x15 :: x16 :: x17 :: x18 :: x19 :: x20 :: x21 :: x22 :: x23 :: x24 :: x25 :: x26 :: x27 :: x28 :: x29 :: x30 :: x31 :: x32 :: x33 :: x34 :: x35 :: x36 :: x37 :: x38 :: x39 :: x40 :: x41 :: x42 :: x43 :: x44 :: x45 :: x46 :: x47 :: x48 :: x49 :: x50 :: x51 :: x52 :: x53 :: x54 :: x55 :: x56 :: x57 :: x58 :: x59 :: x60 :: x61 :: x62 :: x63 :: x64 :: x65 :: x66 :: x67 :: x68 :: x69 :: x70 :: x71 :: r) 71 d = x71 := id rfl
theorem gd72 {x0 x1 x2 x3 x4 x5 x6 x7 x8 x9 x10 x11 x12 x13 x14 x15 x16 x17 x18 x19 x20 x21 x22 x23 x24 x25 x26 x27 x28 x29 x30 x31 x32 x33 x34 x35 x36 x37 x38 x39 x40 x41 x42 x43 x44 x45 x46 x47 x48 x49 x50 x51 x52 x53 x54 x55 x56 x57 x58 x59 x60 x61 x62 x63 x64 x65 x66 x67 x68 x69 x70 x71 x72 : α} {r : List α} : List.getD (x0 :: x1 :: x2 :: x3 :: x4 :: x5 :: x6 :: x7 :: x8 :: x9 :: x10 :: x11 :: x12 :: x13 :: x14 :: x15 :: x16 :: x17 :: x18 :: x19 :: x20 :: x21 :: x22 :: x23 :: x24 :: x25 :: x26 :: x27 :: x28 :: x29 :: x30 :: x31 :: x32 :: x33 :: x34 :: x35 :: x36 :: x37 :: x38 :: x39 :: x40 :: x41 :: x42 :: x43 :: x44 :: x45 :: x46 :: x47 :: x48 :: x49 :: x50 :: x51 :: x52 :: x53 :: x54 :: x55 :: x56 :: x57 :: x58 :: x59 :: x60 :: x61 :: x62 :: x63 :: x64 :: x65 :: x66 :: x67 :: x68 :: x69 :: x70 :: x71 :: x72 :: r) 72 d = x72 := id rfl
theorem gd73 {x0 x1 x2 x3 x4 x5 x6 x7 x8 x9 x10 x11 x12 x13 x14 x15 x16 x17 x18 x19 x20 x21 x22 x23 x24 x25 x26 x27 x28 x29 x30 x31 x32 x33 x34 x35 x36 x37 x38 x39 x40 x41 x42 x43 x44 x45 x46 x47 x48 x49 x50 x51 x52 x53 x54 x55 x56 x57 x58 x59 x60 x61 x62 x63 x64 x65 x66 x67 x68 x69 x70 x71 x72 x73 : α} {r : List α} : List.getD (x0 :: x1 :: x2 :: x3 :: x4 :: x5 :: x6 :: x7 :: x8 :: x9 :: x10 :: x11 :: x12 :: x13 :: x14 :: x15 :: x16 :: x17 :: x18 :: x19 :: x20 :: x21 :: x22 :: x23 :: x24 :: x25 :: x26 :: x27 :: x28 :: x29 :: x30 :: x31 :: x32 :: x33 :: x34 :: x35 :: x36 :: x37 :: x38 :: x39 :: x40 :: x41 :: x42 :: x43 :: x44 :: x45 :: x46 :: x47 :: x48 :: x49 :: x50 :: x51 :: x52 :: x53 :: x54 :: x55 :: x56 :: x57 :: x58 :: x59 :: x60 :: x61 :: x62 :: x63 :: x64 :: x65 :: x66 :: x67 :: x68 :: x69 :: x70 :: x71 :: x72 :: x73 :: r) 73 d = x73 := id rfl
theorem gd74 {x0 x1 x2 x3 x4 x5 x6 x7 x8 x9 x10 x11 x12 x13 x14 x15 x16 x17 x18 x19 x20 x21 x22 x23 x24 x25 x26 x27 x28 x29 x30 x31 x32 x33 x34 x35 x36 x37 x38 x39 x40 x41 x42 x43 x44 x45 x46 x47 x48 x49 x50 x51 x52 x53 x54 x55 x56 x57 x58 x59 x60 x61 x62 x63 x64 x65 x66 x67 x68 x69 x70 x71 x72 x73 x74 : α} {r : List α} : List.getD (x0 :: x1 :: x2 :: x3 :: x4 :: x5 :: x6 :: x7 :: x8 :: x9 :: x10 :: x11 :: x12 :: x13 :: x14 :: x15 :: x16 :: x17 :: x18 :: x19 :: x20 :: x21 :: x22 :: x23 :: x24 :: x25 :: x26 :: x27 :: x28 :: x29 :: x30 :: x31 :: x32 :: x33 :: x34 :: x35 :: x36 :: x37 :: x38 :: x39 :: x40 :: x41 :: x42 :: x43 :: x44 :: x45 :: x46 :: x47 :: x48 :: x49 :: x50 :: x51 :: x52 :: x53 :: x54 :: x55 :: x56 :: x57 :: x58 :: x59 :: x60 :: x61 :: x62 :: x63 :: x64 :: x65 :: x66 :: x67 :: x68 :: x69 :: x70 :: x71 :: x72 :: x73 :: x74 :: r) 74 d = x74 := id rfl
theorem gd75 {x0 x1 x2 x3 x4 x5 x6 x7 x8 x9 x10 x11 x12 x13 x14 x15 x16 x17 x18 x19 x20 x21 x22 x23 x24 x25 x26 x27 x28 x29 x30 x31 x32 x33 x34 x35 x36 x37 x38 x39 x40 x41 x42 x43 x44 x45 x46 x47 x48 x49 x50 x51 x52 x53 x54 x55 x56 x57 x58 x59 x60 x61 x62 x63 x64 x65 x66 x67 x68 x69 x70 x71 x72 x73 x74 x75 : α} {r : List α} : List.getD (x0 :: x1 :: x2 :: x3 :: x4 :: x5 :: x6 :: x7 :: x8 :: x9 :: x10 :: x11 :: x12 :: x13 :: x14 :: x15 :: x16 :: x17 :: x18 :: x19 :: x20 :: x21 :: x22 :: x23 :: x24 :: x25 :: x26 :: x27 :: x28 :: x29 :: x30 :: x31 :: x32 :: x33 :: x34 :: x35 :: x36 :: x37 :: x38 :: x39 :: x40 :: x41 :: x42 :: x43 :: x44 :: x45 :: x46 :: x47 :: x48 :: x49 :: x50 :: x51 :: x52 :: x53 :: x54 :: x55 :: x56 :: x57 :: x58 :: x59 :: x60 :: x61 :: x62 :: x63 :: x64 :: x65 :: x66 :: x67 :: x68 :: x69 :: x70 :: x71 :: x72 :: x73 :: x74 :: x75 :: r) 75 d = x75 := id rfl
theorem gd76 {x0 x1 x2 x3 x4 x5 x6 x7 x8 x9 x10 x11 x12 x13 x14 x15 x16 x17 x18 x19 x20 x21 x22 x23 x24 x25 x26 x27 x28 x29 x30 x31 x32 x33 x34 x35 x36 x37 x38 x39 x40 x41 x42 x43 x44 x45 x46 x47 x48 x49 x50 x51 x52 x53 x54 x55 x56 x57 x58 x59 x60 x61 x62 x63 x64 x65 x66 x67 x68 x69 x70 x71 x72 x73 x74 x75 x76 : α} {r : List α} : List.getD (x0 :: x1 :: x2 :: x3 :: x4 :: x5 :: x6 :: x7 :: x8 :: x9 :: x10 :: x11 :: x12 :: x13 :: x14 :: x15 :: x16 :: x17 :: x18 :: x19 :: x20 :: x21 :: x22 :: x23 :: x24 :: x25 :: x26 :: x27 :: x28 :: x29 :: x30 :: x31 :: x32 :: x33 :: x34 :: x35 :: x36 :: x37 :: x38 :: x39 :: x40 :: x41 :: x42 :: x43 :: x44 :: x45 :: x46 :: x47 :: x48 :: x49 :: x50 :: x51 :: x52 :: x53 :: x54 :: x55 :: x56 :: x57 :: x58 :: x59 :: x60 :: x61 :: x62 :: x63 :: x64 :: x65 :: x66 :: x67 :: x68 :: x69 :: x70 :: x71 :: x72 :: x73 :: x74 :: x75 :: x76 :: r) 76 d = x76 := id rfl
theorem gd77 {x0 x1 x2 x3 x4 x5 x6 x7 x8 x9 x10 x11 x12 x13 x14 x15 x16 x17 x18 x19 x20 x21 x22 x23 x24 x25 x26 x27 x28 x29 x30 x31 x32 x33 x34 x35 x36 x37 x38 x39 x40 x41 x42 x43 x44 x45 x46 x47 x48 x49 x50 x51 x52 x53 x54 x55 x56 x57 x58 x59 x60 x61 x62 x63 x64 x65 x66 x67 x68 x69 x70 x71 x72 x73 x74 x75 x76 x77 : α} {r : List α} : List.getD (x0 :: x1 :: x2 :: x3 :: x4 :: x5 :: x6 :: x7 :: x8 :: x9 :: x10 :: x11 :: x12 :: x13 :: x14 :: x15 :: x16 :: x17 :: x18 :: x19 :: x20 :: x21 :: x22 :: x23 :: x24 :: x25 :: x26 :: x27 :: x28 :: x29 :: x30 :: x31 :: x32 :: x33 :: x34 :: x35 :: x36 :: x37 :: x38 :: x39 :: x40 :: x41 :: x42 :: x43 :: x44 :: x45 :: x46 :: x47 :: x48 :: x49 :: x50 :: x51 :: x52 :: x53 :: x54 :: x55 :: x56 :: x57 :: x58 :: x59 :: x60 :: x61 :: x62 :: x63 :: x64 :: x65 :: x66 :: x67 :: x68 :: x69 :: x70 :: x71 :: x72 :: x73 :: x74 :: x75 :: x76 :: x77 :: r) 77 d = x77 := id rfl
theorem gd78 {x0 x1 x2 x3 x4 x5 x6 x7 x8 x9 x10 x11 x12 x13 x14 x15 x16 x17 x18 x19 x20 x21 x22 x23 x24 x25 x26 x27 x28 x29 x30 x31 x32 x33 x34 x35 x36 x37 x38 x39 x40 x41 x42 x43 x44 x45 x46 x47 x48 x49 x50 x51 x52 x53 x54 x55 x56 x57 x58 x59 x60 x61 x62 x63 x64 x65 x66 x67 x68 x69 x70 x71 x72 x73 x74 x75 x76 x77 x78 : α} {r : List α} : List.getD (x0 :: x1 :: x2 :: x3 :: x4 :: x5 :: x6 :: x7 :: x8 :: x9 :: x10 :: x11 :: x12 :: x13 :: x14 :: x15 :: x16 :: x17 :: x18 :: x19 :: x20 :: x21 :: x22 :: x23 :: x24 :: x25 :: x26 :: x27 :: x28 :: x29 :: x30 :: x31 :: x32 :: x33 :: x34 :: x35 :: x36 :: x37 :: x38 :: x39 :: x40 :: x41 :: x42 :: x43 :: x44 :: x45 :: x46 :: x47 :: x48 :: x49 :: x50 :: x51 :: x52 :: x53 :: x54 :: x55 :: x56 :: x57 :: x58 :: x59 :: x60 :: x61 :: x62 :: x63 :: x64 :: x65 :: x66 :: x67 :: x68 :: x69 :: x70 :: x71 :: x72 :: x73 :: x74 :: x75 :: x76 :: x77 :: x78 :: r) 78 d = x78 := id rfl
theorem gd79 {x0 x1 x2 x3 x4 x5 x6 x7 x8 x9 x10 x11 x12 x13 x14 x15 x16 x17 x18 x19 x20 x21 x22 x23 x24 x25 x26 x27 x28 x29 x30 x31 x32 x33 x34 x35 x36 x37 x38 x39 x40 x41 x42 x43 x44 x45 x46 x47 x48 x49 x50 x51 x52 x53 x54 x55 x56 x57 x58 x59 x60 x61 x62 x63 x64 x65 x66 x67 x68 x69 x70 x71 x72 x73 x74 x75 x76 x77 x78 x79 : α} {r : List α} : List.getD (x0 :: x1 :: x2 :: x3 :: x4 :: x5 :: x6 :: x7 :: x8 :: x9 :: x10 :: x11 :: x12 :: x13 :: x14 :: x15 :: x16 :: x17 :: x18 :: x19 :: x20 :: x21 :: x22 :: x23 :: x24 :: x25 :: x26 :: x27 :: x28 :: x29 :: x30 :: x31 :: x32 :: x33 :: x34 :: x35 :: x36 :: x37 :: x38 :: x39 :: x40 :: x41 :: x42 :: x43 :: x44 :: x45 :: x46 :: x47 :: x48 :: x49 :: x50 :: x51 :: x52 :: x53 :: x54 :: x55 :: x56 :: x57 :: x58 :: x59 :: x60 :: x61 :: x62 :: x63 :: x64 :: x65 :: x66 :: x67 :: x68 :: x69 :: x70 :: x71 :: x72 :: x73 :: x74 :: x75 :: x76 :: x77 :: x78 :: x79 :: r) 79 d = x79 := id rfl
end
attribute [go_sem] gd64 gd65 gd66 gd67 gd68 gd69 gd70 gd71 gd72 gd73 gd74 gd75 gd76 gd77 gd78 gd79
end Go.Vm

/- Chapter 12, the laws: awake. -/
set_option maxRecDepth 100000
set_option maxHeartbeats 2000000
namespace Go.Vm.P12
open Go Go.Vm
def cA : Cl := ⟨false, [⟨0, 9⟩, ⟨0, 9⟩], false, [⟨false, [1, -1], 0⟩], ⟨false, [2, -1], 0⟩⟩
def cB : Cl := ⟨false, [⟨0, 9⟩], true, [], ⟨false, [2], -7⟩⟩
def cC : Cl := ⟨false, [⟨0, 3⟩, ⟨0, 3⟩], false, [⟨false, [2, -2], -1⟩, ⟨false, [-2, 2], 0⟩], ⟨false, [0, 0], -1⟩⟩
def cZ (t : Int) : Cl := ⟨false, [⟨t, 9⟩], true, [], ⟨false, [1], -3⟩⟩
theorem fitA : cA.Fit := ⟨by decide, by decide, by intro x hx; simp [cA] at hx; subst hx; decide, by decide⟩
theorem fitB : cB.Fit := ⟨by decide, by decide, by intro x hx; simp [cB] at hx, by decide⟩
theorem fitC : cC.Fit := ⟨by decide, by decide, by intro x hx; simp [cC] at hx; rcases hx with rfl | rfl <;> decide, by decide⟩
theorem fitZ (t : Int) : (cZ t).Fit := ⟨by simp [cZ], by simp [cZ], by intro x hx; simp [cZ] at hx, by simp [cZ]⟩
theorem ok46 (n : Nat) : callP (level E (n+2)) 46 [] = some (.agg (enC cA)) := by
  rw [p46]; simp only [go_sem, Nat.reduceAdd, Nat.reduceSub, Nat.reduceMul, Nat.reduceDiv, Nat.reduceMod, Nat.reduceLeDiff, Nat.reduceLT, Nat.reduceBEq, Int.reduceToNat, Int.reduceLT, Int.reduceLE, Int.reduceEq, ok47]; rfl
theorem ok48 (n : Nat) : callP (level E (n+2)) 48 [] = some (.agg (enC cB)) := by
  rw [p48]; simp only [go_sem, Nat.reduceAdd, Nat.reduceSub, Nat.reduceMul, Nat.reduceDiv, Nat.reduceMod, Nat.reduceLeDiff, Nat.reduceLT, Nat.reduceBEq, Int.reduceToNat, Int.reduceLT, Int.reduceLE, Int.reduceEq, ok47]; rfl
theorem ok49 (n : Nat) : callP (level E (n+1)) 49 [.ptr [.int .i64 0, .int .i64 3]] = some (.agg (enC cC)) := by
  rw [p49]; simp only [go_sem, Nat.reduceAdd, Nat.reduceSub, Nat.reduceMul, Nat.reduceDiv, Nat.reduceMod, Nat.reduceLeDiff, Nat.reduceLT, Nat.reduceBEq, Int.reduceToNat, Int.reduceLT, Int.reduceLE, Int.reduceEq]; rfl
theorem ok50 (n : Nat) (t : Int) : callP (level E (n+1)) 50 [.int .i64 t] = some (.agg (enC (cZ t))) := by
  rw [p50]; simp only [go_sem, Nat.reduceAdd, Nat.reduceSub, Nat.reduceMul, Nat.reduceDiv, Nat.reduceMod, Nat.reduceLeDiff, Nat.reduceLT, Nat.reduceBEq, Int.reduceToNat, Int.reduceLT, Int.reduceLE, Int.reduceEq]; rfl
def pY : Stp := ⟨true, 0, false, [1, 1], false, [0, 0], false, [0, 0], 0, 0, 0, 0⟩
def pZ : Stp := ⟨true, 1, true, [], false, [1], false, [0], 0, 0, 0, 0⟩
theorem v35 : least false cA.go cA.sp = .tup [.int .i64 (-9), .int .i64 0] := by kernel_rfl
theorem v10A : direct cA = .tup [.agg (enT ⟨true, 1, false, [1], true, [1, 0], true, [0, 0], 0, 0, 0, 0⟩), .bool true, .int .i64 0] := by kernel_rfl
theorem v10B : direct cB = .tup [.agg (enT zSt), .bool false, .int .i64 0] := by kernel_rfl
theorem v15a : dcD cB 5 = .tup [.agg [.nil], .sl 1 [[.int .i64 0]], .bool false, .int .i64 0] := by kernel_rfl
theorem v15b : dcD cB 4 = .tup [.agg [.nil], .nil, .bool false, .int .i64 30] := by kernel_rfl
def pC : List Stp := (dec 60 60 cC []).st
theorem v15c : dcD cC 60 = .tup [.agg [slD false 9 (pC.map enT)], .nil, .bool true, .int .i64 0] := by kernel_rfl
theorem v26a : chk cC pC = .tup [.int .i64 0, .int .i64 0] := by kernel_rfl
theorem v26b : chk cC [pY] = .tup [.int .i64 0, .int .i64 0] := by kernel_rfl
theorem v26c : chk (cZ 3) [pZ] = .tup [.int .i64 0, .int .i64 0] := by kernel_rfl
theorem v26d : chk (cZ 2) [pZ] = .tup [.int .i64 0, .int .i64 29] := by kernel_rfl
theorem v23 : refutes cB [3] = .tup [.bool true, .int .i64 0] := by kernel_rfl
def fitsB (s : Stp) : Bool := decide (s.gv.length < 1000000000) && decide (s.lw.length < 1000000000) && decide (s.hg.length < 1000000000)
theorem fits_all {l : List Stp} (h : l.all fitsB = true) : ∀ s ∈ l, s.Fits := by
  intro s hs
  have := List.all_eq_true.1 h s hs
  simp only [fitsB, Bool.and_eq_true, decide_eq_true_eq] at this
  exact ⟨this.1.1, this.1.2, this.2⟩
theorem vf : pC.all fitsB = true := by kernel_rfl
theorem vlen : decide (pC.length < 1000000000) = true := by kernel_rfl
theorem ok8 (n : Nat) : callP (level E (n + 421)) 8 [] = some (.bool true) := by
  have h46 := ok46 (n + 418)
  have h48 := ok48 (n + 418)
  have h49 := ok49 (n + 419)
  have h50a := ok50 (n + 419) 3
  have h50b := ok50 (n + 419) 2
  have h35 := ok35 (n + 413) cA.go cA.sn cA.sp (by decide) (by decide)
  have h10A := ok10 (n + 411) cA fitA
  have h10B := ok10 (n + 411) cB fitB
  have h15a := ok15 (n + 10) cB 5 fitB
  have h15b := ok15 (n + 10) cB 4 fitB
  have h15c := ok15 (n + 10) cC 60 fitC
  have h26a := ok26 (n + 410) cC false pC fitC (of_decide_eq_true vlen) (fits_all vf)
  have h26b := ok26 (n + 410) cC false [pY] fitC (by decide) (fits_all (by decide))
  have h26c := ok26 (n + 410) (cZ 3) false [pZ] (fitZ 3) (by decide) (fits_all (by decide))
  have h26d := ok26 (n + 410) (cZ 2) false [pZ] (fitZ 2) (by decide) (fits_all (by decide))
  have h23 := ok23 (n + 411) cB false [3] fitB (by decide)
  have h21a := ok21 (n + 419) false false [1] [1] (by decide)
  have h21b := ok21 (n + 419) true false [1, 0] [1, 0] (by decide)
  have h21c := ok21 (n + 419) true false [0, 0] [0, 0] (by decide)
  have h21d := ok21 (n + 419) false false [0] [0] (by decide)
  rw [v35] at h35
  rw [v10A] at h10A
  rw [v10B] at h10B
  rw [v15a] at h15a
  rw [v15b] at h15b
  rw [v15c] at h15c
  rw [v26a] at h26a
  rw [v26b] at h26b
  rw [v26c] at h26c
  rw [v26d] at h26d
  rw [v23] at h23
  have w00 : wrp .i64 (0 + 0) = 0 := by decide
  rw [p8]
  simp only [go_sem, Nat.reduceAdd, Nat.reduceSub, Nat.reduceMul, Nat.reduceDiv, Nat.reduceMod, Nat.reduceLeDiff, Nat.reduceLT, Nat.reduceBEq, Int.reduceToNat, Int.reduceLT, Int.reduceLE, Int.reduceEq, pY, pZ, zSt, cC, slD_cons, slD_nil, decide_true] at h46 h48 h49 h50a h50b h35 h10A h10B h15a h15b h15c h26a h26b h26c h26d h23 h21a h21b h21c h21d
  simp only [go_sem, Nat.reduceAdd, Nat.reduceSub, Nat.reduceMul, Nat.reduceDiv, Nat.reduceMod, Nat.reduceLeDiff, Nat.reduceLT, Nat.reduceBEq, Int.reduceToNat, Int.reduceLT, Int.reduceLE, Int.reduceEq, sg_slD, h46, h48, h49, h50a, h50b, h35, h10A, h10B, h15a, h15b, h15c, h26a, h26b, h26c, h26d, h23, h21a, h21b, h21c, h21d, w00, decide_true]
end Go.Vm.P12

/- Chapter 12, the laws: ProveDecides. -/
set_option maxRecDepth 100000
set_option maxHeartbeats 2000000
namespace Go.Vm.P12
open Go Go.Vm
theorem leaf_gv {c : Cl} : ∀ s ∈ leaves c, s.gv.length = c.gv.length := by
  have hs : ∀ (g : Int) (i k m : Nat), ∀ s ∈ lfs c g i m k, s.gv.length = c.gv.length := by
    intro g i k
    induction k with
    | zero => intro m s h; cases h
    | succ k ih =>
      intro m s h
      rcases List.mem_cons.1 h with rfl | h
      · simp [lf, leafOf]
      · exact ih _ s h
  have hg : ∀ (g : Int) (M r i : Nat), ∀ s ∈ lfg c g M i r, s.gv.length = c.gv.length := by
    intro g M r
    induction r with
    | zero => intro i s h; cases h
    | succ r ih =>
      intro i s h
      rcases List.mem_append.1 h with h | h
      · exact hs _ _ _ _ s h
      · exact ih _ s h
  intro s h
  simp only [leaves, List.mem_append, List.mem_cons] at h
  rcases h with h | rfl | h
  · exact hg _ _ _ _ s h
  · simp [lf0, leafOf]
  · exact hg _ _ _ _ s h
theorem short_fit {c : Cl} (h : short c = true) : c.Fit ∧ c.gv.length ≤ 13 ∧ c.sp.length ≤ 8 := by
  simp only [short, Bool.and_eq_true, decide_eq_true_eq, shortLn, List.all_eq_true] at h
  refine ⟨⟨by omega, by omega, fun x hx => ?_, by omega⟩, by omega, by omega⟩
  have := h.2 x hx
  omega
def Small (c : Cl) (s : Stp) : Prop := s.gv.length ≤ c.gv.length ∧ s.lw.length ≤ c.sp.length ∧ s.hg.length ≤ c.sp.length
theorem dir_small {c : Cl} (hc : c.Even) {s : Stp} (h : dir c = some s) : Small c s := by
  have hm : s ∈ leaves c := List.mem_of_find?_eq_some h
  exact ⟨Nat.le_of_eq (leaf_gv s hm), Nat.le_of_eq (lw_len hc s hm).1, Nat.le_of_eq (lw_len hc s hm).2⟩
theorem dec_small : ∀ (f t : Nat) (c : Cl) (st : List Stp), c.Even → ∀ s ∈ (dec f t c st).st, s ∈ st ∨ Small c s
  | 0, t, c, st, hc, s, hs => .inl hs
  | f + 1, 0, c, st, hc, s, hs => .inl hs
  | f + 1, t + 1, c, st, hc, s, hs => by
    simp only [dec] at hs
    have hn : ∀ (v : Nat) (x : Sp) (s : Stp), Small (nar c v x) s → Small c s := by
      intro v x s h
      simpa [Small, nar] using h
    cases hd : dir c with
    | some y =>
      rw [hd] at hs
      simp only [List.mem_append, List.mem_singleton] at hs
      rcases hs with hs | rfl
      · exact .inl hs
      · exact .inr (dir_small hc hd)
    | none =>
      rw [hd] at hs
      simp only at hs
      cases hw : (wid c.sp).2
      · rw [hw] at hs; exact .inl hs
      · rw [hw] at hs
        simp only at hs
        generalize hr1 : dec f t (nar c (wid c.sp).1 ⟨(c.sp.getD (wid c.sp).1 ⟨0, 0⟩).lo, shr1 (ad (c.sp.getD (wid c.sp).1 ⟨0, 0⟩).lo (c.sp.getD (wid c.sp).1 ⟨0, 0⟩).hi)⟩) st = r1 at hs
        have S1 : ∀ s ∈ r1.st, s ∈ st ∨ Small c s := by
          intro s hs
          rw [← hr1] at hs
          rcases dec_small f t _ st (nar_even hc _ _) s hs with h | h
          · exact .inl h
          · exact .inr (hn _ _ _ h)
        cases hok : r1.ok
        · rw [hok] at hs; exact S1 s hs
        · rw [hok] at hs
          simp only at hs
          generalize hr2 : dec f r1.t (nar c (wid c.sp).1 ⟨ad (shr1 (ad (c.sp.getD (wid c.sp).1 ⟨0, 0⟩).lo (c.sp.getD (wid c.sp).1 ⟨0, 0⟩).hi)) 1, (c.sp.getD (wid c.sp).1 ⟨0, 0⟩).hi⟩) r1.st = r2 at hs
          have S2 : ∀ s ∈ r2.st, s ∈ st ∨ Small c s := by
            intro s hs
            rw [← hr2] at hs
            rcases dec_small f r1.t _ r1.st (nar_even hc _ _) s hs with h | h
            · exact S1 s h
            · exact .inr (hn _ _ _ h)
          cases hok2 : r2.ok
          · rw [hok2] at hs; exact S2 s hs
          · rw [hok2] at hs
            simp only [List.mem_append, List.mem_singleton] at hs
            rcases hs with hs | rfl
            · exact S2 s hs
            · exact .inr ⟨by simp [splitOf], by simp [splitOf], by simp [splitOf]⟩
end Go.Vm.P12

/- Chapter 12, the laws: ProveValues. -/
set_option maxRecDepth 100000
set_option maxHeartbeats 4000000
namespace Go.Vm.P12
open Go Go.Vm
def CoOk (l : List Int) : Prop := ∀ x ∈ l, -1048576 ≤ x ∧ x ≤ 1048576
theorem mul_rng {x y : Int} (h1 : -1048576 ≤ x) (h2 : x ≤ 1048576) (h3 : -1048576 ≤ y) (h4 : y ≤ 1048576) : -1099511627776 ≤ x * y ∧ x * y ≤ 1099511627776 := by
  have a1 : 0 ≤ (x + 1048576) * (1048576 + y) := Int.mul_nonneg (by omega) (by omega)
  have a2 : 0 ≤ (1048576 - x) * (1048576 - y) := Int.mul_nonneg (by omega) (by omega)
  have a3 : 0 ≤ (1048576 - x) * (1048576 + y) := Int.mul_nonneg (by omega) (by omega)
  have a4 : 0 ≤ (1048576 + x) * (1048576 - y) := Int.mul_nonneg (by omega) (by omega)
  simp only [Int.add_mul, Int.sub_mul, Int.mul_add, Int.mul_sub] at a1 a2 a3 a4
  omega
theorem ml_ok {x y : Int} (h1 : -1048576 ≤ x ∧ x ≤ 1048576) (h2 : -1048576 ≤ y ∧ y ≤ 1048576) : ml x y = x * y := by
  have := mul_rng h1.1 h1.2 h2.1 h2.2
  unfold ml
  exact wrp_ok (by omega)
theorem ex_eq (g : Bool) : ∀ (co : List Int) (sp : List Sp) (a : Int), CoOk co → SpOk sp → exs g co sp a = rex g co sp a
  | [], _, a, _, _ => by unfold exs rex; rfl
  | x :: co, [], a, _, _ => by unfold exs rex; rfl
  | x :: co, s :: sp, a, h1, h2 => by
    have hx := h1 x (List.mem_cons_self)
    obtain ⟨s1, s2, s3⟩ := h2 s (List.mem_cons_self)
    have IH := fun a => ex_eq g co sp a (fun y hy => h1 y (List.mem_cons_of_mem _ hy)) (fun y hy => h2 y (List.mem_cons_of_mem _ hy))
    simp only [exs, rex]
    rw [IH]
    congr 2
    rw [ml_ok hx ⟨s1, by omega⟩, ml_ok hx ⟨by omega, s3⟩]
    by_cases h0 : 0 < x
    · have hm : x * s.lo ≤ x * s.hi := Int.mul_le_mul_of_nonneg_left s2 (by omega)
      cases g
      · simp only [h0, decide_true, Bool.true_eq_false, if_false, Bool.false_eq_true]
        rw [ml_ok hx ⟨s1, by omega⟩, Int.min_eq_left hm]
      · simp only [h0, decide_true, if_true]
        rw [ml_ok hx ⟨by omega, s3⟩, Int.max_eq_right hm]
    · have hm : x * s.hi ≤ x * s.lo := Int.mul_le_mul_of_nonpos_left (by omega) s2
      cases g
      · simp only [h0, decide_false, if_true, Bool.false_eq_true, if_false]
        rw [ml_ok hx ⟨by omega, s3⟩, Int.min_eq_right hm]
      · simp only [h0, decide_false, Bool.false_eq_true, if_false, if_true]
        rw [ml_ok hx ⟨s1, by omega⟩, Int.max_eq_left hm]
theorem lnErr_co {x : Ln} {k : Int} (h : lnErr x k = 0) : CoOk x.co := by
  have h1 := fz0 _ h (if x.co.any (fun c => offB c (-1048576) 1048576) || offB x.c (-1099511627776) 1099511627776 then 3 else 0) (by simp)
  have h2 : (x.co.any (fun c => offB c (-1048576) 1048576) || offB x.c (-1099511627776) 1099511627776) = false := by
    cases h3 : (x.co.any (fun c => offB c (-1048576) 1048576) || offB x.c (-1099511627776) 1099511627776)
    · rfl
    · rw [h3] at h1; simp at h1
  rw [Bool.or_eq_false_iff] at h2
  intro a ha
  have := List.any_eq_false.1 h2.1 a ha
  exact off_f (by simpa using this)
theorem spErr_ok {l : List Sp} (h : spErr l = 0) : SpOk l := by
  unfold spErr at h
  by_cases h6 : 6 < l.length
  · simp [h6] at h
  · simp only [h6, if_false] at h
    intro s hs
    have h1 : spErr1 s = 0 := fz0 _ h _ (List.mem_map_of_mem hs)
    have a1 := fz0 _ h1 (if offB s.lo (-1048576) 1048576 || offB s.hi (-1048576) 1048576 then 3 else 0) (by simp)
    have a2 := fz0 _ h1 (if decide (s.hi < s.lo) then 9 else 0) (by simp)
    have b1 : (offB s.lo (-1048576) 1048576 || offB s.hi (-1048576) 1048576) = false := by
      cases h3 : (offB s.lo (-1048576) 1048576 || offB s.hi (-1048576) 1048576)
      · rfl
      · rw [h3] at a1; simp at a1
    rw [Bool.or_eq_false_iff] at b1
    have c1 := off_f b1.1
    have c2 := off_f b1.2
    have c3 : ¬ s.hi < s.lo := fun h => by simp [h] at a2
    omega
end Go.Vm.P12

/- Chapter 12, plain laws: what a right leaf says of the points of a box. -/
set_option maxRecDepth 100000
set_option maxHeartbeats 2000000
namespace Go.Vm.P12
open Go Go.Vm
def dot : List Int → List Int → Int
  | x :: r, p :: q => x * p + dot r q
  | _, _ => 0
def V (x : Ln) (pt : List Int) : Int := x.c + dot x.co pt
def LnOk (x : Ln) : Prop := CoOk x.co ∧ -1099511627776 ≤ x.c ∧ x.c ≤ 1099511627776
theorem mul_bd {x y a b : Int} (h1 : -a ≤ x) (h2 : x ≤ a) (h3 : -b ≤ y) (h4 : y ≤ b) : -(a * b) ≤ x * y ∧ x * y ≤ a * b := by
  have a1 : 0 ≤ (x + a) * (b + y) := Int.mul_nonneg (by omega) (by omega)
  have a2 : 0 ≤ (a - x) * (b - y) := Int.mul_nonneg (by omega) (by omega)
  have a3 : 0 ≤ (a - x) * (b + y) := Int.mul_nonneg (by omega) (by omega)
  have a4 : 0 ≤ (x + a) * (b - y) := Int.mul_nonneg (by omega) (by omega)
  simp only [Int.add_mul, Int.sub_mul, Int.mul_add, Int.mul_sub] at a1 a2 a3 a4
  omega
theorem vl_ok : ∀ (co pt : List Int) (a K : Int), CoOk co → CoOk pt → -K ≤ a → a ≤ K → K + co.length * 1099511627776 ≤ 4611686018427387904 → vl co pt a = a + dot co pt
  | [], pt, a, K, _, _, _, _, _ => by cases pt <;> simp [vl, dot]
  | x :: co, [], a, K, _, _, _, _, _ => by simp [vl, dot]
  | x :: co, p :: pt, a, K, h1, h2, h3, h4, h5 => by
    have hx := h1 x (List.mem_cons_self)
    have hp := h2 p (List.mem_cons_self)
    have hm := mul_rng hx.1 hx.2 hp.1 hp.2
    simp only [List.length_cons] at h5
    have e : ad a (x * p) = a + x * p := by unfold ad; exact wrp_ok (by omega)
    have IH := vl_ok co pt (a + x * p) (K + 1099511627776) (fun y hy => h1 y (List.mem_cons_of_mem _ hy)) (fun y hy => h2 y (List.mem_cons_of_mem _ hy)) (by omega) (by omega) (by omega)
    simp only [vl, dot, ml_ok hx hp, e, IH]
    omega
theorem vl_V {x : Ln} {pt : List Int} (hx : LnOk x) (hp : CoOk pt) (hl : x.co.length ≤ 6) : vl x.co pt x.c = V x pt :=
  vl_ok x.co pt x.c 1099511627776 hx.1 hp hx.2.1 hx.2.2 (by omega)
def Bd (k m : Int) (x : Ln) : Prop := (∀ a ∈ x.co, -k ≤ a ∧ a ≤ k) ∧ -m ≤ x.c ∧ x.c ≤ m
theorem zip_dot (f : Int) : ∀ (xs os pt : List Int), xs.length = os.length → dot (List.zipWith (fun a b => a + f * b) xs os) pt = dot xs pt + f * dot os pt
  | [], [], pt, _ => by simp [dot]
  | [], _ :: _, pt, h => by simp at h
  | _ :: _, [], pt, h => by simp at h
  | x :: xs, o :: os, [], _ => by simp [dot]
  | x :: xs, o :: os, p :: pt, h => by
    have IH := zip_dot f xs os pt (by simpa using h)
    simp only [List.zipWith_cons_cons, dot, IH, Int.add_mul, Int.mul_add, Int.mul_assoc]
    omega
theorem zip_ok {f k : Int} (hf : -1000 ≤ f ∧ f ≤ 1000) (hk : k + 1048576000 ≤ 4611686018427387904) : ∀ (xs os : List Int), (∀ a ∈ xs, -k ≤ a ∧ a ≤ k) → CoOk os →
    List.zipWith (fun a b => ad a (ml f b)) xs os = List.zipWith (fun a b => a + f * b) xs os ∧ ∀ a ∈ List.zipWith (fun a b => a + f * b) xs os, -(k + 1048576000) ≤ a ∧ a ≤ k + 1048576000
  | [], os, _, _ => by simp
  | _ :: _, [], _, _ => by simp
  | x :: xs, o :: os, h1, h2 => by
    obtain ⟨i1, i2⟩ := zip_ok hf hk xs os (fun y hy => h1 y (List.mem_cons_of_mem _ hy)) (fun y hy => h2 y (List.mem_cons_of_mem _ hy))
    have hx := h1 x (List.mem_cons_self)
    have ho := h2 o (List.mem_cons_self)
    have hm := mul_bd (a := 1000) (b := 1048576) hf.1 hf.2 ho.1 ho.2
    have e1 : ml f o = f * o := by unfold ml; exact wrp_ok (by omega)
    have e2 : ad x (f * o) = x + f * o := by unfold ad; exact wrp_ok (by omega)
    simp only [List.zipWith_cons_cons, i1, e1, e2]
    refine ⟨trivial, fun a ha => ?_⟩
    rcases List.mem_cons.1 ha with rfl | ha
    · omega
    · exact i2 a ha
theorem pls_V {f k m : Int} {x o : Ln} (hl : x.co.length = o.co.length) (hx : Bd k m x) (ho : LnOk o) (hf : -1000 ≤ f ∧ f ≤ 1000) (hk : k + 1048576000 ≤ 4611686018427387904) (hm : m + 1099511627776000 ≤ 4611686018427387904) :
    (∀ pt, V (pls f x o) pt = V x pt + f * V o pt) ∧ Bd (k + 1048576000) (m + 1099511627776000) (pls f x o) := by
  obtain ⟨z1, z2⟩ := zip_ok hf hk x.co o.co hx.1 ho.1
  have hb := mul_bd (a := 1000) (b := 1099511627776) hf.1 hf.2 ho.2.1 ho.2.2
  obtain ⟨x1, x2, x3⟩ := hx
  have e1 : ml f o.c = f * o.c := by unfold ml; exact wrp_ok (by omega)
  have e2 : ad x.c (f * o.c) = x.c + f * o.c := by unfold ad; exact wrp_ok (by omega)
  refine ⟨fun pt => ?_, ?_, ?_⟩
  · simp only [V, pls, z1, e1, e2, zip_dot f x.co o.co pt hl, Int.mul_add]
    omega
  · simp only [pls, z1]; exact z2
  · simp only [pls, e1, e2]; omega
def sumG : List Ln → List Int → List Int → Int
  | g :: gs, k :: ks, pt => k * V g pt + sumG gs ks pt
  | _, _, _ => 0
theorem ng_ok {k : Int} (h : 0 ≤ k ∧ k ≤ 1000) : ng k = -k := by
  unfold ng; rw [wrp_ok (by omega)]; omega
theorem lft_V : ∀ (gs : List Ln) (ks : List Int) (x : Ln) (k m : Int), (∀ g ∈ gs, LnOk g ∧ g.co.length = x.co.length) → (∀ a ∈ ks, 0 ≤ a ∧ a ≤ 1000) → Bd k m x →
    k + gs.length * 1048576000 ≤ 4611686018427387904 → m + gs.length * 1099511627776000 ≤ 4611686018427387904 →
    (∀ pt, V (lft x gs ks) pt = V x pt - sumG gs ks pt) ∧ Bd (k + gs.length * 1048576000) (m + gs.length * 1099511627776000) (lft x gs ks) ∧ (lft x gs ks).co.length = x.co.length
  | [], ks, x, k, m, _, _, hx, _, _ => by
    refine ⟨fun pt => by simp [lft, sumG], ?_, by simp [lft]⟩
    simp only [lft, List.length_nil, Int.natCast_zero, Int.zero_mul, Int.add_zero]; exact hx
  | g :: gs, [], x, k, m, _, _, hx, _, _ => by
    refine ⟨fun pt => by simp [lft, sumG], ?_, by simp [lft]⟩
    simp only [lft]
    have := hx.2
    refine ⟨fun a ha => ?_, by omega, by omega⟩
    have := hx.1 a ha
    omega
  | g :: gs, k0 :: ks, x, k, m, hg, hk, hx, h1, h2 => by
    simp only [List.length_cons] at h1 h2
    have hk0 := hk k0 (List.mem_cons_self)
    obtain ⟨g1, g2⟩ := hg g (List.mem_cons_self)
    obtain ⟨p1, p2⟩ := pls_V (f := ng k0) g2.symm hx g1 (by rw [ng_ok hk0]; omega) (by omega) (by omega)
    have pl : (pls (ng k0) x g).co.length = x.co.length := by simp [pls, g2]
    obtain ⟨i1, i2, i3⟩ := lft_V gs ks (pls (ng k0) x g) (k + 1048576000) (m + 1099511627776000) (fun y hy => by rw [pl]; exact hg y (List.mem_cons_of_mem _ hy)) (fun y hy => hk y (List.mem_cons_of_mem _ hy)) p2 (by omega) (by omega)
    refine ⟨fun pt => ?_, ?_, ?_⟩
    · simp only [lft, sumG, i1 pt, p1 pt]
      rw [ng_ok hk0, Int.neg_mul]
      omega
    · simp only [lft, List.length_cons]
      have := i2.2
      refine ⟨fun a ha => ?_, by omega, by omega⟩
      have := i2.1 a ha
      omega
    · simp only [lft, i3, pl]
structure Good (c : Cl) : Prop where
  ev : c.Even
  sp : SpOk c.sp
  n6 : c.sp.length ≤ 6
  gv : ∀ g ∈ c.gv, LnOk g
  n12 : c.gv.length ≤ 12
  go : LnOk c.go
structure Fac (y : Stp) (c : Cl) : Prop where
  go : 0 ≤ y.goal ∧ y.goal ≤ 1000
  gv : ∀ a ∈ y.gv, 0 ≤ a ∧ a ≤ 1000
  lw : ∀ a ∈ y.lw, 0 ≤ a ∧ a ≤ 34359738368
  hg : ∀ a ∈ y.hg, 0 ≤ a ∧ a ≤ 34359738368
  nl : y.lw.length = c.sp.length
  nh : y.hg.length = c.sp.length
theorem dot_zero : ∀ (n : Nat) (pt : List Int), dot (List.replicate n 0) pt = 0
  | 0, pt => by simp [dot]
  | n + 1, [] => by simp [dot]
  | n + 1, p :: pt => by
    rw [List.replicate_succ, dot, dot_zero n pt]; omega
theorem left_V {y : Stp} {c : Cl} (hc : Good c) (hg : 0 ≤ y.goal ∧ y.goal ≤ 1000) (hv : ∀ a ∈ y.gv, 0 ≤ a ∧ a ≤ 1000) :
    (∀ pt, V (left y c) pt = y.goal * V c.go pt - sumG c.gv y.gv pt) ∧ Bd 17179869184 18014398509481984 (left y c) ∧ (left y c).co.length = c.sp.length := by
  have hz : Bd 0 0 ⟨false, List.replicate c.sp.length 0, 0⟩ := ⟨fun a ha => by have := List.eq_of_mem_replicate ha; omega, by simp, by simp⟩
  have n12 := hc.n12
  obtain ⟨p1, p2⟩ := pls_V (f := y.goal) (x := ⟨false, List.replicate c.sp.length 0, 0⟩) (o := c.go) (by simp [hc.ev.go]) hz hc.go (by omega) (by omega) (by omega)
  have pl : (pls y.goal ⟨false, List.replicate c.sp.length 0, 0⟩ c.go).co.length = c.sp.length := by simp [pls, hc.ev.go]
  obtain ⟨i1, i2, i3⟩ := lft_V c.gv y.gv _ _ _ (fun g hg => ⟨hc.gv g hg, by rw [pl]; exact hc.ev.gv g hg⟩) hv p2 (by omega) (by omega)
  refine ⟨fun pt => ?_, ?_, ?_⟩
  · unfold left
    rw [i1, p1]
    simp only [V, dot_zero]
    omega
  · unfold left
    have := i2.2
    refine ⟨fun a ha => ?_, by omega, by omega⟩
    have := i2.1 a ha
    omega
  · unfold left; rw [i3, pl]
def ends : List Int → List Int → List Sp → Int
  | l :: ls, h :: hs, s :: ss => l * s.lo - h * s.hi + ends ls hs ss
  | _, _, _ => 0
theorem prC_ok : ∀ (lw hg : List Int) (sp : List Sp) (c K : Int), (∀ a ∈ lw, 0 ≤ a ∧ a ≤ 34359738368) → (∀ a ∈ hg, 0 ≤ a ∧ a ≤ 34359738368) → SpOk sp → -K ≤ c → c ≤ K → K + sp.length * 72057594037927936 ≤ 4611686018427387904 → prC c lw hg sp = c + ends lw hg sp
  | [], hg, sp, c, K, _, _, _, _, _, _ => by simp [prC, ends]
  | _ :: _, [], sp, c, K, _, _, _, _, _, _ => by simp [prC, ends]
  | _ :: _, _ :: _, [], c, K, _, _, _, _, _, _ => by simp [prC, ends]
  | l :: lw, h :: hg, s :: sp, c, K, h1, h2, h3, h4, h5, h6 => by
    have hl := h1 l (List.mem_cons_self)
    have hh := h2 h (List.mem_cons_self)
    obtain ⟨s1, s2, s3⟩ := h3 s (List.mem_cons_self)
    have m1 := mul_bd (x := l) (y := s.lo) (a := 34359738368) (b := 1048576) (by omega) (by omega) (by omega) (by omega)
    have m2 := mul_bd (x := h) (y := s.hi) (a := 34359738368) (b := 1048576) (by omega) (by omega) (by omega) (by omega)
    simp only [List.length_cons] at h6
    have e1 : ml l s.lo = l * s.lo := by unfold ml; exact wrp_ok (by omega)
    have e2 : ml h s.hi = h * s.hi := by unfold ml; exact wrp_ok (by omega)
    have e3 : sb (l * s.lo) (h * s.hi) = l * s.lo - h * s.hi := by unfold sb; exact wrp_ok (by omega)
    have e4 : ad c (l * s.lo - h * s.hi) = c + (l * s.lo - h * s.hi) := by unfold ad; exact wrp_ok (by omega)
    have IH := prC_ok lw hg sp (c + (l * s.lo - h * s.hi)) (K + 72057594037927936) (fun y hy => h1 y (List.mem_cons_of_mem _ hy)) (fun y hy => h2 y (List.mem_cons_of_mem _ hy)) (fun y hy => h3 y (List.mem_cons_of_mem _ hy)) (by omega) (by omega) (by omega)
    simp only [prC, ends, e1, e2, e3, e4, IH]
    omega
theorem ins_c {p : Int} {s : Sp} {pt : List Int} {sp : List Sp} (h : ins (p :: pt) (s :: sp) = true) : s.lo ≤ p ∧ p ≤ s.hi ∧ ins pt sp = true := by
  simp only [ins, Bool.and_eq_true, Bool.not_eq_true'] at h
  have := off_f h.1
  exact ⟨this.1, this.2, h.2⟩
theorem prX_dot : ∀ (xs lw hg : List Int) (sp : List Sp) (pt : List Int), xs.length = sp.length → lw.length = sp.length → hg.length = sp.length → pt.length = sp.length →
    (∀ a ∈ xs, -17179869184 ≤ a ∧ a ≤ 17179869184) → (∀ a ∈ lw, 0 ≤ a ∧ a ≤ 34359738368) → (∀ a ∈ hg, 0 ≤ a ∧ a ≤ 34359738368) → ins pt sp = true →
    (prX xs lw hg).any (fun n => decide (n ≠ 0)) = false → ends lw hg sp ≤ dot xs pt
  | xs, lw, hg, [], pt, e1, e2, e3, e4, _, _, _, _, _ => by
    have := List.length_eq_zero_iff.1 e1
    have := List.length_eq_zero_iff.1 e2
    subst xs lw
    simp [ends, dot]
  | [], _, _, _ :: _, _, e1, _, _, _, _, _, _, _, _ => by simp at e1
  | _ :: _, [], _, _ :: _, _, _, e2, _, _, _, _, _, _, _ => by simp at e2
  | _ :: _, _ :: _, [], _ :: _, _, _, _, e3, _, _, _, _, _, _ => by simp at e3
  | _ :: _, _ :: _, _ :: _, _ :: _, [], _, _, _, e4, _, _, _, _, _ => by simp at e4
  | x :: xs, l :: lw, h :: hg, s :: sp, p :: pt, e1, e2, e3, e4, h1, h2, h3, h4, h5 => by
    obtain ⟨b1, b2, b3⟩ := ins_c h4
    have hx := h1 x (List.mem_cons_self)
    have hl := h2 l (List.mem_cons_self)
    have hh := h3 h (List.mem_cons_self)
    have q1 : sb h l = h - l := by unfold sb; exact wrp_ok (by omega)
    have q2 : ad x (h - l) = x + (h - l) := by unfold ad; exact wrp_ok (by omega)
    simp only [prX, q1, q2, List.any_cons, Bool.or_eq_false_iff, decide_eq_false_iff_not, ne_eq, Decidable.not_not] at h5
    have IH := prX_dot xs lw hg sp pt (by simpa using e1) (by simpa using e2) (by simpa using e3) (by simpa using e4) (fun y hy => h1 y (List.mem_cons_of_mem _ hy)) (fun y hy => h2 y (List.mem_cons_of_mem _ hy)) (fun y hy => h3 y (List.mem_cons_of_mem _ hy)) b3 (by simpa using h5.2)
    have hxe : x = l - h := by omega
    have m1 : 0 ≤ l * (p - s.lo) := Int.mul_nonneg hl.1 (by omega)
    have m2 : 0 ≤ h * (s.hi - p) := Int.mul_nonneg hh.1 (by omega)
    simp only [ends, dot, hxe, Int.sub_mul]
    simp only [Int.mul_sub] at m1 m2
    omega
theorem sumG_nn : ∀ (gs : List Ln) (ks pt : List Int), (∀ a ∈ ks, 0 ≤ a ∧ a ≤ 1000) → (∀ g ∈ gs, 0 ≤ V g pt) → 0 ≤ sumG gs ks pt
  | [], ks, pt, _, _ => by simp [sumG]
  | _ :: _, [], pt, _, _ => by simp [sumG]
  | g :: gs, k :: ks, pt, h1, h2 => by
    have IH := sumG_nn gs ks pt (fun y hy => h1 y (List.mem_cons_of_mem _ hy)) (fun y hy => h2 y (List.mem_cons_of_mem _ hy))
    have := Int.mul_nonneg (h1 k (List.mem_cons_self)).1 (h2 g (List.mem_cons_self))
    simp only [sumG]
    omega
theorem leaf_sound {y : Stp} {c : Cl} (hc : Good c) (hy : Fac y c) (hp : prv y c = true) {pt : List Int} (hl : pt.length = c.sp.length) (hi : ins pt c.sp = true) (hg : ∀ g ∈ c.gv, 0 ≤ V g pt) : 0 ≤ V c.go pt := by
  obtain ⟨v1, v2, v3⟩ := left_V hc hy.go hy.gv
  have n6 := hc.n6
  unfold prv at hp
  rw [Bool.and_eq_true, decide_eq_true_eq, Bool.not_eq_true', ng_ok hy.go, prC_ok y.lw y.hg c.sp (left y c).c 18014398509481984 hy.lw hy.hg hc.sp v2.2.1 v2.2.2 (by omega)] at hp
  have hd := prX_dot (left y c).co y.lw y.hg c.sp pt v3 hy.nl hy.nh hl v2.1 hy.lw hy.hg hi hp.1
  have hs := sumG_nn c.gv y.gv pt hy.gv hg
  have hv := v1 pt
  have e : V (left y c) pt = (left y c).c + dot (left y c).co pt := rfl
  have hgo := hy.go
  apply Classical.byContradiction
  intro hn
  have : 0 ≤ y.goal * (-1 - V c.go pt) := Int.mul_nonneg hgo.1 (by omega)
  simp only [Int.mul_sub] at this
  omega
end Go.Vm.P12

/- Chapter 12, plain laws: leaves for a single point; the form of decisions. -/
set_option maxRecDepth 100000
set_option maxHeartbeats 2000000
namespace Go.Vm.P12
open Go Go.Vm
theorem prX_max : ∀ (co : List Int), (∀ a ∈ co, -17179869184 ≤ a ∧ a ≤ 17179869184) → (prX co (co.map fun n => max n 0) (co.map fun n => max (ng n) 0)).any (fun n => decide (n ≠ 0)) = false
  | [], _ => rfl
  | x :: co, h => by
    have hx := h x (List.mem_cons_self)
    have IH := prX_max co (fun y hy => h y (List.mem_cons_of_mem _ hy))
    have e1 : ng x = -x := by unfold ng; rw [wrp_ok (by omega)]; omega
    have e2 : sb (max (-x) 0) (max x 0) = -x := by unfold sb; rw [wrp_ok (by omega)]; omega
    have e3 : ad x (-x) = 0 := by unfold ad; rw [wrp_ok (by omega)]; omega
    simp only [List.map_cons, prX, e1, e2, e3, List.any_cons, ne_eq, not_true_eq_false, decide_false, Bool.false_or] at IH ⊢
    exact IH
theorem ends_max : ∀ (co : List Int) (sp : List Sp), co.length = sp.length → (∀ a ∈ co, -17179869184 ≤ a ∧ a ≤ 17179869184) → (∀ s ∈ sp, s.lo = s.hi) → ends (co.map fun n => max n 0) (co.map fun n => max (ng n) 0) sp = dot co (sp.map (·.lo))
  | [], sp, _, _, _ => by simp [ends, dot]
  | _ :: _, [], h, _, _ => by simp at h
  | x :: co, s :: sp, h, h1, h2 => by
    have hx := h1 x (List.mem_cons_self)
    have hs := h2 s (List.mem_cons_self)
    have IH := ends_max co sp (by simpa using h) (fun y hy => h1 y (List.mem_cons_of_mem _ hy)) (fun y hy => h2 y (List.mem_cons_of_mem _ hy))
    have e1 : ng x = -x := by unfold ng; rw [wrp_ok (by omega)]; omega
    simp only [List.map_cons, ends, dot, IH, e1, ← hs]
    rcases Int.le_total 0 x with h0 | h0
    · rw [Int.max_eq_left h0, Int.max_eq_right (by omega)]; omega
    · rw [Int.max_eq_right h0, Int.max_eq_left (by omega), Int.neg_mul]; omega
def los (c : Cl) : List Int := c.sp.map (·.lo)
theorem prv_single {c : Cl} (hc : Good c) (hs : ∀ s ∈ c.sp, s.lo = s.hi) {goal : Int} {gs : List Int} (h1 : 0 ≤ goal ∧ goal ≤ 1000) (h2 : ∀ a ∈ gs, 0 ≤ a ∧ a ≤ 1000) :
    prv (leafOf c goal gs) c = decide (-goal < goal * V c.go (los c) - sumG c.gv gs (los c)) := by
  obtain ⟨v1, v2, v3⟩ := left_V (y := ⟨true, goal, false, gs, true, [], true, [], 0, 0, 0, 0⟩) hc h1 h2
  have n6 := hc.n6
  have el : left (leafOf c goal gs) c = left ⟨true, goal, false, gs, true, [], true, [], 0, 0, 0, 0⟩ c := left_gv _ _ c rfl rfl
  have v4 := v1 (los c)
  simp only at v4
  unfold prv
  rw [el]
  generalize hL : left ⟨true, goal, false, gs, true, [], true, [], 0, 0, 0, 0⟩ c = L at *
  have e1 : (leafOf c goal gs).lw = L.co.map fun n => max n 0 := by unfold leafOf; rw [hL]
  have e2 : (leafOf c goal gs).hg = L.co.map fun n => max (ng n) 0 := by unfold leafOf; rw [hL]
  have e3 : (leafOf c goal gs).goal = goal := rfl
  have b1 : ∀ a ∈ L.co.map (fun n => max n 0), 0 ≤ a ∧ a ≤ 34359738368 := by
    intro a ha
    obtain ⟨x, hx, rfl⟩ := List.mem_map.1 ha
    have := v2.1 x hx
    omega
  have b2 : ∀ a ∈ L.co.map (fun n => max (ng n) 0), 0 ≤ a ∧ a ≤ 34359738368 := by
    intro a ha
    obtain ⟨x, hx, rfl⟩ := List.mem_map.1 ha
    have := v2.1 x hx
    have e : ng x = -x := by unfold ng; rw [wrp_ok (by omega)]; omega
    simp only [e]
    omega
  rw [e1, e2, e3, prX_max L.co v2.1, ng_ok h1, prC_ok _ _ c.sp L.c 18014398509481984 b1 b2 hc.sp v2.2.1 v2.2.2 (by omega), ends_max L.co c.sp v3 v2.1 hs]
  simp only [Bool.not_false, Bool.true_and]
  rw [← v4]
  rfl
theorem sumG_zero : ∀ (gs : List Ln) (n : Nat) (pt : List Int), sumG gs (List.replicate n 0) pt = 0
  | [], n, pt => by simp [sumG]
  | g :: gs, 0, pt => by simp [sumG]
  | g :: gs, n + 1, pt => by
    rw [List.replicate_succ, sumG, sumG_zero gs n pt]; omega
theorem sumG_set : ∀ (gs : List Ln) (i : Nat) (g : Ln) (pt : List Int), gs[i]? = some g → sumG gs ((List.replicate gs.length 0).set i 1) pt = V g pt
  | [], i, g, pt, h => by simp at h
  | g0 :: gs, 0, g, pt, h => by
    simp only [List.getElem?_cons_zero, Option.some.injEq] at h
    subst h
    rw [List.length_cons, List.replicate_succ, List.set_cons_zero, sumG, sumG_zero]; omega
  | g0 :: gs, i + 1, g, pt, h => by
    simp only [List.getElem?_cons_succ] at h
    rw [List.length_cons, List.replicate_succ, List.set_cons_succ, sumG, sumG_set gs i g pt h]; omega
theorem lfg_mem (c : Cl) (goal : Int) : ∀ (r i j : Nat), i ≤ j → j < i + r → lf c goal j 1 ∈ lfg c goal 1 i r
  | 0, i, j, h1, h2 => by omega
  | r + 1, i, j, h1, h2 => by
    rw [lfg]
    by_cases h : j = i
    · subst h
      exact List.mem_append_left _ (List.mem_cons_self)
    · exact List.mem_append_right _ (lfg_mem c goal r (i + 1) j (by omega) (by omega))
theorem dir_none {c : Cl} (hc : Good c) (hs : ∀ s ∈ c.sp, s.lo = s.hi) (h : dir c = none) : (∀ g ∈ c.gv, 0 ≤ V g (los c)) ∧ V c.go (los c) < 0 := by
  have hn : ∀ s ∈ leaves c, ¬ prv s c = true := List.find?_eq_none.1 h
  have hz : ∀ n, ∀ a ∈ List.replicate n (0 : Int), 0 ≤ a ∧ a ≤ 1000 := fun n a ha => by
    have := List.eq_of_mem_replicate ha; omega
  constructor
  · intro g hg
    obtain ⟨i, hi, hgi⟩ := List.mem_iff_getElem.1 hg
    have hm : lf c 0 i 1 ∈ leaves c := List.mem_append_left _ (lfg_mem c 0 c.gv.length 0 i (by omega) (by omega))
    have h1 := hn _ hm
    unfold lf at h1
    rw [prv_single hc hs (by omega) (fun a ha => by
      rcases List.mem_or_eq_of_mem_set ha with ha | rfl
      · exact hz _ a ha
      · omega), sumG_set c.gv i g _ (by rw [List.getElem?_eq_getElem hi, hgi])] at h1
    simp only [decide_eq_true_eq] at h1
    omega
  · have hm : lf0 c 1 ∈ leaves c := List.mem_append_right _ (List.mem_cons_self)
    have h1 := hn _ hm
    unfold lf0 at h1
    rw [prv_single hc hs (by omega) (hz _), sumG_zero] at h1
    simp only [decide_eq_true_eq] at h1
    omega
theorem wids_some (l : List Sp) : ∀ (r : List Sp) (i : Nat) (st : Nat × Bool), st.2 = true → (wids l r i st).2 = true
  | [], i, st, h => h
  | s :: r, i, st, h => by
    rw [wids]
    apply wids_some l r
    split
    · rfl
    · exact h
theorem wids_none (l : List Sp) : ∀ (r : List Sp) (i : Nat) (st : Nat × Bool), (wids l r i st).2 = false → ∀ s ∈ r, ¬ s.lo < s.hi
  | [], i, st, h, s, hs => by cases hs
  | s0 :: r, i, st, h, s, hs => by
    rw [wids] at h
    by_cases hw : wider l s0 st = true
    · rw [if_pos hw] at h
      rw [wids_some l r (i + 1) _ rfl] at h
      cases h
    · rw [if_neg hw] at h
      rcases List.mem_cons.1 hs with rfl | hs
      · intro hlt
        have h2 : st.2 = false := by
          cases h3 : st.2
          · rfl
          · rw [wids_some l r (i + 1) st h3] at h; cases h
        exact hw (by simp [wider, hlt, h2])
      · exact wids_none l r (i + 1) st h s hs
theorem wid_none {l : List Sp} (h : (wid l).2 = false) : ∀ s ∈ l, ¬ s.lo < s.hi := wids_none l l 0 _ h
theorem wids_gt (l : List Sp) : ∀ (r : List Sp) (i : Nat) (st : Nat × Bool), l.drop i = r → (st.2 = true → ∃ s, l[st.1]? = some s ∧ s.lo < s.hi) → (wids l r i st).2 = true → ∃ s, l[(wids l r i st).1]? = some s ∧ s.lo < s.hi
  | [], i, st, hd, h, hw => h hw
  | s :: r, i, st, hd, h, hw => by
    obtain ⟨h1, h2, h3⟩ := drop_c hd
    rw [wids] at hw ⊢
    refine wids_gt l r (i + 1) _ h3 ?_ hw
    split
    · rename_i hwd
      intro _
      refine ⟨s, h1, ?_⟩
      simp only [wider, Bool.and_eq_true, decide_eq_true_eq] at hwd
      exact hwd.1
    · exact h
theorem wid_gt {l : List Sp} (h : (wid l).2 = true) : ∃ s, l[(wid l).1]? = some s ∧ s.lo < s.hi := wids_gt l l 0 _ rfl (by simp) h
theorem good_nar {c : Cl} (hc : Good c) {v : Nat} {s : Sp} (hs : -1048576 ≤ s.lo ∧ s.lo ≤ s.hi ∧ s.hi ≤ 1048576) : Good (nar c v s) :=
  ⟨nar_even hc.ev v s, nar_sp hc.sp hs, by simpa [nar] using hc.n6, hc.gv, hc.n12, hc.go⟩
theorem ins_nar : ∀ (pt : List Int) (sp : List Sp) (v : Nat) (s t : Sp), sp[v]? = some s → s.lo ≤ t.lo → t.hi ≤ s.hi → ins pt (sp.set v t) = true → ins pt sp = true
  | [], sp, v, s, t, _, _, _, _ => by simp [ins]
  | p :: pt, [], v, s, t, h, _, _, _ => by simp at h
  | p :: pt, s0 :: sp, 0, s, t, h, h1, h2, h3 => by
    simp only [List.getElem?_cons_zero, Option.some.injEq] at h
    subst h
    rw [List.set_cons_zero] at h3
    obtain ⟨a1, a2, a3⟩ := ins_c h3
    have e : offB p s0.lo s0.hi = false := by simp only [offB, Bool.or_eq_false_iff, decide_eq_false_iff_not]; omega
    simp only [ins, e, a3]; rfl
  | p :: pt, s0 :: sp, v + 1, s, t, h, h1, h2, h3 => by
    simp only [List.getElem?_cons_succ] at h
    rw [List.set_cons_succ] at h3
    obtain ⟨a1, a2, a3⟩ := ins_c h3
    have e : offB p s0.lo s0.hi = false := by simp only [offB, Bool.or_eq_false_iff, decide_eq_false_iff_not]; omega
    simp only [ins, e, ins_nar pt sp v s t h h1 h2 a3]; rfl
theorem ins_set : ∀ (pt : List Int) (sp : List Sp) (v : Nat) (p : Int) (t : Sp), pt[v]? = some p → t.lo ≤ p → p ≤ t.hi → ins pt sp = true → ins pt (sp.set v t) = true
  | [], sp, v, p, t, h, _, _, _ => by simp at h
  | q :: pt, [], v, p, t, h, _, _, _ => by simp [ins]
  | q :: pt, s0 :: sp, 0, p, t, h, h1, h2, h3 => by
    simp only [List.getElem?_cons_zero, Option.some.injEq] at h
    subst h
    obtain ⟨a1, a2, a3⟩ := ins_c h3
    have e : offB q t.lo t.hi = false := by simp only [offB, Bool.or_eq_false_iff, decide_eq_false_iff_not]; omega
    rw [List.set_cons_zero]
    simp only [ins, e, a3]; rfl
  | q :: pt, s0 :: sp, v + 1, p, t, h, h1, h2, h3 => by
    simp only [List.getElem?_cons_succ] at h
    obtain ⟨a1, a2, a3⟩ := ins_c h3
    have e : offB q s0.lo s0.hi = false := by simp only [offB, Bool.or_eq_false_iff, decide_eq_false_iff_not]; omega
    rw [List.set_cons_succ]
    simp only [ins, e, ins_set pt sp v p t h h1 h2 a3]; rfl
theorem ins_los : ∀ (sp : List Sp), SpOk sp → ins (sp.map (·.lo)) sp = true
  | [], _ => rfl
  | s :: sp, h => by
    obtain ⟨s1, s2, s3⟩ := h s (List.mem_cons_self)
    have e : offB s.lo s.lo s.hi = false := by simp only [offB, Bool.or_eq_false_iff, decide_eq_false_iff_not]; omega
    simp only [List.map_cons, ins, e, ins_los sp (fun y hy => h y (List.mem_cons_of_mem _ hy))]; rfl
theorem mid_ok {s : Sp} (h1 : -1048576 ≤ s.lo) (h2 : s.lo < s.hi) (h3 : s.hi ≤ 1048576) : s.lo ≤ shr1 (ad s.lo s.hi) ∧ shr1 (ad s.lo s.hi) < s.hi ∧ ad (shr1 (ad s.lo s.hi)) 1 = shr1 (ad s.lo s.hi) + 1 := by
  have e : ad s.lo s.hi = s.lo + s.hi := by unfold ad; exact wrp_ok (by omega)
  have e1 : (s.lo + s.hi).fdiv 2 = (s.lo + s.hi) / 2 := Int.fdiv_eq_ediv_of_nonneg _ (by decide)
  unfold shr1
  rw [e, e1]
  refine ⟨by omega, by omega, ?_⟩
  unfold ad; exact wrp_ok (by omega)
def Ref (c : Cl) (pt : List Int) : Prop := pt.length = c.sp.length ∧ ins pt c.sp = true ∧ (∀ g ∈ c.gv, 0 ≤ V g pt) ∧ V c.go pt < 0
theorem dec_no : ∀ (f t : Nat) (c : Cl) (st : List Stp), Good c → (dec f t c st).ok = false → ((dec f t c st).e = 0 ∨ (dec f t c st).e = 30) ∧ ((dec f t c st).e = 0 → Ref c (dec f t c st).pt)
  | 0, t, c, st, hc, h => by simp [dec]
  | f + 1, 0, c, st, hc, h => by simp [dec]
  | f + 1, t + 1, c, st, hc, h => by
    cases hd : dir c with
    | some s => simp only [dec, hd] at h; cases h
    | none =>
      cases hw : (wid c.sp).2
      · have hs : ∀ s ∈ c.sp, s.lo = s.hi := fun s hs => by
          have := wid_none hw s hs
          have := hc.sp s hs
          omega
        obtain ⟨d1, d2⟩ := dir_none hc hs hd
        simp only [dec, hd, hw]
        exact ⟨by simp, fun _ => ⟨by simp, ins_los c.sp hc.sp, d1, d2⟩⟩
      · obtain ⟨s, hs1, hs2⟩ := wid_gt hw
        have hgd : c.sp.getD (wid c.sp).1 ⟨0, 0⟩ = s := by rw [List.getD_eq_getElem?_getD, hs1]; rfl
        obtain ⟨o1, o2, o3⟩ := hc.sp s (List.mem_of_getElem? hs1)
        obtain ⟨m1, m2, m3⟩ := mid_ok o1 hs2 o3
        have G1 : Good (nar c (wid c.sp).1 ⟨s.lo, shr1 (ad s.lo s.hi)⟩) := good_nar hc (by simp only; omega)
        have G2 : Good (nar c (wid c.sp).1 ⟨ad (shr1 (ad s.lo s.hi)) 1, s.hi⟩) := good_nar hc (by simp only; omega)
        simp only [dec, hd, hw, hgd] at h ⊢
        have i1 := dec_no f t (nar c (wid c.sp).1 ⟨s.lo, shr1 (ad s.lo s.hi)⟩) st G1
        generalize dec f t (nar c (wid c.sp).1 ⟨s.lo, shr1 (ad s.lo s.hi)⟩) st = r1 at h i1 ⊢
        cases h1 : r1.ok
        · simp only [h1] at h ⊢
          obtain ⟨j1, j2⟩ := i1 h1
          refine ⟨j1, fun he => ?_⟩
          obtain ⟨k1, k2, k3, k4⟩ := j2 he
          exact ⟨by simpa [nar] using k1, ins_nar _ _ _ _ _ hs1 (by simp only; omega) (by simp only; omega) k2, k3, k4⟩
        · simp only [h1] at h ⊢
          have i2 := dec_no f r1.t (nar c (wid c.sp).1 ⟨ad (shr1 (ad s.lo s.hi)) 1, s.hi⟩) r1.st G2
          generalize dec f r1.t (nar c (wid c.sp).1 ⟨ad (shr1 (ad s.lo s.hi)) 1, s.hi⟩) r1.st = r2 at h i2 ⊢
          cases h2 : r2.ok
          · simp only [h2] at h ⊢
            obtain ⟨j1, j2⟩ := i2 h2
            refine ⟨j1, fun he => ?_⟩
            obtain ⟨k1, k2, k3, k4⟩ := j2 he
            exact ⟨by simpa [nar] using k1, ins_nar _ _ _ _ _ hs1 (by simp only; omega) (by simp only; omega) k2, k3, k4⟩
          · simp only [h2] at h
            cases h
end Go.Vm.P12
