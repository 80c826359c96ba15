/- A part of the proof that the law answers true for every input; the conditions are those of the card: the listed variable reads as the program lays it. -/
import Derived.Test.YtfhjkkjaaeohhaaDoorV4
import Derived.OpenShut
import Derived.WideShapes
set_option linter.unusedSimpArgs false
set_option linter.unusedVariables false
/- Chapter 12, functions: sums of lines, leaves. -/
set_option maxRecDepth 100000
namespace Go.Vm.P12
open Go Go.Vm
def ad (a b : Int) : Int := wrp .i64 (a + b)
def sb (a b : Int) : Int := wrp .i64 (a - b)
def ml (a b : Int) : Int := wrp .i64 (a * b)
theorem getA {α : Type} {A R : List α} {e : α} {i : Nat} (h : A.length = i) : (A ++ e :: R)[i]? = some e := by
  subst h; simp
theorem setA {α : Type} {A R : List α} {e v : α} {i : Nat} (h : A.length = i) : (A ++ e :: R).set i v = A ++ v :: R := by
  subst h; simp
theorem repic (k : Nat) : List.replicate k [D.int .i64 0] = (List.replicate k (0 : Int)).map ic := by
  induction k with
  | zero => rfl
  | succ k ih => rw [List.replicate_succ, List.replicate_succ, ih]; rfl
theorem take_self {α : Type} {l : List α} {k : Nat} (h : l.length = k) : l.take k = l := by subst h; exact List.take_length
theorem ok102 (n k : Nat) (h : k < 1000000000) : callP (level E (n+1)) 102 [.int .i64 k] = some (.agg [slD false 1 ((List.replicate k (0 : Int)).map ic), .int .i64 0]) := by
  have h1 : ((8 : Nat) : Int) * (k : Int) ≤ 70368744177664 := by omega
  have h2 : (k : Int) ≤ 70368744177664 := by omega
  rw [p102]
  simp only [go_sem, Nat.reduceAdd, Nat.reduceSub, Nat.reduceMul, Nat.reduceDiv, Nat.reduceMod, Nat.reduceLeDiff, Nat.reduceBEq, Int.reduceToNat, Int.reduceLT, Int.reduceLE, Int.reduceEq, h1, h2, Int.natCast_nonneg, slD_f, repic, List.length_replicate]
theorem ok53 (n k : Nat) (h : k < 1000000000) : callP (level E (n+1)) 53 [.int .i64 k] = some (.agg [slD false 1 ((List.replicate k (0 : Int)).map ic), .int .i64 0]) := by
  have h1 : ((8 : Nat) : Int) * (k : Int) ≤ 70368744177664 := by omega
  have h2 : (k : Int) ≤ 70368744177664 := by omega
  rw [p53]
  simp only [go_sem, Nat.reduceAdd, Nat.reduceSub, Nat.reduceMul, Nat.reduceDiv, Nat.reduceMod, Nat.reduceLeDiff, Nat.reduceBEq, Int.reduceToNat, Int.reduceLT, Int.reduceLE, Int.reduceEq, h1, h2, Int.natCast_nonneg, slD_f, repic, List.length_replicate]
def pls (f : Int) (x o : Ln) : Ln := { nl := x.nl, co := List.zipWith (fun a b => ad a (ml f b)) x.co o.co, c := ad x.c (ml f o.c) }
theorem l103 {lo : Lower} {on : Bool} {oc : List Int} {f c d : Int} {N : Nat} (hN : N < 1000000000) : ∀ (r q A : List Int) (i : Nat), A.length = i → i + r.length = N → oc.drop i = q → r.length = q.length →
    outC ⟨0, false⟩ [0, 0, 0, 1, 0, 0, 1, 0, 0, 0, 0] (rnd (aCode lo ⟨0, false⟩ b103_0) (head ⟨0, false⟩ [0, 0, 1, 1, 0, 1, 1, 0, 1, 1, 0])
      ⟨[.junk, .junk, .imm (.int .i64 f), .ptr 0 0, .junk, .ptr 1 0, .ptr 2 0, .junk, .imm (.int .i64 N), .imm (.int .i64 i), .junk],
        [.box [.imm .nil, .imm (.int .i64 0)], .box [.imm (slD on 1 (oc.map ic)), .imm (.int .i64 d)], .box [.ref 3 1 0 N, .imm (.int .i64 c)], .arr 1 (A.map ic ++ r.map ic)], none⟩) =
      some (.exit 0, ⟨[.junk, .junk, .junk, .ptr 0 0, .junk, .junk, .ptr 1 0, .junk, .junk, .junk, .junk], [.box [.imm .nil, .imm (.int .i64 0)], .box [.ref 2 1 0 N, .imm (.int .i64 c)], .arr 1 (A.map ic ++ (List.zipWith (fun a b => ad a (ml f b)) r q).map ic)], none⟩)
  | [], q, A, i, hA, hi, hq, hl => by
    have : q = [] := by cases q <;> simp at hl ⊢
    subst this
    rw [rnd_eq]
    simp only [go_sem, Nat.reduceAdd, Nat.reduceSub, Nat.reduceMul, Nat.reduceDiv, Nat.reduceMod, Nat.reduceLeDiff, Nat.reduceBEq, Int.reduceToNat, Int.reduceLT, Int.reduceLE, Int.reduceEq, lt_f (show N ≤ i by simp at hi; omega), List.zipWith]
  | x :: r, [], A, i, hA, hi, hq, hl => by simp at hl
  | x :: r, y :: q, A, i, hA, hi, hq, hl => by
    obtain ⟨h1, h2, h3⟩ := drop_c hq
    have hlt : i < N := by simp at hi; omega
    have hlt' : (i : Int) < (N : Int) := by omega
    have IH := l103 (lo := lo) (on := on) (oc := oc) (f := f) (c := c) (d := d) hN r q (A ++ [ad x (ml f y)]) (i + 1) (by simp [hA]) (by simp at hi; omega) h3 (by simpa using hl)
    have h6 := wrpS (i := i) (by omega)
    have hA' : (A.map ic).length = i := by simpa using hA
    rw [rnd_eq]
    simp only [go_sem, Nat.reduceAdd, Nat.reduceSub, Nat.reduceMul, Nat.reduceDiv, Nat.reduceMod, Nat.reduceLeDiff, Nat.reduceBEq, Int.reduceToNat, Int.reduceLT, Int.reduceLE, Int.reduceEq, List.append_assoc] at IH
    simp only [go_sem, Nat.reduceAdd, Nat.reduceSub, Nat.reduceMul, Nat.reduceDiv, Nat.reduceMod, Nat.reduceLeDiff, Nat.reduceBEq, Int.reduceToNat, Int.reduceLT, Int.reduceLE, Int.reduceEq, lt_t hlt, h1, hlt', Int.natCast_nonneg, Nat.mul_one, Nat.div_one, Nat.mod_one, getA hA', setA hA', h6, List.zipWith]
    exact IH
def plV (x : Ln) : AV := match x.co, x.nl with
  | [], true => .imm (.agg [.nil, .int .i64 x.c])
  | [], false => .agg [.e0 1, .imm (.int .i64 x.c)]
  | _, _ => .agg [.ref 0 1 0 x.co.length, .imm (.int .i64 x.c)]
def plO (x : Ln) : List AO := match x.co with | [] => [] | _ => [.arr 1 (x.co.map ic)]
theorem ok103 (n : Nat) (x o : Ln) (f : Int) (h : x.co.length = o.co.length) (hx : x.co.length < 1000000000) : callI (level E (n+2)) 103 [.agg (enL x), .agg (enL o), .int .i64 f] = some (plV (pls f x o), plO (pls f x o)) := by
  obtain ⟨xn, xc, xd⟩ := x
  obtain ⟨on, oc, od⟩ := o
  simp only at h hx
  have h104 := ok104 n xn (xc.map ic) (by simpa using hx)
  rw [i103]
  cases xc with
  | nil =>
    have : oc = [] := by cases oc <;> simp at h ⊢
    subst this
    simp only [go_sem, Nat.reduceAdd, Nat.reduceSub, Nat.reduceMul, Nat.reduceDiv, Nat.reduceMod, Nat.reduceLeDiff, Nat.reduceBEq, Int.reduceToNat, Int.reduceLT, Int.reduceLE, Int.reduceEq] at h104
    cases xn <;> simp only [go_sem, Nat.reduceAdd, Nat.reduceSub, Nat.reduceMul, Nat.reduceDiv, Nat.reduceMod, Nat.reduceLeDiff, Nat.reduceBEq, Int.reduceToNat, Int.reduceLT, Int.reduceLE, Int.reduceEq, slD_nil, slD_f] at h104 <;> simp only [go_sem, Nat.reduceAdd, Nat.reduceSub, Nat.reduceMul, Nat.reduceDiv, Nat.reduceMod, Nat.reduceLeDiff, Nat.reduceBEq, Int.reduceToNat, Int.reduceLT, Int.reduceLE, Int.reduceEq, slD_nil, slD_f, h104, clV, clO, plV, plO, pls, List.zipWith, ad, ml, rnd_eq, Int.lt_irrefl]
  | cons y xc =>
    obtain ⟨N, hN⟩ : ∃ N, N = (y :: xc).length := ⟨_, rfl⟩
    have hl := l103 (lo := level E (n+1)) (on := on) (oc := oc) (f := f) (c := ad xd (ml f od)) (d := od) (N := N) (by omega) (y :: xc) oc [] 0 rfl (by simp [hN]) rfl h
    have hN' : xc.length + 1 = N := by simp [hN]
    have hz : (List.zipWith (fun a b => ad a (ml f b)) (y :: xc) oc).length = N := by rw [List.length_zipWith, ← h]; simp [hN]
    generalize hzz : List.zipWith (fun a b => ad a (ml f b)) (y :: xc) oc = z at hl hz
    have hr : (plV (pls f ⟨xn, y :: xc, xd⟩ ⟨on, oc, od⟩), plO (pls f ⟨xn, y :: xc, xd⟩ ⟨on, oc, od⟩)) = (AV.agg [.ref 0 1 0 N, .imm (.int .i64 (ad xd (ml f od)))], [AO.arr 1 (z.map ic)]) := by
      cases z with
      | nil => simp at hz; omega
      | cons a z => simp only [plV, plO, pls, hzz, hz]
    rw [hr]
    simp only [go_sem, Nat.reduceAdd, Nat.reduceSub, Nat.reduceMul, Nat.reduceDiv, Nat.reduceMod, Nat.reduceLeDiff, Nat.reduceBEq, Int.reduceToNat, Int.reduceLT, Int.reduceLE, Int.reduceEq, slD_cons] at h104
    simp only [go_sem, Nat.reduceAdd, Nat.reduceSub, Nat.reduceMul, Nat.reduceDiv, Nat.reduceMod, Nat.reduceLeDiff, Nat.reduceBEq, Int.reduceToNat, Int.reduceLT, Int.reduceLE, Int.reduceEq, ad, ml] at hl
    simp only [go_sem, Nat.reduceAdd, Nat.reduceSub, Nat.reduceMul, Nat.reduceDiv, Nat.reduceMod, Nat.reduceLeDiff, Nat.reduceBEq, Int.reduceToNat, Int.reduceLT, Int.reduceLE, Int.reduceEq, slD_cons, h104, clV, clO, hN', ad, ml]
    rw [hl]
    simp only [go_sem, Nat.reduceAdd, Nat.reduceSub, Nat.reduceMul, Nat.reduceDiv, Nat.reduceMod, Nat.reduceLeDiff, Nat.reduceBEq, Int.reduceToNat, Int.reduceLT, Int.reduceLE, Int.reduceEq]
theorem ok103_0 (n : Nat) (b : Bool) (c d : Int) (f : Int) : callI (level E (n+2)) 103 [.agg [.sl 1 [], .int .i64 c], .agg [slD b 1 [], .int .i64 d], .int .i64 f] = some (.agg [.e0 1, .imm (.int .i64 (ad c (ml f d)))], []) :=
  ok103 n ⟨false, [], c⟩ ⟨b, [], d⟩ f rfl (by simp)
theorem ok103_1 (n N : Nat) (xc : List Int) (c : Int) (o : Ln) (f : Int) (h1 : xc.length = N) (h2 : o.co.length = N) (h3 : 0 < N) (h4 : N < 1000000000) : callI (level E (n+2)) 103 [.agg [.sl 1 (xc.map ic), .int .i64 c], .agg (enL o), .int .i64 f] =
    some (.agg [.ref 0 1 0 N, .imm (.int .i64 (ad c (ml f o.c)))], [.arr 1 ((List.zipWith (fun a b => ad a (ml f b)) xc o.co).map ic)]) := by
  have h := ok103 n ⟨false, xc, c⟩ o f (by rw [h1, h2]) (by rw [h1]; exact h4)
  have hz : (List.zipWith (fun a b => ad a (ml f b)) xc o.co).length = N := by rw [List.length_zipWith, h1, h2]; simp
  rw [show [D.agg [.sl 1 (xc.map ic), .int .i64 c], .agg (enL o), .int .i64 f] = [.agg (enL ⟨false, xc, c⟩), .agg (enL o), .int .i64 f] from rfl, h]
  cases hzz : List.zipWith (fun a b => ad a (ml f b)) xc o.co with
  | nil => rw [hzz] at hz; simp at hz; omega
  | cons a z => rw [hzz] at hz; simp only [plV, plO, pls, hzz, hz]
theorem flic : ∀ l : List Int, flatDLL (l.map ic) = true
  | [] => by simp [flatDLL]
  | x :: l => by simp [flatDLL, flatDL, flatD, ic, flic l]
theorem fdl_c {e : List D} {es : List (List D)} : flatDLL (e :: es) = (flatDL e && flatDLL es) := by simp [flatDLL]
attribute [go_sem] flic fO_arr fdl_c
structure Stp where
  leaf : Bool
  goal : Int
  gn : Bool
  gv : List Int
  ln : Bool
  lw : List Int
  hn : Bool
  hg : List Int
  va : Int
  bo : Int
  k0 : Int
  k1 : Int
def enT (s : Stp) : List D := [.bool s.leaf, .int .i64 s.goal, slD s.gn 1 (s.gv.map ic), slD s.ln 1 (s.lw.map ic), slD s.hn 1 (s.hg.map ic), .int .i64 s.va, .int .i64 s.bo, .int .i64 s.k0, .int .i64 s.k1]
attribute [go_sem] enT
def ng (a : Int) : Int := wrp .i64 (0 - a)
def lft : Ln → List Ln → List Int → Ln
  | x, g :: gs, k :: ks => lft (pls (ng k) x g) gs ks
  | x, _, _ => x
theorem l99_0 {n : Nat} {gn : Bool} {gv : List Ln} {ks : List Int} {y : Stp} (hg : gv.length < 1000000000) (hco : ∀ g ∈ gv, g.co = []) (hy : y.gv = ks) : ∀ (r : List Ln) (q : List Int) (c : Int) (i : Nat), gv.drop i = r → ks.drop i = q → r.length ≤ q.length →
    outC ⟨0, false⟩ [0, 0, 1, 0, 0, 1, 0, 0, 0, 0, 0, 0] (rnd (aCode (level E (n+2)) ⟨0, false⟩ b99_0) (head ⟨0, false⟩ [0, 0, 1, 1, 0, 1, 0, 0, 1, 1, 1, 0])
      ⟨[.junk, .junk, .ptr 0 0, .ptr 1 0, .junk, .ptr 2 0, .junk, .junk, .imm (slD gn 2 (gv.map enL)), .imm (.int .i64 gv.length), .imm (.int .i64 i), .junk],
        [.box [.imm .nil, .imm (.int .i64 0)], .box ((enT y).map .imm), .box [.e0 1, .imm (.int .i64 c)]], none⟩) =
      some (.exit 0, ⟨[.junk, .junk, .ptr 0 0, .junk, .junk, .ptr 1 0, .junk, .junk, .junk, .junk, .junk, .junk], [.box [.imm .nil, .imm (.int .i64 0)], .box [.e0 1, .imm (.int .i64 (lft ⟨false, [], c⟩ r q).c)]], none⟩)
  | [], q, c, i, hr, hq, hl => by
    rw [rnd_eq]
    simp only [go_sem, Nat.reduceAdd, Nat.reduceSub, Nat.reduceMul, Nat.reduceDiv, Nat.reduceMod, Nat.reduceLeDiff, Nat.reduceBEq, Int.reduceToNat, Int.reduceLT, Int.reduceLE, Int.reduceEq, lt_f (drop_n hr), lft]
  | g :: r, [], c, i, hr, hq, hl => by simp at hl
  | g :: r, k :: q, c, i, hr, hq, hl => by
    obtain ⟨h1, h2, h3⟩ := drop_c hr
    obtain ⟨q1, q2, q3⟩ := drop_c hq
    have e0 := hco g (List.mem_of_getElem? h1)
    have IH := l99_0 (n := n) (gn := gn) (y := y) hg hco hy r q (ad c (ml (ng k) g.c)) (i + 1) h3 q3 (by simpa using hl)
    have h6 := wrpS (i := i) (by omega)
    rw [rnd_eq]
    subst hy
    have e1 : lft ⟨false, [], c⟩ (g :: r) (k :: q) = lft ⟨false, [], ad c (ml (ng k) g.c)⟩ r q := by simp [lft, pls, e0]
    rw [e1]
    simp only [go_sem, Nat.reduceAdd, Nat.reduceSub, Nat.reduceMul, Nat.reduceDiv, Nat.reduceMod, Nat.reduceLeDiff, Nat.reduceBEq, Int.reduceToNat, Int.reduceLT, Int.reduceLE, Int.reduceEq] at IH
    simp only [go_sem, Nat.reduceAdd, Nat.reduceSub, Nat.reduceMul, Nat.reduceDiv, Nat.reduceMod, Nat.reduceLeDiff, Nat.reduceBEq, Int.reduceToNat, Int.reduceLT, Int.reduceLE, Int.reduceEq, lt_t h2, h1, q1, e0, ok103_0, h6]
    exact IH
theorem l99_1 {n N : Nat} {gn : Bool} {gv : List Ln} {ks : List Int} {y : Stp} (h0 : 0 < N) (hN : N < 1000000000) (hg : gv.length < 1000000000) (hco : ∀ g ∈ gv, g.co.length = N) (hy : y.gv = ks) : ∀ (r : List Ln) (q : List Int) (x : List Int) (c : Int) (i : Nat), gv.drop i = r → ks.drop i = q → r.length ≤ q.length → x.length = N →
    outC ⟨0, false⟩ [0, 0, 1, 0, 0, 1, 0, 0, 0, 0, 0, 0] (rnd (aCode (level E (n+2)) ⟨0, false⟩ b99_0) (head ⟨0, false⟩ [0, 0, 1, 1, 0, 1, 0, 0, 1, 1, 1, 0])
      ⟨[.junk, .junk, .ptr 0 0, .ptr 1 0, .junk, .ptr 2 0, .junk, .junk, .imm (slD gn 2 (gv.map enL)), .imm (.int .i64 gv.length), .imm (.int .i64 i), .junk],
        [.box [.imm .nil, .imm (.int .i64 0)], .box ((enT y).map .imm), .box [.ref 3 1 0 N, .imm (.int .i64 c)], .arr 1 (x.map ic)], none⟩) =
      some (.exit 0, ⟨[.junk, .junk, .ptr 0 0, .junk, .junk, .ptr 1 0, .junk, .junk, .junk, .junk, .junk, .junk], [.box [.imm .nil, .imm (.int .i64 0)], .box [.ref 2 1 0 N, .imm (.int .i64 (lft ⟨false, x, c⟩ r q).c)], .arr 1 ((lft ⟨false, x, c⟩ r q).co.map ic)], none⟩)
  | [], q, x, c, i, hr, hq, hl, hx => by
    rw [rnd_eq]
    simp only [go_sem, Nat.reduceAdd, Nat.reduceSub, Nat.reduceMul, Nat.reduceDiv, Nat.reduceMod, Nat.reduceLeDiff, Nat.reduceBEq, Int.reduceToNat, Int.reduceLT, Int.reduceLE, Int.reduceEq, lt_f (drop_n hr), lft]
  | g :: r, [], x, c, i, hr, hq, hl, hx => by simp at hl
  | g :: r, k :: q, x, c, i, hr, hq, hl, hx => by
    obtain ⟨h1, h2, h3⟩ := drop_c hr
    obtain ⟨q1, q2, q3⟩ := drop_c hq
    have e0 := hco g (List.mem_of_getElem? h1)
    have h103 := ok103_1 n N x c g (ng k) hx e0 h0 hN
    have hz : (List.zipWith (fun a b => ad a (ml (ng k) b)) x g.co).length = N := by rw [List.length_zipWith, hx, e0]; simp
    have IH := l99_1 (n := n) (gn := gn) (y := y) h0 hN hg hco hy r q (List.zipWith (fun a b => ad a (ml (ng k) b)) x g.co) (ad c (ml (ng k) g.c)) (i + 1) h3 q3 (by simpa using hl) hz
    have h6 := wrpS (i := i) (by omega)
    have hx' : N ≤ x.length := by omega
    have hx2 : (x.map ic).take N = x.map ic := take_self (by simpa using hx)
    rw [rnd_eq]
    subst hy
    have e1 : lft ⟨false, x, c⟩ (g :: r) (k :: q) = lft ⟨false, List.zipWith (fun a b => ad a (ml (ng k) b)) x g.co, ad c (ml (ng k) g.c)⟩ r q := by simp [lft, pls]
    rw [e1]
    simp only [go_sem, Nat.reduceAdd, Nat.reduceSub, Nat.reduceMul, Nat.reduceDiv, Nat.reduceMod, Nat.reduceLeDiff, Nat.reduceBEq, Int.reduceToNat, Int.reduceLT, Int.reduceLE, Int.reduceEq, ng] at IH h103
    simp only [go_sem, Nat.reduceAdd, Nat.reduceSub, Nat.reduceMul, Nat.reduceDiv, Nat.reduceMod, Nat.reduceLeDiff, Nat.reduceBEq, Int.reduceToNat, Int.reduceLT, Int.reduceLE, Int.reduceEq, lt_t h2, h1, q1, hx', hx2, h103, h6]
    exact IH
theorem lft_len {N : Nat} : ∀ (gs : List Ln) (ks : List Int) (x : Ln), x.co.length = N → (∀ g ∈ gs, g.co.length = N) → (lft x gs ks).co.length = N
  | [], ks, x, hx, _ => by cases ks <;> simpa [lft] using hx
  | g :: gs, [], x, hx, _ => by simpa [lft] using hx
  | g :: gs, k :: ks, x, hx, hg => by
    simp only [lft]
    refine lft_len gs ks _ ?_ fun a ha => hg a (by simp [ha])
    simp only [pls, List.length_zipWith, hx, hg g (by simp)]; simp
def left (y : Stp) (c : Cl) : Ln := lft (pls y.goal ⟨false, List.replicate c.sp.length 0, 0⟩ c.go) c.gv y.gv
structure Cl.Even (c : Cl) : Prop where
  fit : c.Fit
  gv : ∀ g ∈ c.gv, g.co.length = c.sp.length
  go : c.go.co.length = c.sp.length
theorem run99 (n : Nat) (y : Stp) (c : Cl) (hc : c.Even) (hy : c.gv.length ≤ y.gv.length) :
    fin [.cell 2 true 2] (aCode (level E (n+3)) ⟨0, false⟩ c99 ⟨[.imm (.agg (enT y)), .imm (.agg (enC c)), .junk, .junk, .junk, .junk, .junk, .junk, .junk, .junk, .junk, .junk], [], none⟩) =
      (if c.sp.length = 0 then some (.agg [.e0 1, .imm (.int .i64 (left y c).c)], [.box [.e0 1, .imm (.int .i64 (left y c).c)], .box [.e0 1, .imm (.int .i64 (left y c).c)]], none)
       else some (.agg [.ref 2 1 0 c.sp.length, .imm (.int .i64 (left y c).c)], [.box [.ref 2 1 0 c.sp.length, .imm (.int .i64 (left y c).c)], .box [.ref 2 1 0 c.sp.length, .imm (.int .i64 (left y c).c)], .arr 1 ((left y c).co.map ic)], none)) := by
  obtain ⟨sn, sp, gn, gv, go⟩ := c
  obtain ⟨hf, hg, ho⟩ := hc
  simp only at hg ho hy
  by_cases h0 : sp.length = 0
  · have e1 : go.co = [] := by cases h : go.co <;> simp [h] at ho ⊢; omega
    have e2 : ∀ g ∈ gv, g.co = [] := fun g hgm => by have := hg g hgm; rw [h0] at this; exact List.eq_nil_of_length_eq_zero this
    have h102 := ok102 (n+2) 0 (by omega)
    have hl := l99_0 (n := n+1) (gn := gn) (gv := gv) (y := y) (by have := hf.gv; simp at this; omega) e2 rfl gv y.gv (ad 0 (ml y.goal go.c)) 0 rfl rfl hy
    have e3 : sp = [] := List.eq_nil_of_length_eq_zero h0
    subst e3
    have e4 : left y ⟨sn, [], gn, gv, go⟩ = lft ⟨false, [], ad 0 (ml y.goal go.c)⟩ gv y.gv := by simp [left, pls, e1]
    rw [e4]
    simp only [go_sem, Nat.reduceAdd, Nat.reduceSub, Nat.reduceMul, Nat.reduceDiv, Nat.reduceMod, Nat.reduceLeDiff, Nat.reduceBEq, Int.reduceToNat, Int.reduceLT, Int.reduceLE, Int.reduceEq, slD_f, List.replicate] at h102
    simp only [go_sem, Nat.reduceAdd, Nat.reduceSub, Nat.reduceMul, Nat.reduceDiv, Nat.reduceMod, Nat.reduceLeDiff, Nat.reduceBEq, Int.reduceToNat, Int.reduceLT, Int.reduceLE, Int.reduceEq] at hl
    simp only [go_sem, Nat.reduceAdd, Nat.reduceSub, Nat.reduceMul, Nat.reduceDiv, Nat.reduceMod, Nat.reduceLeDiff, Nat.reduceBEq, Int.reduceToNat, Int.reduceLT, Int.reduceLE, Int.reduceEq, h102, e1, ok103_0, hl]
  · obtain ⟨N, hN⟩ : ∃ N, N = sp.length := ⟨_, rfl⟩
    have hb := hf.sp
    simp only at hb
    have h102 := ok102 (n+2) N (by omega)
    have h103 := ok103_1 (n+1) N (List.replicate N 0) 0 go y.goal (by simp) (by rw [ho, hN]) (by omega) (by omega)
    have hz : (List.zipWith (fun a b => ad a (ml y.goal b)) (List.replicate N 0) go.co).length = N := by rw [List.length_zipWith, ho]; simp [hN]
    have hl := l99_1 (n := n+1) (N := N) (gn := gn) (gv := gv) (y := y) (by omega) (by omega) (by have := hf.gv; simp at this; omega) (fun g hgm => by rw [hg g hgm, hN]) rfl gv y.gv (List.zipWith (fun a b => ad a (ml y.goal b)) (List.replicate N 0) go.co) (ad 0 (ml y.goal go.c)) 0 rfl rfl hy hz
    have e4 : left y ⟨sn, sp, gn, gv, go⟩ = lft ⟨false, List.zipWith (fun a b => ad a (ml y.goal b)) (List.replicate N 0) go.co, ad 0 (ml y.goal go.c)⟩ gv y.gv := by simp [left, pls, hN]
    have hll : (lft ⟨false, List.zipWith (fun a b => ad a (ml y.goal b)) (List.replicate N 0) go.co, ad 0 (ml y.goal go.c)⟩ gv y.gv).co.length = N := lft_len gv y.gv _ hz fun g hgm => by rw [hg g hgm, hN]
    rw [e4]
    rw [← hN] at h0
    simp only [go_sem, Nat.reduceAdd, Nat.reduceSub, Nat.reduceMul, Nat.reduceDiv, Nat.reduceMod, Nat.reduceLeDiff, Nat.reduceBEq, Int.reduceToNat, Int.reduceLT, Int.reduceLE, Int.reduceEq, slD_f] at h102
    simp only [go_sem, Nat.reduceAdd, Nat.reduceSub, Nat.reduceMul, Nat.reduceDiv, Nat.reduceMod, Nat.reduceLeDiff, Nat.reduceBEq, Int.reduceToNat, Int.reduceLT, Int.reduceLE, Int.reduceEq] at hl h103
    simp only [go_sem, Nat.reduceAdd, Nat.reduceSub, Nat.reduceMul, Nat.reduceDiv, Nat.reduceMod, Nat.reduceLeDiff, Nat.reduceBEq, Int.reduceToNat, Int.reduceLT, Int.reduceLE, Int.reduceEq, ← hN, h102, h103, hl, h0]
theorem ok99P (n : Nat) (y : Stp) (c : Cl) (hc : c.Even) (hy : c.gv.length ≤ y.gv.length) : callP (level E (n+4)) 99 [.agg (enT y), .agg (enC c)] = some (.agg [slD false 1 ((left y c).co.map ic), .int .i64 (left y c).c]) := by
  rw [p99, run99 n y c hc hy]
  have hl : (left y c).co.length = c.sp.length := lft_len c.gv y.gv _ (by simp [pls, hc.go]) hc.gv
  by_cases h0 : c.sp.length = 0
  · have e : (left y c).co = [] := List.eq_nil_of_length_eq_zero (by omega)
    simp only [go_sem, Nat.reduceAdd, Nat.reduceSub, Nat.reduceMul, Nat.reduceDiv, Nat.reduceMod, Nat.reduceLeDiff, Nat.reduceBEq, Int.reduceToNat, Int.reduceLT, Int.reduceLE, Int.reduceEq, h0, e, slD_f]
  · rw [if_neg h0]
    have e : ((left y c).co.map ic).take c.sp.length = (left y c).co.map ic := take_self (by simpa using hl)
    have e2 : c.sp.length ≤ (left y c).co.length := by omega
    simp only [go_sem, Nat.reduceAdd, Nat.reduceSub, Nat.reduceMul, Nat.reduceDiv, Nat.reduceMod, Nat.reduceLeDiff, Nat.reduceBEq, Int.reduceToNat, Int.reduceLT, Int.reduceLE, Int.reduceEq, e, e2, slD_f]
theorem ok99I_0 (n : Nat) (y : Stp) (c : Cl) (hc : c.Even) (hy : c.gv.length ≤ y.gv.length) (h0 : c.sp.length = 0) : callI (level E (n+4)) 99 [.agg (enT y), .agg (enC c)] = some (.agg [.e0 1, .imm (.int .i64 (left y c).c)], []) := by
  rw [i99, run99 n y c hc hy, if_pos h0]
  simp only [go_sem, Nat.reduceAdd, Nat.reduceSub, Nat.reduceMul, Nat.reduceDiv, Nat.reduceMod, Nat.reduceLeDiff, Nat.reduceBEq, Int.reduceToNat, Int.reduceLT, Int.reduceLE, Int.reduceEq]
theorem ok99I_1 (n : Nat) (y : Stp) (c : Cl) (hc : c.Even) (hy : c.gv.length ≤ y.gv.length) (h0 : ¬ c.sp.length = 0) : callI (level E (n+4)) 99 [.agg (enT y), .agg (enC c)] = some (.agg [.ref 0 1 0 c.sp.length, .imm (.int .i64 (left y c).c)], [.arr 1 ((left y c).co.map ic)]) := by
  rw [i99, run99 n y c hc hy, if_neg h0]
  simp only [go_sem, Nat.reduceAdd, Nat.reduceSub, Nat.reduceMul, Nat.reduceDiv, Nat.reduceMod, Nat.reduceLeDiff, Nat.reduceBEq, Int.reduceToNat, Int.reduceLT, Int.reduceLE, Int.reduceEq]
end Go.Vm.P12

/- Chapter 12: what the laws' arguments hold: proofs, points. -/
set_option maxRecDepth 100000
namespace Go.Vm.P12
open Go Go.Vm Go.Proofs Go.ChangeShapes
section
variable {H : Type} {enc : TypeId × Value → H} {W : World} {sp : Nat → Bool} {held : Bool}
theorem cells4 : Tryd.prog.cellsOf 4 = 1 := by kernel_rfl
theorem cells31 : Tryd.prog.cellsOf 31 = 2 := by kernel_rfl
theorem cells44 : Tryd.prog.cellsOf 44 = 9 := by kernel_rfl
theorem cells55 : Tryd.prog.cellsOf 55 = 1 := by kernel_rfl
theorem cells57 : Tryd.prog.cellsOf 57 = 1 := by kernel_rfl
theorem cs9_of {cs : List Value} (h : cs.length = 9) : ∃ a0 a1 a2 a3 a4 a5 a6 a7 a8, cs = [a0, a1, a2, a3, a4, a5, a6, a7, a8] := by
  match cs, h with
  | [a0, a1, a2, a3, a4, a5, a6, a7, a8], _ => exact ⟨a0, a1, a2, a3, a4, a5, a6, a7, a8, rfl⟩
theorem cs1_of {cs : List Value} (h : cs.length = 1) : ∃ a, cs = [a] := by
  match cs, h with
  | [a], _ => exact ⟨a, rfl⟩
theorem rd_kids {n : Nat} {cs : List Value} {x : DataW H × List MemPlace} (h : DataW.trod enc Tryd.prog W 0 sp held n 31 cs = some x) : ∃ p q : Int, Holds W [.int .i64 p, .int .i64 q] cs := by
  obtain ⟨xs, n', _, _, hl, hn, hf⟩ := DataW.trod_array Tryd.underlying31 h
  rw [cells31] at hl
  obtain ⟨a, b, rfl⟩ := two_of hl
  have f0 := (hf 0 (by decide)).trans (List.getElem?_eq_getElem (show 0 < xs.length by rw [hn]; decide))
  have f1 := (hf 1 (by decide)).trans (List.getElem?_eq_getElem (show 1 < xs.length by rw [hn]; decide))
  simp only [cells3, Nat.zero_mul, Nat.one_mul, List.drop_zero, List.drop_succ_cons, List.take_succ_cons, List.take_zero, List.take_nil] at f0 f1
  obtain ⟨p, e1, _, _⟩ := DataW.trod_int Tryd.underlying3 f0
  obtain ⟨q, e2, _, _⟩ := DataW.trod_int Tryd.underlying3 f1
  simp only [List.cons.injEq, and_true] at e1 e2
  subst e1 e2
  exact ⟨p, q, holds_app (a := [.int .i64 p]) (x := [.int .i64 p]) (holds_one rfl (.int _ _)) (holds_one rfl (.int _ _))⟩
theorem rd_step {n : Nat} {cs : List Value} {x : DataW H × List MemPlace} (h : DataW.trod enc Tryd.prog W 0 sp held n 44 cs = some x) : ∃ a : Stp, (enT a).length = 9 ∧ Holds W (enT a) cs := by
  obtain ⟨xs, n', _, _, hl, hn, hf⟩ := DataW.trod_struct Tryd.underlying44 h
  rw [cells44] at hl
  obtain ⟨a0, a1, a2, a3, a4, a5, a6, a7, a8, rfl⟩ := cs9_of hl
  have f0 := (hf 0 _ rfl).trans (List.getElem?_eq_getElem (show 0 < xs.length by rw [hn]; decide))
  have f1 := (hf 1 _ rfl).trans (List.getElem?_eq_getElem (show 1 < xs.length by rw [hn]; decide))
  have f2 := (hf 2 _ rfl).trans (List.getElem?_eq_getElem (show 2 < xs.length by rw [hn]; decide))
  have f3 := (hf 3 _ rfl).trans (List.getElem?_eq_getElem (show 3 < xs.length by rw [hn]; decide))
  have f4 := (hf 4 _ rfl).trans (List.getElem?_eq_getElem (show 4 < xs.length by rw [hn]; decide))
  have f5 := (hf 5 _ rfl).trans (List.getElem?_eq_getElem (show 5 < xs.length by rw [hn]; decide))
  have f6 := (hf 6 _ rfl).trans (List.getElem?_eq_getElem (show 6 < xs.length by rw [hn]; decide))
  have f7 := (hf 7 _ rfl).trans (List.getElem?_eq_getElem (show 7 < xs.length by rw [hn]; decide))
  simp only [List.getElem_toArray, List.getElem_cons_zero, List.getElem_cons_succ, cells3, cells4, cells24, cells31, List.drop_zero, List.drop_succ_cons, List.take_succ_cons, List.take_zero, List.take_nil] at f0 f1 f2 f3 f4 f5 f6 f7
  obtain ⟨p0, e0, _⟩ := DataW.trod_bool Tryd.underlying4 f0
  obtain ⟨p1, e1, _, _⟩ := DataW.trod_int Tryd.underlying3 f1
  obtain ⟨b2, l2, h2⟩ := rd_ints f2
  obtain ⟨b3, l3, h3⟩ := rd_ints f3
  obtain ⟨b4, l4, h4⟩ := rd_ints f4
  obtain ⟨p5, e5, _, _⟩ := DataW.trod_int Tryd.underlying3 f5
  obtain ⟨p6, e6, _, _⟩ := DataW.trod_int Tryd.underlying3 f6
  obtain ⟨k0, k1, h7⟩ := rd_kids f7
  simp only [List.cons.injEq, and_true] at e0 e1 e5 e6
  subst e0 e1 e5 e6
  refine ⟨⟨p0, p1, b2, l2, b3, l3, b4, l4, p5, p6, k0, k1⟩, rfl, ?_⟩
  exact holds_app (a := [.bool p0]) (x := [.bool p0]) (holds_one rfl (.bool _))
    (holds_app (a := [.int .i64 p1]) (x := [.int .i64 p1]) (holds_one rfl (.int _ _))
    (holds_app (x := [a2]) h2 (holds_app (x := [a3]) h3 (holds_app (x := [a4]) h4
    (holds_app (a := [.int .i64 p5]) (x := [.int .i64 p5]) (holds_one rfl (.int _ _))
    (holds_app (a := [.int .i64 p6]) (x := [.int .i64 p6]) (holds_one rfl (.int _ _)) h7))))))
theorem rd_proof {n : Nat} {cs : List Value} {x : DataW H × List MemPlace} (h : DataW.trod enc Tryd.prog W 0 sp held n 57 cs = some x) : ∃ (b : Bool) (l : List Stp), Holds W [slD b 9 (l.map enT)] cs := by
  obtain ⟨xs, n', _, _, hl, hn, hf⟩ := DataW.trod_struct Tryd.underlying57 h
  rw [cells57] at hl
  obtain ⟨a, rfl⟩ := cs1_of hl
  have f0 := (hf 0 _ rfl).trans (List.getElem?_eq_getElem (show 0 < xs.length by rw [hn]; decide))
  simp only [List.getElem_toArray, List.getElem_cons_zero, cells55, List.drop_zero, List.take_succ_cons, List.take_zero] at f0
  exact rd_slice Tryd.underlying55 cells44 (by decide) (fun _ _ _ h => rd_step h) f0
theorem ds_agg {ds : List D} {vs : Array Value} (h : Holds W ds vs.toList) : RepD (Old W) W (.agg ds) (.agg vs) := by
  refine .agg _ _ h.1 fun j e hj => ?_
  obtain ⟨w, h1, _, h3⟩ := h.2 j e hj
  have : vs.getD j undef = w := by
    simp only [Array.getElem?_toList] at h1
    simp [Array.getD_eq_getD_getElem?, h1]
  rw [this]; exact h3
theorem arg_proof {r : Reach} {b0 : Nat} {v : Value} {d : DataW H} {p : List MemPlace} (hv : Value.okWide Tryd.prog W r b0 57 v) (h : DataW.Trod enc Tryd.prog W 0 sp held 57 v d p) : ∃ (b : Bool) (l : List Stp), RepD (Old W) W (.agg [slD b 9 (l.map enT)]) v := by
  obtain ⟨n, h⟩ := h
  obtain ⟨vs, rfl, _⟩ := WideShapes.okWide_struct Tryd.underlying57 hv
  obtain ⟨b, l, hc⟩ := rd_proof h
  exact ⟨b, l, ds_agg hc⟩
end
end Go.Vm.P12

/- Chapter 12, functions: whether a leaf proves a claim. -/
set_option maxRecDepth 100000
namespace Go.Vm.P12
open Go Go.Vm
def prX : List Int → List Int → List Int → List Int
  | x :: xs, l :: ls, h :: hs => ad x (sb h l) :: prX xs ls hs
  | _, _, _ => []
def prC : Int → List Int → List Int → List Sp → Int
  | c, l :: ls, h :: hs, s :: ss => prC (ad c (sb (ml l s.lo) (ml h s.hi))) ls hs ss
  | c, _, _, _ => c
theorem l83 {n N : Nat} {sn : Bool} {sp : List Sp} {y : Stp} (hN : sp.length = N) (hb : N < 1000000000) : ∀ (r : List Sp) (x lw hg A : List Int) (c : Int) (i : Nat), A.length = i → sp.drop i = r → x.length = r.length → y.lw.drop i = lw → y.hg.drop i = hg → lw.length = r.length → hg.length = r.length →
    outC ⟨0, false⟩ [0, 0, 0, 1, 0, 1, 0, 0, 0, 0, 0, 0] (rnd (aCode (level E n) ⟨0, false⟩ b83_0) (head ⟨0, false⟩ [0, 0, 0, 1, 0, 1, 0, 0, 1, 1, 1, 0])
      ⟨[.junk, .junk, .junk, .ptr 0 0, .junk, .ptr 1 0, .junk, .junk, .imm (slD sn 2 (sp.map enS)), .imm (.int .i64 N), .imm (.int .i64 i), .junk],
        [.box ((enT y).map .imm), .box [.ref 2 1 0 N, .imm (.int .i64 c)], .arr 1 (A.map ic ++ x.map ic)], none⟩) =
      some (.exit 0, ⟨[.junk, .junk, .junk, .ptr 0 0, .junk, .ptr 1 0, .junk, .junk, .junk, .junk, .junk, .junk], [.box ((enT y).map .imm), .box [.ref 2 1 0 N, .imm (.int .i64 (prC c lw hg r))], .arr 1 (A.map ic ++ (prX x lw hg).map ic)], none⟩)
  | [], x, lw, hg, A, c, i, hA, hs, hx, hlw, hhg, el, eh => by
    have : x = [] := List.eq_nil_of_length_eq_zero (by simpa using hx)
    subst this
    have e1 : lw = [] := List.eq_nil_of_length_eq_zero (by simpa using el)
    have hd := drop_n hs
    rw [rnd_eq]
    subst e1
    simp only [go_sem, Nat.reduceAdd, Nat.reduceSub, Nat.reduceMul, Nat.reduceDiv, Nat.reduceMod, Nat.reduceLeDiff, Nat.reduceBEq, Int.reduceToNat, Int.reduceLT, Int.reduceLE, Int.reduceEq, lt_f (show N ≤ i by omega), prC, prX]
  | s :: r, x, lw, hg, A, c, i, hA, hs, hx, hlw, hhg, el, eh => by
    obtain ⟨h1, h2, h3⟩ := drop_c hs
    have h6 := wrpS (i := i) (by omega)
    have hlt : i < N := by omega
    have hlt' : (i : Int) < (N : Int) := by omega
    have hA' : (A.map ic).length = i := by simpa using hA
    match x, lw, hg, hx, el, eh, hlw, hhg with
    | x0 :: x, l0 :: lw, g0 :: hg, hx, el, eh, hlw, hhg =>
      obtain ⟨l1, l2, l3⟩ := drop_c hlw
      obtain ⟨g1, g2, g3⟩ := drop_c hhg
      have IH := l83 (n := n) (sn := sn) (y := y) hN hb r x lw hg (A ++ [ad x0 (sb g0 l0)]) (ad c (sb (ml l0 s.lo) (ml g0 s.hi))) (i + 1) (by simp [hA]) h3 (by simpa using hx) l3 g3 (by simpa using el) (by simpa using eh)
      rw [rnd_eq]
      simp only [go_sem, Nat.reduceAdd, Nat.reduceSub, Nat.reduceMul, Nat.reduceDiv, Nat.reduceMod, Nat.reduceLeDiff, Nat.reduceBEq, Int.reduceToNat, Int.reduceLT, Int.reduceLE, Int.reduceEq, List.append_assoc, ad, sb, ml] at IH
      simp only [go_sem, Nat.reduceAdd, Nat.reduceSub, Nat.reduceMul, Nat.reduceDiv, Nat.reduceMod, Nat.reduceLeDiff, Nat.reduceBEq, Int.reduceToNat, Int.reduceLT, Int.reduceLE, Int.reduceEq, lt_t hlt, h1, l1, g1, hlt', Int.natCast_nonneg, Nat.mul_one, Nat.div_one, Nat.mod_one, getA hA', setA hA', h6, prC, prX, ad, sb, ml]
      exact IH
theorem prX_len : ∀ (x l h : List Int), x.length = l.length → x.length = h.length → (prX x l h).length = x.length
  | [], l, h, _, _ => by simp [prX]
  | x :: xs, l :: ls, h :: hs, e1, e2 => by simp [prX, prX_len xs ls hs (by simpa using e1) (by simpa using e2)]
  | x :: xs, [], h, e1, _ => by simp at e1
  | x :: xs, l :: ls, [], _, e2 => by simp at e2
def prv (y : Stp) (c : Cl) : Bool :=
  !(prX (left y c).co y.lw y.hg).any (fun n => decide (n ≠ 0)) && decide (ng y.goal < prC (left y c).c y.lw y.hg c.sp)
theorem ok83 (n : Nat) (y : Stp) (c : Cl) (hc : c.Even) (hy : c.gv.length ≤ y.gv.length) (hl : y.lw.length = c.sp.length) (hh : y.hg.length = c.sp.length) : callP (level E (n+5)) 83 [.agg (enT y), .agg (enC c)] = some (.bool (prv y c)) := by
  have hb := hc.fit.sp
  have hll : (left y c).co.length = c.sp.length := lft_len c.gv y.gv _ (by simp [pls, hc.go]) hc.gv
  rw [p83]
  by_cases h0 : c.sp.length = 0
  · have h99 := ok99I_0 n y c hc hy h0
    have e1 : y.lw = [] := List.eq_nil_of_length_eq_zero (by omega)
    have e2 : (left y c).co = [] := List.eq_nil_of_length_eq_zero (by omega)
    have e3 : c.sp = [] := List.eq_nil_of_length_eq_zero h0
    have h67 := ok67 (n+2) false [] 100 [] _ (fun x _ => ok100 (n+1) x) (by simp)
    simp only [go_sem, Nat.reduceAdd, Nat.reduceSub, Nat.reduceMul, Nat.reduceDiv, Nat.reduceMod, Nat.reduceLeDiff, Nat.reduceBEq, Int.reduceToNat, Int.reduceLT, Int.reduceLE, Int.reduceEq, slD_f] at h67
    simp only [go_sem, Nat.reduceAdd, Nat.reduceSub, Nat.reduceMul, Nat.reduceDiv, Nat.reduceMod, Nat.reduceLeDiff, Nat.reduceBEq, Int.reduceToNat, Int.reduceLT, Int.reduceLE, Int.reduceEq, e1, e3] at h99
    simp only [go_sem, Nat.reduceAdd, Nat.reduceSub, Nat.reduceMul, Nat.reduceDiv, Nat.reduceMod, Nat.reduceLeDiff, Nat.reduceBEq, Int.reduceToNat, Int.reduceLT, Int.reduceLE, Int.reduceEq, h99, e3, rnd_eq, Int.lt_irrefl, h67, List.any_nil, prv, e1, e2, prX, prC, ng]
  · obtain ⟨N, hN⟩ : ∃ N, N = c.sp.length := ⟨_, rfl⟩
    have h99 := ok99I_1 n y c hc hy h0
    have hz : (prX (left y c).co y.lw y.hg).length = N := by rw [prX_len _ _ _ (by omega) (by omega)]; omega
    have h67 := ok67 (n+2) false (prX (left y c).co y.lw y.hg) 100 [] _ (fun x _ => ok100 (n+1) x) (by omega)
    have hlp := l83 (n := n+4) (N := N) (sn := c.sn) (y := y) hN.symm (by omega) c.sp (left y c).co y.lw y.hg [] (left y c).c 0 rfl rfl hll rfl rfl hl hh
    have e : ((prX (left y c).co y.lw y.hg).map ic).take N = (prX (left y c).co y.lw y.hg).map ic := take_self (by simpa using hz)
    have e2 : N ≤ (prX (left y c).co y.lw y.hg).length := by omega
    rw [← hN] at h99
    simp only [go_sem, Nat.reduceAdd, Nat.reduceSub, Nat.reduceMul, Nat.reduceDiv, Nat.reduceMod, Nat.reduceLeDiff, Nat.reduceBEq, Int.reduceToNat, Int.reduceLT, Int.reduceLE, Int.reduceEq, slD_f] at h67 h99 hlp
    simp only [go_sem, Nat.reduceAdd, Nat.reduceSub, Nat.reduceMul, Nat.reduceDiv, Nat.reduceMod, Nat.reduceLeDiff, Nat.reduceBEq, Int.reduceToNat, Int.reduceLT, Int.reduceLE, Int.reduceEq, ← hN, h99, hlp, h67, e, e2, prv]
    cases h9 : (prX (left y c).co y.lw y.hg).any (fun n => decide (n ≠ 0))
    · simp only [go_sem, Nat.reduceAdd, Nat.reduceSub, Nat.reduceMul, Nat.reduceDiv, Nat.reduceMod, Nat.reduceLeDiff, Nat.reduceBEq, Int.reduceToNat, Int.reduceLT, Int.reduceLE, Int.reduceEq, h9, ng]; rfl
    · simp only [go_sem, Nat.reduceAdd, Nat.reduceSub, Nat.reduceMul, Nat.reduceDiv, Nat.reduceMod, Nat.reduceLeDiff, Nat.reduceBEq, Int.reduceToNat, Int.reduceLT, Int.reduceLE, Int.reduceEq, h9, ng]
end Go.Vm.P12

/- Chapter 12, functions: the leaves that are tried. -/
set_option maxRecDepth 100000
namespace Go.Vm.P12
open Go Go.Vm
def leafOf (c : Cl) (goal : Int) (g : List Int) : Stp :=
  let l := left ⟨true, goal, false, g, true, [], true, [], 0, 0, 0, 0⟩ c
  ⟨true, goal, false, g, true, l.co.map (fun n => max n 0), true, l.co.map (fun n => max (ng n) 0), 0, 0, 0, 0⟩
theorem ok122 (n : Nat) (c : Cl) (hc : c.Even) (goal : Int) (ln m : Int) (g : List Int) (hg : (ln = -1 ∧ g = List.replicate c.gv.length 0) ∨ ∃ k : Nat, ln = k ∧ k < c.gv.length ∧ g = (List.replicate c.gv.length 0).set k m) :
    callP (level E (n+5)) 122 [.agg (enC c), .int .i64 goal, .int .i64 ln, .int .i64 m] = some (.agg (enT (leafOf c goal g))) := by
  obtain ⟨N, hN⟩ : ∃ N, N = c.gv.length := ⟨_, rfl⟩
  have hb : N < 1000000000 := by have := hc.fit.gv; omega
  have hgl : g.length = N := by
    rcases hg with ⟨_, h⟩ | ⟨k, _, _, h⟩
    · rw [h]; simp [hN]
    · rw [h]; simp [hN]
  have h99 := ok99P n ⟨true, goal, false, g, true, [], true, [], 0, 0, 0, 0⟩ c hc (by simp only; omega)
  have hll : (left ⟨true, goal, false, g, true, [], true, [], 0, 0, 0, 0⟩ c).co.length = c.sp.length := lft_len c.gv _ _ (by simp [pls, hc.go]) hc.gv
  have hsp := hc.fit.sp
  have h1 := ok123 (n+3) false (left ⟨true, goal, false, g, true, [], true, [], 0, 0, 0, 0⟩ c).co 124 [] _ (fun x _ => ok124 (n+2) x) (by omega)
  have h2 := ok123 (n+3) false (left ⟨true, goal, false, g, true, [], true, [], 0, 0, 0, 0⟩ c).co 125 [] _ (fun x _ => ok125 (n+2) x) (by omega)
  have b1 : ((8 : Nat) : Int) * (N : Int) ≤ 70368744177664 := by omega
  have b2 : (N : Int) ≤ 70368744177664 := by omega
  have e1 : (g.map ic).take N = g.map ic := take_self (by simpa using hgl)
  have e2 : N ≤ g.length := by omega
  rw [p122]
  generalize hl : left ⟨true, goal, false, g, true, [], true, [], 0, 0, 0, 0⟩ c = l at h99 h1 h2 hll
  have hleaf : leafOf c goal g = ⟨true, goal, false, g, true, l.co.map (fun n => max n 0), true, l.co.map (fun n => max (ng n) 0), 0, 0, 0, 0⟩ := by simp [leafOf, hl]
  rw [hleaf]
  rcases hg with ⟨rfl, hg⟩ | ⟨k, rfl, hk, hg⟩
  · have n1 : ¬ (0 : Int) ≤ -1 := by decide
    simp only [go_sem, Nat.reduceAdd, Nat.reduceSub, Nat.reduceMul, Nat.reduceDiv, Nat.reduceMod, Nat.reduceLeDiff, Nat.reduceBEq, Int.reduceToNat, Int.reduceLT, Int.reduceLE, Int.reduceEq, slD_f, slD_nil] at h99 h1 h2
    rw [← hN] at hg
    have e0 : List.replicate N [D.int .i64 0] = g.map ic := by rw [hg, repic]
    simp only [go_sem, Nat.reduceAdd, Nat.reduceSub, Nat.reduceMul, Nat.reduceDiv, Nat.reduceMod, Nat.reduceLeDiff, Nat.reduceBEq, Int.reduceToNat, Int.reduceLT, Int.reduceLE, Int.reduceEq, ← hN, b1, b2, Int.natCast_nonneg, e0, n1, e1, e2, slD_f, slD_nil, h99, h1, h2]
    rfl
  · have n1 : (0 : Int) ≤ (k : Int) := Int.natCast_nonneg k
    have n2 : (k : Int) < (N : Int) := by omega
    simp only [go_sem, Nat.reduceAdd, Nat.reduceSub, Nat.reduceMul, Nat.reduceDiv, Nat.reduceMod, Nat.reduceLeDiff, Nat.reduceBEq, Int.reduceToNat, Int.reduceLT, Int.reduceLE, Int.reduceEq, slD_f, slD_nil] at h99 h1 h2
    rw [← hN] at hg
    have e3 : (List.replicate N [D.int .i64 0])[k]? = some [.int .i64 0] := by rw [List.getElem?_replicate, if_pos (by omega)]
    have e4 : (List.replicate N [D.int .i64 0]).set k [.int .i64 m] = g.map ic := by rw [hg, repic, List.map_set]; rfl
    simp only [go_sem, Nat.reduceAdd, Nat.reduceSub, Nat.reduceMul, Nat.reduceDiv, Nat.reduceMod, Nat.reduceLeDiff, Nat.reduceBEq, Int.reduceToNat, Int.reduceLT, Int.reduceLE, Int.reduceEq, ← hN, b1, b2, Int.natCast_nonneg, n1, n2, Nat.mul_one, Nat.div_one, Nat.mod_one, e3, e4, e1, e2, slD_f, slD_nil, h99, h1, h2]
    rfl
end Go.Vm.P12

/- Chapter 12, functions: the search for a direct leaf. -/
set_option maxRecDepth 100000
namespace Go.Vm.P12
open Go Go.Vm
structure Rd (lo : Lower) (Q p : Stp → Bool) (e1 : Ext) (eF : Stp → Ext) (I : Ext → Prop) : Prop where
  h1 : I e1
  hr : ∀ e s, I e → Q s = true → lo.round e [.agg (enT s)] = some (if p s then (eF s, false) else (e1, true))
def aft (p : Stp → Bool) (e1 : Ext) (e : Ext) (l : List Stp) : Ext := if l.isEmpty then e else e1
theorem aft_same {p : Stp → Bool} {e : Ext} {l : List Stp} : aft p e e l = e := by simp [aft]
theorem aft_cons {p : Stp → Bool} {e1 e : Ext} {x : Stp} {l : List Stp} : aft p e1 e (x :: l) = e1 := rfl
theorem aft_nil {p : Stp → Bool} {e1 e : Ext} : aft p e1 e [] = e := rfl
theorem aft_app {p : Stp → Bool} {e1 e : Ext} {l r : List Stp} : aft p e1 (aft p e1 e l) r = aft p e1 e (l ++ r) := by
  cases l <;> cases r <;> rfl
def lf (c : Cl) (goal : Int) (i : Nat) (m : Int) : Stp := leafOf c goal ((List.replicate c.gv.length 0).set i m)
def lf0 (c : Cl) (goal : Int) : Stp := leafOf c goal (List.replicate c.gv.length 0)
def lfs (c : Cl) (goal : Int) (i : Nat) (m : Nat) : Nat → List Stp
  | 0 => []
  | k + 1 => lf c goal i (m + 1 : Nat) :: lfs c goal i (m + 1) k
theorem l98_0 {n : Nat} {c : Cl} (hc : c.Even) {goal : Int} {M : Nat} {Q p : Stp → Bool} {e1 : Ext} {eF : Stp → Ext} {I : Ext → Prop} (R : Rd (level E (n+6)) Q p e1 eF I) (hQ : ∀ i m, i < c.gv.length → Q (lf c goal i m) = true) (hM : M < 1000000000) {i N : Nat} (hN : N = c.gv.length) (hi : i < N) {v5 : D} {k : Int} : ∀ (r : Nat) (m : Nat) (e : Ext), m + r = M → I e →
    outC ⟨0, false⟩ [1, 1, 1, 0, 0, 1, 1, 0, 0, 1, 1, 0, 0, 0, 0, 0] (rnd (aCode (level E (n+6)) ⟨0, false⟩ b98_0) (head ⟨0, false⟩ [1, 1, 1, 1, 0, 1, 1, 0, 0, 1, 1, 0, 1, 1, 0, 0])
      ⟨[.yield, .imm (.ptr (enC c)), .ptr 0 0, .imm (.int .i64 i), .junk, .imm v5, .imm (.int .i64 k), .junk, .junk, .imm (.int .i64 N), .imm (.int .i64 i), .junk, .imm (.int .i64 M), .imm (.int .i64 m), .junk, .junk],
        [.box [.imm (.int .i64 goal), .imm (.int .i64 M), .imm (.fn 122 [] [])]], some e⟩) =
      some (match (lfs c goal i m r).find? p with
        | some s => (.ret, ⟨[.yield, .imm (.ptr (enC c)), .ptr 0 0, .junk, .junk, .imm v5, .imm (.int .i64 k), .junk, .junk, .imm (.int .i64 N), .imm (.int .i64 i), .junk, .junk, .junk, .junk, .junk], [.box [.imm (.int .i64 goal), .imm (.int .i64 M), .imm (.fn 122 [] [])]], some (eF s)⟩)
        | none => (.exit 4, ⟨[.yield, .imm (.ptr (enC c)), .ptr 0 0, .junk, .junk, .imm v5, .imm (.int .i64 k), .junk, .junk, .imm (.int .i64 N), .imm (.int .i64 i), .junk, .junk, .junk, .junk, .junk], [.box [.imm (.int .i64 goal), .imm (.int .i64 M), .imm (.fn 122 [] [])]], some (aft p e1 e (lfs c goal i m r))⟩))
  | 0, m, e, hm, he => by
    rw [rnd_eq]
    simp only [go_sem, Nat.reduceAdd, Nat.reduceSub, Nat.reduceMul, Nat.reduceDiv, Nat.reduceMod, Nat.reduceLeDiff, Nat.reduceBEq, Int.reduceToNat, Int.reduceLT, Int.reduceLE, Int.reduceEq, lt_f (show M ≤ m by omega), lfs, List.find?_nil, aft]
  | r + 1, m, e, hm, he => by
    have h6 := wrpS (i := m) (by omega)
    have h122 := ok122 (n+1) c hc goal i (m + 1 : Nat) ((List.replicate c.gv.length 0).set i (m + 1 : Nat)) (.inr ⟨i, rfl, by omega, rfl⟩)
    have hr := R.hr e (lf c goal i (m + 1 : Nat)) he (hQ i _ (by omega))
    have IH := l98_0 (n := n) hc R hQ hM hN hi (v5 := v5) (k := k) r (m + 1) e1 (by omega) R.h1
    rw [← lf] at h122
    rw [rnd_eq]
    cases hp : p (lf c goal i (m + 1 : Nat))
    · rw [hp, if_neg (by simp)] at hr
      simp only [go_sem, Nat.reduceAdd, Nat.reduceSub, Nat.reduceMul, Nat.reduceDiv, Nat.reduceMod, Nat.reduceLeDiff, Nat.reduceBEq, Int.reduceToNat, Int.reduceLT, Int.reduceLE, Int.reduceEq] at h122 hr IH
      simp only [go_sem, Nat.reduceAdd, Nat.reduceSub, Nat.reduceMul, Nat.reduceDiv, Nat.reduceMod, Nat.reduceLeDiff, Nat.reduceBEq, Int.reduceToNat, Int.reduceLT, Int.reduceLE, Int.reduceEq, lt_t (show m < M by omega), h6, h122, hr]
      simp only [lfs, List.find?_cons, hp, aft_cons]
      simp only [aft_same] at IH
      exact IH
    · rw [hp, if_pos rfl] at hr
      simp only [go_sem, Nat.reduceAdd, Nat.reduceSub, Nat.reduceMul, Nat.reduceDiv, Nat.reduceMod, Nat.reduceLeDiff, Nat.reduceBEq, Int.reduceToNat, Int.reduceLT, Int.reduceLE, Int.reduceEq] at h122 hr
      simp only [go_sem, Nat.reduceAdd, Nat.reduceSub, Nat.reduceMul, Nat.reduceDiv, Nat.reduceMod, Nat.reduceLeDiff, Nat.reduceBEq, Int.reduceToNat, Int.reduceLT, Int.reduceLE, Int.reduceEq, lt_t (show m < M by omega), h6, h122, hr]
      simp only [lfs, List.find?_cons, hp]
theorem I_aft {lo : Lower} {Q p : Stp → Bool} {e1 e : Ext} {eF : Stp → Ext} {I : Ext → Prop} (R : Rd lo Q p e1 eF I) (he : I e) (l : List Stp) : I (aft p e1 e l) := by
  unfold aft; split
  · exact he
  · exact R.h1
def lfg (c : Cl) (goal : Int) (M : Nat) (i : Nat) : Nat → List Stp
  | 0 => []
  | r + 1 => lfs c goal i 0 M ++ lfg c goal M (i + 1) r
theorem find_app {α : Type} {p : α → Bool} {l r : List α} : (l ++ r).find? p = match l.find? p with | some x => some x | none => r.find? p := by
  rw [List.find?_append]; cases l.find? p <;> rfl
theorem l98_1 {n : Nat} {c : Cl} (hc : c.Even) {goal : Int} {M : Nat} {Q p : Stp → Bool} {e1 : Ext} {eF : Stp → Ext} {I : Ext → Prop} (R : Rd (level E (n+6)) Q p e1 eF I) (hQ : ∀ i m, i < c.gv.length → Q (lf c goal i m) = true) (hM : M < 1000000000) {N : Nat} (hN : N = c.gv.length) {v5 : D} {k : Int} : ∀ (r : Nat) (i : Nat) (e : Ext), i + r = N → I e →
    outC ⟨0, false⟩ [1, 1, 0, 0, 0, 1, 1, 0, 0, 0, 0, 0, 0, 0, 0, 0] (rnd (aCode (level E (n+6)) ⟨0, false⟩ b98_1) (head ⟨0, false⟩ [1, 1, 1, 0, 0, 1, 1, 0, 0, 1, 1, 0, 0, 0, 0, 0])
      ⟨[.yield, .imm (.ptr (enC c)), .ptr 0 0, .junk, .junk, .imm v5, .imm (.int .i64 k), .junk, .junk, .imm (.int .i64 N), .imm (.int .i64 i), .junk, .junk, .junk, .junk, .junk],
        [.box [.imm (.int .i64 goal), .imm (.int .i64 M), .imm (.fn 122 [] [])]], some e⟩) =
      some (match (lfg c goal M i r).find? p with
        | some s => (.ret, ⟨[.yield, .imm (.ptr (enC c)), .junk, .junk, .junk, .imm v5, .imm (.int .i64 k), .junk, .junk, .junk, .junk, .junk, .junk, .junk, .junk, .junk], [], some (eF s)⟩)
        | none => (.exit 2, ⟨[.yield, .imm (.ptr (enC c)), .junk, .junk, .junk, .imm v5, .imm (.int .i64 k), .junk, .junk, .junk, .junk, .junk, .junk, .junk, .junk, .junk], [], some (aft p e1 e (lfg c goal M i r))⟩))
  | 0, i, e, hi, he => by
    rw [rnd_eq]
    simp only [go_sem, Nat.reduceAdd, Nat.reduceSub, Nat.reduceMul, Nat.reduceDiv, Nat.reduceMod, Nat.reduceLeDiff, Nat.reduceBEq, Int.reduceToNat, Int.reduceLT, Int.reduceLE, Int.reduceEq, lt_f (show N ≤ i by omega), lfg, List.find?_nil, aft_nil]
  | r + 1, i, e, hi, he => by
    have h6 := wrpS (i := i) (by have := hc.fit.gv; omega)
    have hl := l98_0 (n := n) hc R hQ hM hN (show i < N by omega) (v5 := v5) (k := k) M 0 e (by omega) he
    have IH := l98_1 (n := n) hc R hQ hM hN (v5 := v5) (k := k) r (i + 1) (aft p e1 e (lfs c goal i 0 M)) (by omega) (I_aft R he _)
    rw [cast0] at hl
    rw [rnd_eq]
    simp only [go_sem, Nat.reduceAdd, Nat.reduceSub, Nat.reduceMul, Nat.reduceDiv, Nat.reduceMod, Nat.reduceLeDiff, Nat.reduceBEq, Int.reduceToNat, Int.reduceLT, Int.reduceLE, Int.reduceEq] at hl IH
    simp only [go_sem, Nat.reduceAdd, Nat.reduceSub, Nat.reduceMul, Nat.reduceDiv, Nat.reduceMod, Nat.reduceLeDiff, Nat.reduceBEq, Int.reduceToNat, Int.reduceLT, Int.reduceLE, Int.reduceEq, lt_t (show i < N by omega), hl, lfg, find_app]
    cases hf : (lfs c goal i 0 M).find? p
    · simp only [go_sem, Nat.reduceAdd, Nat.reduceSub, Nat.reduceMul, Nat.reduceDiv, Nat.reduceMod, Nat.reduceLeDiff, Nat.reduceBEq, Int.reduceToNat, Int.reduceLT, Int.reduceLE, Int.reduceEq, h6]
      rw [aft_app] at IH
      exact IH
    · simp only [go_sem, Nat.reduceAdd, Nat.reduceSub, Nat.reduceMul, Nat.reduceDiv, Nat.reduceMod, Nat.reduceLeDiff, Nat.reduceBEq, Int.reduceToNat, Int.reduceLT, Int.reduceLE, Int.reduceEq]
def leaves (c : Cl) : List Stp := lfg c 0 1 0 c.gv.length ++ (lf0 c 1 :: lfg c 1 4 0 c.gv.length)
theorem l98_2 {n : Nat} {c : Cl} (hc : c.Even) {Q p : Stp → Bool} {e1 : Ext} {eF : Stp → Ext} {I : Ext → Prop} (R : Rd (level E (n+6)) Q p e1 eF I) (hQ : ∀ g i m, i < c.gv.length → Q (lf c g i m) = true) (hQ0 : Q (lf0 c 1) = true) (e : Ext) (he : I e) :
    aCode (level E (n+6)) ⟨0, false⟩ c98 ⟨[.yield, .imm (.ptr (enC c)), .junk, .junk, .junk, .junk, .junk, .junk, .junk, .junk, .junk, .junk, .junk, .junk, .junk, .junk], [], some e⟩ =
      some (match (leaves c).find? p with
        | some s => (.ret, ⟨[.junk, .junk, .junk, .junk, .junk, .junk, .junk, .junk, .junk, .junk, .junk, .junk, .junk, .junk, .junk, .junk], [], some (eF s)⟩)
        | none => (.normal, ⟨[.junk, .junk, .junk, .junk, .junk, .junk, .junk, .junk, .junk, .junk, .junk, .junk, .junk, .junk, .junk, .junk], [], some e1⟩)) := by
  have hg := hc.fit.gv
  obtain ⟨N, hN⟩ : ∃ N, N = c.gv.length := ⟨_, rfl⟩
  obtain ⟨v5, hv5⟩ : ∃ v5 : D, v5 = .agg [.int .i64 0, .int .i64 1, .fn 122 [] [], .int .i64 1, .int .i64 0, .fn 122 [] [], .int .i64 1, .int .i64 4, .fn 122 [] []] := ⟨_, rfl⟩
  have h1 := l98_1 (n := n) hc (goal := 0) (M := 1) R (hQ 0) (by omega) hN (v5 := v5) (k := 0) N 0 e (by omega) he
  have i1 := I_aft R he (lfg c 0 1 0 N)
  have h0 := ok122 (n+1) c hc 1 (-1) 0 _ (.inl ⟨rfl, rfl⟩)
  rw [← lf0] at h0
  have hr := R.hr _ (lf0 c 1) i1 hQ0
  have h2 := l98_1 (n := n) hc (goal := 1) (M := 0) R (hQ 1) (by omega) hN (v5 := v5) (k := 1) N 0 e1 (by omega) R.h1
  have h3 := l98_1 (n := n) hc (goal := 1) (M := 4) R (hQ 1) (by omega) hN (v5 := v5) (k := 2) N 0 e1 (by omega) R.h1
  have e2 : ∀ (r i : Nat), lfg c 1 0 i r = [] := fun r => by induction r with | zero => intro i; rfl | succ r ih => intro i; simp [lfg, lfs, ih]
  rw [e2] at h2
  rw [cast0] at h1 h2 h3
  simp only [List.find?_nil, aft_same] at h2 h3
  simp only [go_sem, Nat.reduceAdd, Nat.reduceSub, Nat.reduceMul, Nat.reduceDiv, Nat.reduceMod, Nat.reduceLeDiff, Nat.reduceBEq, Int.reduceToNat, Int.reduceLT, Int.reduceLE, Int.reduceEq, hv5, show ((1 : Nat) : Int) = 1 from rfl, show ((4 : Nat) : Int) = 4 from rfl] at h0 h1 h2 h3
  have u := rnd_eq (aCode (level E (n+6)) ⟨0, false⟩ b98_2)
  have j0 : decide ((0 : Int) < ((3 : Nat) : Int)) = true := by decide
  have j1 : decide ((1 : Int) < ((3 : Nat) : Int)) = true := by decide
  have j2 : decide ((2 : Int) < ((3 : Nat) : Int)) = true := by decide
  have lv : leaves c = lfg c 0 1 0 N ++ (lf0 c 1 :: lfg c 1 4 0 N) := by rw [leaves, hN]
  rw [lv]
  simp only [go_sem, Nat.reduceAdd, Nat.reduceSub, Nat.reduceMul, Nat.reduceDiv, Nat.reduceMod, Nat.reduceLeDiff, Nat.reduceBEq, Int.reduceToNat, Int.reduceLT, Int.reduceLE, Int.reduceEq, u, ← hN, j0, h0, h1, find_app]
  cases hf : (lfg c 0 1 0 N).find? p with
  | some s => simp only [go_sem, Nat.reduceAdd, Nat.reduceSub, Nat.reduceMul, Nat.reduceDiv, Nat.reduceMod, Nat.reduceLeDiff, Nat.reduceBEq, Int.reduceToNat, Int.reduceLT, Int.reduceLE, Int.reduceEq]
  | none =>
    simp only [go_sem, Nat.reduceAdd, Nat.reduceSub, Nat.reduceMul, Nat.reduceDiv, Nat.reduceMod, Nat.reduceLeDiff, Nat.reduceBEq, Int.reduceToNat, Int.reduceLT, Int.reduceLE, Int.reduceEq, u, ← hN, j1, h0, List.find?_cons]
    cases hp : p (lf0 c 1)
    · rw [hp, if_neg (by simp)] at hr
      simp only [go_sem, Nat.reduceAdd, Nat.reduceSub, Nat.reduceMul, Nat.reduceDiv, Nat.reduceMod, Nat.reduceLeDiff, Nat.reduceBEq, Int.reduceToNat, Int.reduceLT, Int.reduceLE, Int.reduceEq] at hr
      simp only [go_sem, Nat.reduceAdd, Nat.reduceSub, Nat.reduceMul, Nat.reduceDiv, Nat.reduceMod, Nat.reduceLeDiff, Nat.reduceBEq, Int.reduceToNat, Int.reduceLT, Int.reduceLE, Int.reduceEq, u, ← hN, hr, h2, j2, h3]
      cases hf2 : (lfg c 1 4 0 N).find? p with
      | some s => simp only [go_sem, Nat.reduceAdd, Nat.reduceSub, Nat.reduceMul, Nat.reduceDiv, Nat.reduceMod, Nat.reduceLeDiff, Nat.reduceBEq, Int.reduceToNat, Int.reduceLT, Int.reduceLE, Int.reduceEq]
      | none => simp only [go_sem, Nat.reduceAdd, Nat.reduceSub, Nat.reduceMul, Nat.reduceDiv, Nat.reduceMod, Nat.reduceLeDiff, Nat.reduceBEq, Int.reduceToNat, Int.reduceLT, Int.reduceLE, Int.reduceEq, u]
    · rw [hp, if_pos rfl] at hr
      simp only [go_sem, Nat.reduceAdd, Nat.reduceSub, Nat.reduceMul, Nat.reduceDiv, Nat.reduceMod, Nat.reduceLeDiff, Nat.reduceBEq, Int.reduceToNat, Int.reduceLT, Int.reduceLE, Int.reduceEq] at hr
      simp only [go_sem, Nat.reduceAdd, Nat.reduceSub, Nat.reduceMul, Nat.reduceDiv, Nat.reduceMod, Nat.reduceLeDiff, Nat.reduceBEq, Int.reduceToNat, Int.reduceLT, Int.reduceLE, Int.reduceEq, hr]
end Go.Vm.P12

/- Chapter 12, functions: the direct leaf. -/
set_option maxRecDepth 100000
namespace Go.Vm.P12
open Go Go.Vm
theorem ok82 (n : Nat) (c : Cl) : callP (level E (n+1)) 82 [.agg (enC c)] = some (.fn 98 [] [.ptr (enC c)]) := by
  rw [p82]; simp only [go_sem, Nat.reduceAdd, Nat.reduceSub, Nat.reduceMul, Nat.reduceDiv, Nat.reduceMod, Nat.reduceLeDiff, Nat.reduceBEq, Int.reduceToNat, Int.reduceLT, Int.reduceLE, Int.reduceEq, sg_slD]
def sOk (c : Cl) (s : Stp) : Bool := decide (s.lw.length = c.sp.length) && decide (s.hg.length = c.sp.length) && decide (c.gv.length ≤ s.gv.length)
theorem leafOf_ok {c : Cl} (hc : c.Even) {goal : Int} {g : List Int} (hg : g.length = c.gv.length) : sOk c (leafOf c goal g) = true := by
  have hll : (left ⟨true, goal, false, g, true, [], true, [], 0, 0, 0, 0⟩ c).co.length = c.sp.length := lft_len c.gv _ _ (by simp [pls, hc.go]) hc.gv
  simp [sOk, leafOf, hll, hg]
def zSt : Stp := ⟨false, 0, true, [], true, [], true, [], 0, 0, 0, 0⟩
def x0 (c : Cl) : Ext := ⟨[6], b52_0, b52_1, [.imm (.agg (enC c)), .ptr 1 0, .ptr 2 0, .ptr 0 0, .junk, .imm (.fn 98 [] [.ptr (enC c)]), .junk, .junk], [.box ((enC c).map .imm), .box ((enT zSt).map .imm), .box [.imm (.bool false)]], 0, none⟩
def x1 (c : Cl) : Ext := ⟨[6], b52_0, b52_1, [.imm (.agg (enC c)), .ptr 0 0, .ptr 1 0, .ptr 2 0, .junk, .imm (.fn 98 [] [.ptr (enC c)]), .junk, .junk], [.box ((enT zSt).map .imm), .box [.imm (.bool false)], .box ((enC c).map .imm)], 0, none⟩
def xF (c : Cl) (s : Stp) : Ext := ⟨[6], b52_0, b52_1, [.imm (.agg (enC c)), .ptr 0 0, .ptr 1 0, .ptr 2 0, .junk, .imm (.fn 98 [] [.ptr (enC c)]), .junk, .junk], [.box ((enT s).map .imm), .box [.imm (.bool true)], .box ((enC c).map .imm)], 0, some .ret⟩
theorem rd52 (n : Nat) (c : Cl) (hc : c.Even) : Rd (level E (n+6)) (sOk c) (fun s => prv s c) (x1 c) (xF c) (fun e => e = x0 c ∨ e = x1 c) := by
  refine ⟨.inr rfl, fun e s he hs => ?_⟩
  simp only [sOk, Bool.and_eq_true, decide_eq_true_eq] at hs
  have h83 := ok83 n s c hc hs.2 hs.1.1 hs.1.2
  rcases he with rfl | rfl <;> cases hp : prv s c <;> rw [hp] at h83 <;> simp only [go_sem, Nat.reduceAdd, Nat.reduceSub, Nat.reduceMul, Nat.reduceDiv, Nat.reduceMod, Nat.reduceLeDiff, Nat.reduceBEq, Int.reduceToNat, Int.reduceLT, Int.reduceLE, Int.reduceEq] at h83 <;> simp only [x0, x1, xF] <;> rw [round_go (by rfl)] <;> simp only [go_sem, Nat.reduceAdd, Nat.reduceSub, Nat.reduceMul, Nat.reduceDiv, Nat.reduceMod, Nat.reduceLeDiff, Nat.reduceBEq, Int.reduceToNat, Int.reduceLT, Int.reduceLE, Int.reduceEq, sg_slD, zSt, slD_nil, h83]
def dir (c : Cl) : Option Stp := (leaves c).find? fun s => prv s c
theorem call98 (n : Nat) (c : Cl) (hc : c.Even) : (level E (n+7)).call 98 [.yield, .imm (.ptr (enC c))] [] (some (x0 c)) = some (.imm (.tup []), [], some (match dir c with | some s => xF c s | none => x1 c)) := by
  have hl := l98_2 (n := n) hc (rd52 n c hc) (fun g i m hi => leafOf_ok hc (by simp)) (leafOf_ok hc (by simp)) (x0 c) (.inl rfl)
  rw [call_go (fn := ir98) (c := c98) (r := []) rfl rfl rfl rfl rfl]
  rw [show (List.length ([] : List AO)) = 0 from rfl]
  rw [show [AV.yield, .imm (.ptr (enC c))] ++ List.replicate (ir98.nv - [AV.yield, .imm (.ptr (enC c))].length) .junk = [.yield, .imm (.ptr (enC c)), .junk, .junk, .junk, .junk, .junk, .junk, .junk, .junk, .junk, .junk, .junk, .junk, .junk, .junk] from rfl]
  rw [hl, ← dir]
  cases dir c <;> simp only [go_sem, Nat.reduceAdd, Nat.reduceSub, Nat.reduceMul, Nat.reduceDiv, Nat.reduceMod, Nat.reduceLeDiff, Nat.reduceBEq, Int.reduceToNat, Int.reduceLT, Int.reduceLE, Int.reduceEq]
def dirD (c : Cl) : D := match dir c with | some s => .tup [.agg (enT s), .bool true] | none => .tup [.agg (enT zSt), .bool false]
theorem ok52 (n : Nat) (c : Cl) (hc : c.Even) : callP (level E (n+8)) 52 [.agg (enC c)] = some (dirD c) := by
  have h98 := call98 n c hc
  have h82 := ok82 (n+6) c
  rw [p52]
  simp only [go_sem, Nat.reduceAdd, Nat.reduceSub, Nat.reduceMul, Nat.reduceDiv, Nat.reduceMod, Nat.reduceLeDiff, Nat.reduceBEq, Int.reduceToNat, Int.reduceLT, Int.reduceLE, Int.reduceEq] at h82
  simp only [x0, x1, xF, zSt] at h98
  unfold dirD
  cases hd : dir c with
  | none =>
    rw [hd] at h98
    simp only [go_sem, Nat.reduceAdd, Nat.reduceSub, Nat.reduceMul, Nat.reduceDiv, Nat.reduceMod, Nat.reduceLeDiff, Nat.reduceBEq, Int.reduceToNat, Int.reduceLT, Int.reduceLE, Int.reduceEq, slD_nil] at h98
    simp only [go_sem, Nat.reduceAdd, Nat.reduceSub, Nat.reduceMul, Nat.reduceDiv, Nat.reduceMod, Nat.reduceLeDiff, Nat.reduceBEq, Int.reduceToNat, Int.reduceLT, Int.reduceLE, Int.reduceEq, sg_slD, h82, h98, zSt, slD_nil]
  | some s =>
    rw [hd] at h98
    simp only [go_sem, Nat.reduceAdd, Nat.reduceSub, Nat.reduceMul, Nat.reduceDiv, Nat.reduceMod, Nat.reduceLeDiff, Nat.reduceBEq, Int.reduceToNat, Int.reduceLT, Int.reduceLE, Int.reduceEq, slD_nil] at h98
    simp only [go_sem, Nat.reduceAdd, Nat.reduceSub, Nat.reduceMul, Nat.reduceDiv, Nat.reduceMod, Nat.reduceLeDiff, Nat.reduceBEq, Int.reduceToNat, Int.reduceLT, Int.reduceLE, Int.reduceEq, sg_slD, h82, h98]
theorem clErr_even {c : Cl} (hf : c.Fit) (h : clErr c = 0) : c.Even := by
  have fn0 : ∀ l : List Int, fnz l = 0 → ∀ x ∈ l, x = 0 := by
    intro l
    induction l with
    | nil => intro _ x hx; cases hx
    | cons y l ih =>
      intro h x hx
      rw [fnz_cons] at h
      by_cases hy : y = 0
      · rw [if_pos hy] at h
        rcases List.mem_cons.1 hx with rfl | hx
        · exact hy
        · exact ih h x hx
      · rw [if_neg hy] at h; exact absurd h hy
  unfold clErr at h
  split at h
  · have key : ∀ l ∈ c.gv ++ [c.go], (l.co.length : Int) = c.sp.length := by
      intro l hl
      have h1 := fn0 _ h (lnErr l c.sp.length) (List.mem_map.2 ⟨l, hl, rfl⟩)
      have h2 := fn0 _ h1 _ (List.mem_cons_self)
      by_cases he : (l.co.length : Int) = c.sp.length
      · exact he
      · simp [he] at h2
    exact ⟨hf, fun g hg => by have := key g (List.mem_append_left _ hg); omega, by have := key c.go (by simp); omega⟩
  · rename_i h0; exact absurd h h0
def direct (c : Cl) : D := if clErr c = 0 then (match dir c with | some s => .tup [.agg (enT s), .bool true, .int .i64 0] | none => .tup [.agg (enT zSt), .bool false, .int .i64 0]) else .tup [.agg (enT zSt), .bool false, .int .i64 (clErr c)]
theorem ok10 (n : Nat) (c : Cl) (hf : c.Fit) : callP (level E (n+9)) 10 [.agg (enC c)] = some (direct c) := by
  have h28 := ok28 n c hf
  rw [p10]
  unfold direct
  by_cases h0 : clErr c = 0
  · have h52 := ok52 n c (clErr_even hf h0)
    rw [h0] at h28
    unfold dirD at h52
    cases hd : dir c with
    | none =>
      rw [hd] at h52
      simp only [go_sem, Nat.reduceAdd, Nat.reduceSub, Nat.reduceMul, Nat.reduceDiv, Nat.reduceMod, Nat.reduceLeDiff, Nat.reduceBEq, Int.reduceToNat, Int.reduceLT, Int.reduceLE, Int.reduceEq] at h28 h52
      simp only [go_sem, Nat.reduceAdd, Nat.reduceSub, Nat.reduceMul, Nat.reduceDiv, Nat.reduceMod, Nat.reduceLeDiff, Nat.reduceBEq, Int.reduceToNat, Int.reduceLT, Int.reduceLE, Int.reduceEq, sg_slD, h28, h52, h0, ne_eq, not_true_eq_false]
    | some s =>
      rw [hd] at h52
      simp only [go_sem, Nat.reduceAdd, Nat.reduceSub, Nat.reduceMul, Nat.reduceDiv, Nat.reduceMod, Nat.reduceLeDiff, Nat.reduceBEq, Int.reduceToNat, Int.reduceLT, Int.reduceLE, Int.reduceEq] at h28 h52
      simp only [go_sem, Nat.reduceAdd, Nat.reduceSub, Nat.reduceMul, Nat.reduceDiv, Nat.reduceMod, Nat.reduceLeDiff, Nat.reduceBEq, Int.reduceToNat, Int.reduceLT, Int.reduceLE, Int.reduceEq, sg_slD, h28, h52, h0, ne_eq, not_true_eq_false]
  · simp only [go_sem, Nat.reduceAdd, Nat.reduceSub, Nat.reduceMul, Nat.reduceDiv, Nat.reduceMod, Nat.reduceLeDiff, Nat.reduceBEq, Int.reduceToNat, Int.reduceLT, Int.reduceLE, Int.reduceEq] at h28
    simp only [go_sem, Nat.reduceAdd, Nat.reduceSub, Nat.reduceMul, Nat.reduceDiv, Nat.reduceMod, Nat.reduceLeDiff, Nat.reduceBEq, Int.reduceToNat, Int.reduceLT, Int.reduceLE, Int.reduceEq, sg_slD, h28, h0, ne_eq, not_false_eq_true, zSt, slD_nil]
end Go.Vm.P12

/- Chapter 12, functions: the widest span, halves. -/
set_option maxRecDepth 100000
namespace Go.Vm.P12
open Go Go.Vm
def wdt (s : Sp) : Int := sb s.hi s.lo
def wider (l : List Sp) (s : Sp) (st : Nat × Bool) : Bool := decide (s.lo < s.hi) && (!st.2 || decide (wdt (l.getD st.1 ⟨0, 0⟩) < wdt s))
def wids (l : List Sp) : List Sp → Nat → Nat × Bool → Nat × Bool
  | [], _, st => st
  | s :: r, i, st => wids l r (i + 1) (if wider l s st then (i, true) else st)
theorem l84 {lo : Lower} {b : Bool} {l : List Sp} (hl : l.length < 1000000000) : ∀ (r : List Sp) (i : Nat) (st : Nat × Bool), l.drop i = r → (st.2 = true → st.1 < l.length) →
    outC ⟨0, false⟩ [0, 0, 0, 1, 1, 0, 0, 0, 0, 0, 0, 0] (rnd (aCode lo ⟨0, false⟩ b84_0) (head ⟨0, false⟩ [1, 0, 0, 1, 1, 0, 0, 1, 1, 1, 0, 0])
      ⟨[.imm (slD b 2 (l.map enS)), .junk, .junk, .imm (.int .i64 st.1), .imm (.bool st.2), .junk, .junk, .imm (slD b 2 (l.map enS)), .imm (.int .i64 l.length), .imm (.int .i64 i), .junk, .junk], [], none⟩) =
      some (.exit 0, ⟨[.junk, .junk, .junk, .imm (.int .i64 (wids l r i st).1), .imm (.bool (wids l r i st).2), .junk, .junk, .junk, .junk, .junk, .junk, .junk], [], none⟩)
  | [], i, st, h, hst => by
    rw [rnd_eq]
    simp only [go_sem, Nat.reduceAdd, Nat.reduceSub, Nat.reduceMul, Nat.reduceDiv, Nat.reduceMod, Nat.reduceLeDiff, Nat.reduceBEq, Int.reduceToNat, Int.reduceLT, Int.reduceLE, Int.reduceEq, lt_f (drop_n h), wids]
  | s :: r, i, st, h, hst => by
    obtain ⟨h1, h2, h3⟩ := drop_c h
    have h6 := wrpS (i := i) (by omega)
    have IH := l84 (lo := lo) (b := b) hl r (i + 1) (if wider l s st then (i, true) else st) h3 (by split <;> simp_all)
    rw [rnd_eq]
    obtain ⟨k, fd⟩ := st
    have hw : wids l (s :: r) i (k, fd) = wids l r (i + 1) (if wider l s (k, fd) then (i, true) else (k, fd)) := rfl
    rw [hw]
    cases c1 : decide (s.lo < s.hi)
    · have e : wider l s (k, fd) = false := by simp only [wider, c1, Bool.false_and]
      rw [e] at IH ⊢
      simp only [go_sem, Nat.reduceAdd, Nat.reduceSub, Nat.reduceMul, Nat.reduceDiv, Nat.reduceMod, Nat.reduceLeDiff, Nat.reduceBEq, Int.reduceToNat, Int.reduceLT, Int.reduceLE, Int.reduceEq] at IH
      simp only [go_sem, Nat.reduceAdd, Nat.reduceSub, Nat.reduceMul, Nat.reduceDiv, Nat.reduceMod, Nat.reduceLeDiff, Nat.reduceBEq, Int.reduceToNat, Int.reduceLT, Int.reduceLE, Int.reduceEq, lt_t h2, h1, c1, h6]
      exact IH
    · cases fd
      · have e : wider l s (k, false) = true := by simp only [wider, c1]; rfl
        rw [e] at IH ⊢
        simp only [go_sem, Nat.reduceAdd, Nat.reduceSub, Nat.reduceMul, Nat.reduceDiv, Nat.reduceMod, Nat.reduceLeDiff, Nat.reduceBEq, Int.reduceToNat, Int.reduceLT, Int.reduceLE, Int.reduceEq] at IH
        simp only [go_sem, Nat.reduceAdd, Nat.reduceSub, Nat.reduceMul, Nat.reduceDiv, Nat.reduceMod, Nat.reduceLeDiff, Nat.reduceBEq, Int.reduceToNat, Int.reduceLT, Int.reduceLE, Int.reduceEq, lt_t h2, h1, c1, h6]
        exact IH
      · have hk := hst rfl
        obtain ⟨t, ht⟩ : ∃ t, l[k]? = some t := ⟨l[k], List.getElem?_eq_getElem hk⟩
        have hg : l.getD k ⟨0, 0⟩ = t := by rw [List.getD_eq_getElem?_getD, ht]; rfl
        cases c2 : decide (wrp .i64 (t.hi - t.lo) < wrp .i64 (s.hi - s.lo))
        · have e : wider l s (k, true) = false := by simp only [wider, c1, hg, wdt, sb, c2]; rfl
          rw [e] at IH ⊢
          simp only [go_sem, Nat.reduceAdd, Nat.reduceSub, Nat.reduceMul, Nat.reduceDiv, Nat.reduceMod, Nat.reduceLeDiff, Nat.reduceBEq, Int.reduceToNat, Int.reduceLT, Int.reduceLE, Int.reduceEq] at IH
          simp only [go_sem, Nat.reduceAdd, Nat.reduceSub, Nat.reduceMul, Nat.reduceDiv, Nat.reduceMod, Nat.reduceLeDiff, Nat.reduceBEq, Int.reduceToNat, Int.reduceLT, Int.reduceLE, Int.reduceEq, lt_t h2, h1, c1, h6, ht, c2]
          exact IH
        · have e : wider l s (k, true) = true := by simp only [wider, c1, hg, wdt, sb, c2]; rfl
          rw [e] at IH ⊢
          simp only [go_sem, Nat.reduceAdd, Nat.reduceSub, Nat.reduceMul, Nat.reduceDiv, Nat.reduceMod, Nat.reduceLeDiff, Nat.reduceBEq, Int.reduceToNat, Int.reduceLT, Int.reduceLE, Int.reduceEq] at IH
          simp only [go_sem, Nat.reduceAdd, Nat.reduceSub, Nat.reduceMul, Nat.reduceDiv, Nat.reduceMod, Nat.reduceLeDiff, Nat.reduceBEq, Int.reduceToNat, Int.reduceLT, Int.reduceLE, Int.reduceEq, lt_t h2, h1, c1, h6, ht, c2]
          exact IH
def wid (l : List Sp) : Nat × Bool := wids l l 0 (0, false)
theorem ok84 (n : Nat) (b : Bool) (l : List Sp) (hl : l.length < 1000000000) : callP (level E (n+1)) 84 [slD b 2 (l.map enS)] = some (.tup [.int .i64 (wid l).1, .bool (wid l).2]) := by
  have h := l84 (lo := level E n) (b := b) hl l 0 (0, false) rfl (by simp)
  rw [cast0] at h
  rw [p84]
  simp only [go_sem, Nat.reduceAdd, Nat.reduceSub, Nat.reduceMul, Nat.reduceDiv, Nat.reduceMod, Nat.reduceLeDiff, Nat.reduceBEq, Int.reduceToNat, Int.reduceLT, Int.reduceLE, Int.reduceEq, h, wid]
theorem ok86 (n : Nat) (s : Sp) : callP (level E (n+1)) 86 [.agg (enS s)] = some (.int .i64 s.lo) := by
  rw [p86]; simp only [go_sem, Nat.reduceAdd, Nat.reduceSub, Nat.reduceMul, Nat.reduceDiv, Nat.reduceMod, Nat.reduceLeDiff, Nat.reduceBEq, Int.reduceToNat, Int.reduceLT, Int.reduceLE, Int.reduceEq]
def nar (c : Cl) (v : Nat) (s : Sp) : Cl := { c with sn := false, sp := c.sp.set v s }
theorem ok87 (n : Nat) (c : Cl) (v : Nat) (s : Sp) (b : Int) (hv : c.sp[v]? = some s) (hb : c.sp.length < 1000000000) :
    callP (level E (n+3)) 87 [.agg (enC c), .int .i64 v, .int .i64 b] = some (.agg (enC (nar c v ⟨s.lo, b⟩) ++ enC (nar c v ⟨ad b 1, s.hi⟩))) := by
  obtain ⟨sn, sp, gn, gv, go⟩ := c
  simp only at hv hb
  have hvl : v < sp.length := (List.getElem?_eq_some_iff.1 hv).1
  cases sp with
  | nil => simp at hvl
  | cons x sp =>
    obtain ⟨N, hN⟩ : ∃ N, N = sp.length + 1 := ⟨_, rfl⟩
    have h101 := ok101 (n+1) sn ((x :: sp).map enS) (by simpa using hb)
    have u := rnd_eq (aCode (level E (n+2)) ⟨0, false⟩ b87_0)
    have i0 : (0 : Int) < ((2 : Nat) : Int) := by decide
    have i1 : (1 : Int) < ((2 : Nat) : Int) := by decide
    have hvN : (v : Int) < (N : Int) := by simp at hvl; omega
    have hm : ((x :: sp).map enS)[v]? = some (enS s) := by rw [List.getElem?_map, hv]; rfl
    have q1 : (v * 2 + 1) / 2 = v := by omega
    have q2 : (v * 2 + 1) % 2 = 1 := by omega
    have q3 : v * 2 / 2 = v := by omega
    have q4 : v * 2 % 2 = 0 := by omega
    have z1 : (List.map enS (x :: sp)).set v [.int .i64 s.lo, .int .i64 b] = ((x :: sp).set v ⟨s.lo, b⟩).map enS := by rw [List.map_set]; rfl
    have z2 : (List.map enS (x :: sp)).set v [.int .i64 (wrp .i64 (b + 1)), .int .i64 s.hi] = ((x :: sp).set v ⟨ad b 1, s.hi⟩).map enS := by rw [List.map_set]; rfl
    have g1 : ((x :: sp).set v ⟨s.lo, b⟩).length = N := by simp [hN]
    have g2 : ((x :: sp).set v ⟨ad b 1, s.hi⟩).length = N := by simp [hN]
    have r1 : nar ⟨sn, x :: sp, gn, gv, go⟩ v ⟨s.lo, b⟩ = ⟨false, (x :: sp).set v ⟨s.lo, b⟩, gn, gv, go⟩ := rfl
    have r2 : nar ⟨sn, x :: sp, gn, gv, go⟩ v ⟨ad b 1, s.hi⟩ = ⟨false, (x :: sp).set v ⟨ad b 1, s.hi⟩, gn, gv, go⟩ := rfl
    rw [r1, r2]
    generalize hZ1 : (x :: sp).set v ⟨s.lo, b⟩ = Z1 at z1 g1
    generalize hZ2 : (x :: sp).set v ⟨ad b 1, s.hi⟩ = Z2 at z2 g2
    have t1 : (Z1.map enS).take N = Z1.map enS := take_self (by simpa using g1)
    have t2 : (Z2.map enS).take N = Z2.map enS := take_self (by simpa using g2)
    have t3 : N ≤ Z1.length := by omega
    have t4 : N ≤ Z2.length := by omega
    rw [p87]
    simp only [go_sem, Nat.reduceAdd, Nat.reduceSub, Nat.reduceMul, Nat.reduceDiv, Nat.reduceMod, Nat.reduceLeDiff, Nat.reduceBEq, Int.reduceToNat, Int.reduceLT, Int.reduceLE, Int.reduceEq] at hm z1 z2
    simp only [go_sem, Nat.reduceAdd, Nat.reduceSub, Nat.reduceMul, Nat.reduceDiv, Nat.reduceMod, Nat.reduceLeDiff, Nat.reduceBEq, Int.reduceToNat, Int.reduceLT, Int.reduceLE, Int.reduceEq, slD_cons] at h101
    simp only [go_sem, Nat.reduceAdd, Nat.reduceSub, Nat.reduceMul, Nat.reduceDiv, Nat.reduceMod, Nat.reduceLeDiff, Nat.reduceBEq, Int.reduceToNat, Int.reduceLT, Int.reduceLE, Int.reduceEq, u, slD_cons, sg_slD, h101, clV, clO, i0, i1, ← hN, hvN, Int.natCast_nonneg, q1, q2, q3, q4, hm, z1, z2, t1, t2, t3, t4, slD_f]
end Go.Vm.P12

/- Chapter 12, the reference's functions: errors. -/
set_option maxRecDepth 100000
namespace Go.Vm.P12
open Go Go.Vm
def rSp1 (s : Sp) : Int := fnz [ckR s.lo (-1048576) 1048576, ckR s.hi (-1048576) 1048576, if decide (s.hi < s.lo) then 9 else 0]
def rSpErr (l : List Sp) : Int := if 6 < l.length then 5 else fnz (l.map rSp1)
theorem l39 {n : Nat} {b : Bool} {l : List Sp} (hl : l.length < 1000000000) : ∀ (r : List Sp) (i : Nat), l.drop i = r →
    outC ⟨0, false⟩ [0, 1, 0, 0, 0, 0, 0] (rnd (aCode (level E (n+2)) ⟨0, false⟩ b39_0) (head ⟨0, false⟩ [1, 0, 1, 0, 0, 0, 0]) ⟨[.imm (slD b 2 (l.map enS)), .junk, .imm (.int .i64 i), .junk, .junk, .junk, .junk], [], none⟩) =
      some (if fnz (r.map rSp1) = 0 then (.exit 0, ⟨[.junk, .junk, .junk, .junk, .junk, .junk, .junk], [], none⟩) else (.ret, ⟨[.junk, .imm (.int .i64 (fnz (r.map rSp1))), .junk, .junk, .junk, .junk, .junk], [], none⟩))
  | [], i, h => by
    rw [rnd_eq]
    simp only [go_sem, Nat.reduceAdd, Nat.reduceSub, Nat.reduceMul, Nat.reduceDiv, Nat.reduceMod, Nat.reduceLeDiff, Nat.reduceBEq, Int.reduceToNat, Int.reduceLT, Int.reduceLE, Int.reduceEq, lt_f (drop_n h), fnz]
  | x :: r, i, h => by
    obtain ⟨h1, h2, h3⟩ := drop_c h
    have IH := l39 (n := n) (b := b) hl r (i + 1) h3
    have h6 := wrpS (i := i) (by omega)
    have hs : fnz [ckR x.lo (-1048576) 1048576, ckR x.hi (-1048576) 1048576, if decide (x.hi < x.lo) then 9 else 0] = rSp1 x := rfl
    rw [rnd_eq, List.map_cons, fnz_cons]
    by_cases h0 : rSp1 x = 0 <;> simp only [go_sem, Nat.reduceAdd, Nat.reduceSub, Nat.reduceMul, Nat.reduceDiv, Nat.reduceMod, Nat.reduceLeDiff, Nat.reduceBEq, Int.reduceToNat, Int.reduceLT, Int.reduceLE, Int.reduceEq, lt_t h2, h1, ok17, ok42, ok16_3, hs, h0, ne_eq, not_true_eq_false, not_false_eq_true, h6]
    exact IH
theorem ok39 (n : Nat) (b : Bool) (l : List Sp) (hl : l.length < 1000000000) : callP (level E (n+3)) 39 [slD b 2 (l.map enS)] = some (.int .i64 (rSpErr l)) := by
  have h := l39 (n := n) (b := b) hl l 0 rfl
  rw [cast0] at h
  rw [p39]
  by_cases h5 : 6 < l.length
  · have h5' : (6 : Int) < l.length := by omega
    simp only [go_sem, Nat.reduceAdd, Nat.reduceSub, Nat.reduceMul, Nat.reduceDiv, Nat.reduceMod, Nat.reduceLeDiff, Nat.reduceBEq, Int.reduceToNat, Int.reduceLT, Int.reduceLE, Int.reduceEq, h5', rSpErr, h5]
  · have h5' : ¬ (6 : Int) < l.length := by omega
    simp only [go_sem, Nat.reduceAdd, Nat.reduceSub, Nat.reduceMul, Nat.reduceDiv, Nat.reduceMod, Nat.reduceLeDiff, Nat.reduceBEq, Int.reduceToNat, Int.reduceLT, Int.reduceLE, Int.reduceEq, h5', rSpErr, h5]
    rw [h]
    by_cases h0 : fnz (l.map rSp1) = 0 <;> simp only [go_sem, Nat.reduceAdd, Nat.reduceSub, Nat.reduceMul, Nat.reduceDiv, Nat.reduceMod, Nat.reduceLeDiff, Nat.reduceBEq, Int.reduceToNat, Int.reduceLT, Int.reduceLE, Int.reduceEq, h0]
def ckC (x : Int) : Int := ckR x (-1048576) 1048576
def rLnErr (x : Ln) (vars : Nat) : Int := if x.co.length ≠ vars then 2 else if fnz (x.co.map ckC) = 0 then ckR x.c (-1099511627776) 1099511627776 else fnz (x.co.map ckC)
theorem l38 {n : Nat} {b : Bool} {l : List Int} {c : Int} (hl : l.length < 1000000000) : ∀ (r : List Int) (i : Nat), l.drop i = r →
    outC ⟨0, false⟩ [0, 0, 1, 1, 0, 0, 0, 0, 0] (rnd (aCode (level E (n+2)) ⟨0, false⟩ b38_0) (head ⟨0, false⟩ [0, 1, 0, 1, 1, 0, 0, 0, 0]) ⟨[.junk, .imm (.int .i64 l.length), .junk, .ptr 0 0, .imm (.int .i64 i), .junk, .junk, .junk, .junk], [.box [.imm (slD b 1 (l.map ic)), .imm (.int .i64 c)]], none⟩) =
      some (if fnz (r.map ckC) = 0 then (.exit 0, ⟨[.junk, .junk, .junk, .ptr 0 0, .junk, .junk, .junk, .junk, .junk], [.box [.imm (slD b 1 (l.map ic)), .imm (.int .i64 c)]], none⟩) else (.ret, ⟨[.junk, .junk, .imm (.int .i64 (fnz (r.map ckC))), .ptr 0 0, .junk, .junk, .junk, .junk, .junk], [.box [.imm (slD b 1 (l.map ic)), .imm (.int .i64 c)]], none⟩))
  | [], i, h => by
    rw [rnd_eq]
    simp only [go_sem, Nat.reduceAdd, Nat.reduceSub, Nat.reduceMul, Nat.reduceDiv, Nat.reduceMod, Nat.reduceLeDiff, Nat.reduceBEq, Int.reduceToNat, Int.reduceLT, Int.reduceLE, Int.reduceEq, lt_f (drop_n h), fnz]
  | x :: r, i, h => by
    obtain ⟨h1, h2, h3⟩ := drop_c h
    have IH := l38 (n := n) (b := b) (c := c) hl r (i + 1) h3
    have h6 := wrpS (i := i) (by omega)
    have hs : ckR x (-1048576) 1048576 = ckC x := rfl
    rw [rnd_eq, List.map_cons, fnz_cons]
    by_cases h0 : ckC x = 0 <;> simp only [go_sem, Nat.reduceAdd, Nat.reduceSub, Nat.reduceMul, Nat.reduceDiv, Nat.reduceMod, Nat.reduceLeDiff, Nat.reduceBEq, Int.reduceToNat, Int.reduceLT, Int.reduceLE, Int.reduceEq, lt_t h2, h1, ok17, hs, h0, ne_eq, not_true_eq_false, not_false_eq_true, h6]
    exact IH
theorem ok38 (n : Nat) (x : Ln) (vars : Nat) (hl : x.co.length < 1000000000) : callP (level E (n+3)) 38 [.agg (enL x), .int .i64 vars] = some (.int .i64 (rLnErr x vars)) := by
  have h := l38 (n := n) (b := x.nl) (c := x.c) hl x.co 0 rfl
  rw [cast0] at h
  rw [p38]
  by_cases h5 : x.co.length = vars
  · subst h5
    by_cases h0 : fnz (x.co.map ckC) = 0 <;> simp only [go_sem, Nat.reduceAdd, Nat.reduceSub, Nat.reduceMul, Nat.reduceDiv, Nat.reduceMod, Nat.reduceLeDiff, Nat.reduceBEq, Int.reduceToNat, Int.reduceLT, Int.reduceLE, Int.reduceEq, sg_slD, ne_eq, not_true_eq_false, rLnErr, h, h0, ok17]
  · have h5' : ¬ (x.co.length : Int) = vars := by omega
    simp only [go_sem, Nat.reduceAdd, Nat.reduceSub, Nat.reduceMul, Nat.reduceDiv, Nat.reduceMod, Nat.reduceLeDiff, Nat.reduceBEq, Int.reduceToNat, Int.reduceLT, Int.reduceLE, Int.reduceEq, sg_slD, ne_eq, h5, h5', not_false_eq_true, rLnErr]
def rClErr (c : Cl) : Int := if rSpErr c.sp = 0 then (if (12 : Int) < c.gv.length then 5 else if fnz (c.gv.map fun l => rLnErr l c.sp.length) = 0 then rLnErr c.go c.sp.length else fnz (c.gv.map fun l => rLnErr l c.sp.length)) else rSpErr c.sp
theorem l12 {n : Nat} {c : Cl} (hf : c.Fit) : ∀ (r : List Ln) (i : Nat), c.gv.drop i = r →
    outC ⟨0, false⟩ [0, 1, 1, 0, 0, 0, 0, 0, 0, 0] (rnd (aCode (level E (n+3)) ⟨0, false⟩ b12_0) (head ⟨0, false⟩ [0, 0, 1, 0, 1, 0, 0, 0, 0, 0]) ⟨[.junk, .junk, .ptr 0 0, .junk, .imm (.int .i64 i), .junk, .junk, .junk, .junk, .junk], [.box ((enC c).map .imm)], none⟩) =
      some (if fnz (r.map fun l => rLnErr l c.sp.length) = 0 then (.exit 0, ⟨[.junk, .junk, .ptr 0 0, .junk, .junk, .junk, .junk, .junk, .junk, .junk], [.box ((enC c).map .imm)], none⟩) else (.ret, ⟨[.junk, .imm (.int .i64 (fnz (r.map fun l => rLnErr l c.sp.length))), .ptr 0 0, .junk, .junk, .junk, .junk, .junk, .junk, .junk], [.box ((enC c).map .imm)], none⟩))
  | [], i, h => by
    rw [rnd_eq]
    simp only [go_sem, Nat.reduceAdd, Nat.reduceSub, Nat.reduceMul, Nat.reduceDiv, Nat.reduceMod, Nat.reduceLeDiff, Nat.reduceBEq, Int.reduceToNat, Int.reduceLT, Int.reduceLE, Int.reduceEq, lt_f (drop_n h), fnz]
  | x :: r, i, h => by
    obtain ⟨h1, h2, h3⟩ := drop_c h
    have IH := l12 (n := n) hf r (i + 1) h3
    have hg := hf.gv
    have h6 := wrpS (i := i) (by omega)
    have h38 := ok38 n x c.sp.length (hf.ln x (List.mem_of_getElem? h1))
    rw [rnd_eq, List.map_cons, fnz_cons]
    simp only [go_sem, Nat.reduceAdd, Nat.reduceSub, Nat.reduceMul, Nat.reduceDiv, Nat.reduceMod, Nat.reduceLeDiff, Nat.reduceBEq, Int.reduceToNat, Int.reduceLT, Int.reduceLE, Int.reduceEq] at h38 IH
    by_cases h0 : rLnErr x c.sp.length = 0 <;> simp only [go_sem, Nat.reduceAdd, Nat.reduceSub, Nat.reduceMul, Nat.reduceDiv, Nat.reduceMod, Nat.reduceLeDiff, Nat.reduceBEq, Int.reduceToNat, Int.reduceLT, Int.reduceLE, Int.reduceEq, lt_t h2, h1, h38, h0, ne_eq, not_true_eq_false, not_false_eq_true, h6]
    exact IH
theorem ok12 (n : Nat) (c : Cl) (hf : c.Fit) : callP (level E (n+4)) 12 [.agg (enC c)] = some (.int .i64 (rClErr c)) := by
  have h39 := ok39 n c.sn c.sp hf.sp
  have hg := l12 (n := n) hf c.gv 0 rfl
  have h38 := ok38 n c.go c.sp.length hf.go
  rw [cast0] at hg
  rw [p12]
  simp only [go_sem, Nat.reduceAdd, Nat.reduceSub, Nat.reduceMul, Nat.reduceDiv, Nat.reduceMod, Nat.reduceLeDiff, Nat.reduceBEq, Int.reduceToNat, Int.reduceLT, Int.reduceLE, Int.reduceEq] at h38 hg
  by_cases h0 : rSpErr c.sp = 0
  · by_cases h1 : (12 : Int) < c.gv.length
    · simp only [go_sem, Nat.reduceAdd, Nat.reduceSub, Nat.reduceMul, Nat.reduceDiv, Nat.reduceMod, Nat.reduceLeDiff, Nat.reduceBEq, Int.reduceToNat, Int.reduceLT, Int.reduceLE, Int.reduceEq, sg_slD, h39, h0, ne_eq, not_true_eq_false, h1, rClErr]
    · by_cases h2 : fnz (c.gv.map fun l => rLnErr l c.sp.length) = 0 <;> simp only [go_sem, Nat.reduceAdd, Nat.reduceSub, Nat.reduceMul, Nat.reduceDiv, Nat.reduceMod, Nat.reduceLeDiff, Nat.reduceBEq, Int.reduceToNat, Int.reduceLT, Int.reduceLE, Int.reduceEq, sg_slD, h39, h0, ne_eq, not_true_eq_false, h1, hg, h2, h38, rClErr]
  · simp only [go_sem, Nat.reduceAdd, Nat.reduceSub, Nat.reduceMul, Nat.reduceDiv, Nat.reduceMod, Nat.reduceLeDiff, Nat.reduceBEq, Int.reduceToNat, Int.reduceLT, Int.reduceLE, Int.reduceEq, sg_slD, h39, h0, ne_eq, not_false_eq_true, rClErr]
end Go.Vm.P12

/- Chapter 12, the reference's functions: sums of lines, right leaves. -/
set_option maxRecDepth 100000
namespace Go.Vm.P12
open Go Go.Vm
def rpl (f : Int) (x o : Ln) : Ln := { nl := true, co := List.zipWith (fun a b => ad a (ml f b)) x.co o.co, c := ad x.c (ml f o.c) }
def vK (k sz : Nat) (acc : List (List D)) : AV := match acc with | [] => .imm .nil | _ => .ref k sz 0 acc.length
def oK (sz : Nat) (acc : List (List D)) : List AO := match acc with | [] => [] | _ => [.arr sz acc]
theorem l55 {lo : Lower} {xn on : Bool} {xc oc : List Int} {f c d e : Int} (hN : xc.length < 1000000000) : ∀ (r q : List Int) (A : List (List D)) (i : Nat), A.length = i → xc.drop i = r → oc.drop i = q → r.length = q.length →
    outC ⟨0, false⟩ [0, 0, 0, 1, 0, 0, 1, 0, 0] (rnd (aCode lo ⟨0, false⟩ b55_0) (head ⟨0, false⟩ [0, 0, 1, 1, 1, 1, 1, 1, 0])
      ⟨[.junk, .junk, .imm (.int .i64 f), .ptr 0 0, .ptr 1 0, .ptr 2 0, .ptr 3 0, .imm (.int .i64 i), .junk],
        [.box [.imm .nil, .imm (.int .i64 0)], .box [.imm (slD xn 1 (xc.map ic)), .imm (.int .i64 d)], .box [.imm (slD on 1 (oc.map ic)), .imm (.int .i64 e)], .box [vK 4 1 A, .imm (.int .i64 c)]] ++ oK 1 A, none⟩) =
      some (.exit 0, ⟨[.junk, .junk, .junk, .ptr 0 0, .junk, .junk, .ptr 1 0, .junk, .junk], [.box [.imm .nil, .imm (.int .i64 0)], .box [vK 2 1 (A ++ (List.zipWith (fun a b => ad a (ml f b)) r q).map ic), .imm (.int .i64 c)]] ++ oK 1 (A ++ (List.zipWith (fun a b => ad a (ml f b)) r q).map ic), none⟩)
  | [], q, A, i, hA, hx, hq, hl => by
    have : q = [] := by cases q <;> simp at hl ⊢
    subst this
    rw [rnd_eq]
    cases A <;> simp only [go_sem, Nat.reduceAdd, Nat.reduceSub, Nat.reduceMul, Nat.reduceDiv, Nat.reduceMod, Nat.reduceLeDiff, Nat.reduceBEq, Int.reduceToNat, Int.reduceLT, Int.reduceLE, Int.reduceEq, lt_f (drop_n hx), List.zipWith, vK, oK]
  | x :: r, [], A, i, hA, hx, hq, hl => by simp at hl
  | x :: r, y :: q, A, i, hA, hx, hq, hl => by
    obtain ⟨h1, h2, h3⟩ := drop_c hx
    obtain ⟨g1, g2, g3⟩ := drop_c hq
    have IH := l55 (lo := lo) (xn := xn) (on := on) (f := f) (c := c) (d := d) (e := e) hN r q (A ++ [ic (ad x (ml f y))]) (i + 1) (by simp [hA]) h3 g3 (by simpa using hl)
    have h6 := wrpS (i := i) (by omega)
    have h5 : (A.length + 1) * 9 ≤ 70368744177664 := by omega
    rw [rnd_eq]
    cases A with
    | nil =>
      simp only [go_sem, Nat.reduceAdd, Nat.reduceSub, Nat.reduceMul, Nat.reduceDiv, Nat.reduceMod, Nat.reduceLeDiff, Nat.reduceBEq, Int.reduceToNat, Int.reduceLT, Int.reduceLE, Int.reduceEq, vK, oK] at IH
      simp only [go_sem, Nat.reduceAdd, Nat.reduceSub, Nat.reduceMul, Nat.reduceDiv, Nat.reduceMod, Nat.reduceLeDiff, Nat.reduceBEq, Int.reduceToNat, Int.reduceLT, Int.reduceLE, Int.reduceEq, lt_t h2, h1, g1, h6, vK, oK, List.zipWith]
      exact IH
    | cons a A =>
      simp only [go_sem, Nat.reduceAdd, Nat.reduceSub, Nat.reduceMul, Nat.reduceDiv, Nat.reduceMod, Nat.reduceLeDiff, Nat.reduceBEq, Int.reduceToNat, Int.reduceLT, Int.reduceLE, Int.reduceEq] at h5
      simp only [go_sem, Nat.reduceAdd, Nat.reduceSub, Nat.reduceMul, Nat.reduceDiv, Nat.reduceMod, Nat.reduceLeDiff, Nat.reduceBEq, Int.reduceToNat, Int.reduceLT, Int.reduceLE, Int.reduceEq, vK, oK, List.append_assoc] at IH
      simp only [go_sem, Nat.reduceAdd, Nat.reduceSub, Nat.reduceMul, Nat.reduceDiv, Nat.reduceMod, Nat.reduceLeDiff, Nat.reduceBEq, Int.reduceToNat, Int.reduceLT, Int.reduceLE, Int.reduceEq, lt_t h2, h1, g1, h6, vK, oK, List.zipWith, h5]
      exact IH
theorem run55 (lo : Lower) (x o : Ln) (f : Int) (h : x.co.length = o.co.length) (hx : x.co.length < 1000000000) :
    fin [.cell 3 true 2] (aCode lo ⟨0, false⟩ c55 ⟨[.imm (.agg (enL x)), .imm (.agg (enL o)), .imm (.int .i64 f), .junk, .junk, .junk, .junk, .junk, .junk], [], none⟩) =
      some (mkAgg [vK 2 1 ((rpl f x o).co.map ic), .imm (.int .i64 (rpl f x o).c)], [.box [vK 2 1 ((rpl f x o).co.map ic), .imm (.int .i64 (rpl f x o).c)], .box [vK 2 1 ((rpl f x o).co.map ic), .imm (.int .i64 (rpl f x o).c)]] ++ oK 1 ((rpl f x o).co.map ic), none) := by
  have hl := l55 (lo := lo) (xn := x.nl) (on := o.nl) (f := f) (c := ad x.c (ml f o.c)) (d := x.c) (e := o.c) hx x.co o.co [] 0 rfl rfl rfl h
  rw [cast0] at hl
  generalize hz : (List.zipWith (fun a b => ad a (ml f b)) x.co o.co).map ic = z at hl
  have e1 : (rpl f x o).co.map ic = z := hz
  rw [e1]
  cases z with
  | nil =>
    simp only [go_sem, Nat.reduceAdd, Nat.reduceSub, Nat.reduceMul, Nat.reduceDiv, Nat.reduceMod, Nat.reduceLeDiff, Nat.reduceBEq, Int.reduceToNat, Int.reduceLT, Int.reduceLE, Int.reduceEq, vK, oK, ad, ml] at hl
    simp only [go_sem, Nat.reduceAdd, Nat.reduceSub, Nat.reduceMul, Nat.reduceDiv, Nat.reduceMod, Nat.reduceLeDiff, Nat.reduceBEq, Int.reduceToNat, Int.reduceLT, Int.reduceLE, Int.reduceEq, sg_slD, hl, vK, oK, rpl, ad, ml]
  | cons a z =>
    simp only [go_sem, Nat.reduceAdd, Nat.reduceSub, Nat.reduceMul, Nat.reduceDiv, Nat.reduceMod, Nat.reduceLeDiff, Nat.reduceBEq, Int.reduceToNat, Int.reduceLT, Int.reduceLE, Int.reduceEq, vK, oK, ad, ml] at hl
    simp only [go_sem, Nat.reduceAdd, Nat.reduceSub, Nat.reduceMul, Nat.reduceDiv, Nat.reduceMod, Nat.reduceLeDiff, Nat.reduceBEq, Int.reduceToNat, Int.reduceLT, Int.reduceLE, Int.reduceEq, sg_slD, hl, vK, oK, rpl, ad, ml]
theorem ok55I (n : Nat) (x o : Ln) (f : Int) (h : x.co.length = o.co.length) (hx : x.co.length < 1000000000) : callI (level E (n+1)) 55 [.agg (enL x), .agg (enL o), .int .i64 f] = some (mkAgg [vK 0 1 ((rpl f x o).co.map ic), .imm (.int .i64 (rpl f x o).c)], oK 1 ((rpl f x o).co.map ic)) := by
  rw [i55, run55 _ x o f h hx]
  cases hz : (rpl f x o).co with
  | nil => simp only [go_sem, Nat.reduceAdd, Nat.reduceSub, Nat.reduceMul, Nat.reduceDiv, Nat.reduceMod, Nat.reduceLeDiff, Nat.reduceBEq, Int.reduceToNat, Int.reduceLT, Int.reduceLE, Int.reduceEq, vK, oK]
  | cons a z => simp only [go_sem, Nat.reduceAdd, Nat.reduceSub, Nat.reduceMul, Nat.reduceDiv, Nat.reduceMod, Nat.reduceLeDiff, Nat.reduceBEq, Int.reduceToNat, Int.reduceLT, Int.reduceLE, Int.reduceEq, vK, oK]
def rlft : Ln → List Ln → List Int → Ln
  | x, g :: gs, k :: ks => rlft (rpl (sb 0 k) x g) gs ks
  | x, _, _ => x
theorem l56_0 {n : Nat} {c : Cl} {y : Stp} (hc : c.Even) : ∀ (r : List Ln) (q : List Int) (x : Ln) (i : Nat), c.gv.drop i = r → y.gv.drop i = q → r.length ≤ q.length → x.nl = true → x.co.length = c.sp.length →
    outC ⟨0, false⟩ [0, 0, 0, 1, 1, 1, 0, 0, 0, 0, 0] (rnd (aCode (level E (n+1)) ⟨0, false⟩ b56_0) (head ⟨0, false⟩ [0, 0, 0, 1, 1, 1, 1, 0, 0, 0, 0])
      ⟨[.junk, .junk, .junk, .ptr 0 0, .ptr 1 0, .ptr 2 0, .imm (.int .i64 i), .junk, .junk, .junk, .junk],
        [.box ((enC c).map .imm), .box ((enT y).map .imm), .box [vK 3 1 (x.co.map ic), .imm (.int .i64 x.c)]] ++ oK 1 (x.co.map ic), none⟩) =
      some (.exit 0, ⟨[.junk, .junk, .junk, .ptr 0 0, .ptr 1 0, .ptr 2 0, .junk, .junk, .junk, .junk, .junk], [.box ((enC c).map .imm), .box ((enT y).map .imm), .box [vK 3 1 ((rlft x r q).co.map ic), .imm (.int .i64 (rlft x r q).c)]] ++ oK 1 ((rlft x r q).co.map ic), none⟩)
  | [], q, x, i, hr, hq, hl, hn, hx => by
    rw [rnd_eq]
    obtain ⟨xn, xc, xd⟩ := x
    cases xc <;> simp only [go_sem, Nat.reduceAdd, Nat.reduceSub, Nat.reduceMul, Nat.reduceDiv, Nat.reduceMod, Nat.reduceLeDiff, Nat.reduceBEq, Int.reduceToNat, Int.reduceLT, Int.reduceLE, Int.reduceEq, lt_f (drop_n hr), rlft, vK, oK]
  | g :: r, [], x, i, hr, hq, hl, hn, hx => by simp at hl
  | g :: r, k :: q, x, i, hr, hq, hl, hn, hx => by
    obtain ⟨h1, h2, h3⟩ := drop_c hr
    obtain ⟨q1, q2, q3⟩ := drop_c hq
    have hg := hc.gv g (List.mem_of_getElem? h1)
    have hb := hc.fit.sp
    have hb2 := hc.fit.gv
    have h55 := ok55I n x g (sb 0 k) (by omega) (by omega)
    have hz : (rpl (sb 0 k) x g).co.length = c.sp.length := by simp only [rpl, List.length_zipWith, hx, hg]; simp
    have IH := l56_0 (n := n) (y := y) hc r q (rpl (sb 0 k) x g) (i + 1) h3 q3 (by simpa using hl) rfl hz
    have h6 := wrpS (i := i) (by omega)
    have e1 : rlft x (g :: r) (k :: q) = rlft (rpl (sb 0 k) x g) r q := rfl
    rw [rnd_eq, e1]
    generalize rpl (sb 0 k) x g = w at h55 hz IH
    obtain ⟨xn, xc, xd⟩ := x
    obtain ⟨wn, wc, wd⟩ := w
    simp only at hn
    subst hn
    cases xc with
    | nil =>
      have : wc = [] := List.eq_nil_of_length_eq_zero (by simp at hx hz; omega)
      subst this
      simp only [go_sem, Nat.reduceAdd, Nat.reduceSub, Nat.reduceMul, Nat.reduceDiv, Nat.reduceMod, Nat.reduceLeDiff, Nat.reduceBEq, Int.reduceToNat, Int.reduceLT, Int.reduceLE, Int.reduceEq, vK, oK, slD_nil, sb] at h55 IH
      simp only [go_sem, Nat.reduceAdd, Nat.reduceSub, Nat.reduceMul, Nat.reduceDiv, Nat.reduceMod, Nat.reduceLeDiff, Nat.reduceBEq, Int.reduceToNat, Int.reduceLT, Int.reduceLE, Int.reduceEq, lt_t h2, h1, q1, h6, vK, oK, h55]
      exact IH
    | cons a xc =>
      have hxl : xc.length + 1 = c.sp.length := by simpa using hx
      cases wc with
      | nil => simp at hz; omega
      | cons b wc =>
        simp only [go_sem, Nat.reduceAdd, Nat.reduceSub, Nat.reduceMul, Nat.reduceDiv, Nat.reduceMod, Nat.reduceLeDiff, Nat.reduceBEq, Int.reduceToNat, Int.reduceLT, Int.reduceLE, Int.reduceEq, vK, oK, slD_cons, sb] at h55 IH
        simp only [go_sem, Nat.reduceAdd, Nat.reduceSub, Nat.reduceMul, Nat.reduceDiv, Nat.reduceMod, Nat.reduceLeDiff, Nat.reduceBEq, Int.reduceToNat, Int.reduceLT, Int.reduceLE, Int.reduceEq, lt_t h2, h1, q1, h6, vK, oK, h55]
        exact IH
def rrX (x l h : Int) : Int := ad (sb x l) h
def rrC (c l h : Int) (s : Sp) : Int := sb (ad c (ml l s.lo)) (ml h s.hi)
def rrg : List Int → List Int → List Int → List Sp → Int → Option Int
  | x :: xs, l :: ls, h :: hs, s :: ss, c => if rrX x l h = 0 then rrg xs ls hs ss (rrC c l h s) else none
  | _, _, _, _, c => some c
theorem l56_1 {lo : Lower} {c : Cl} {y : Stp} {N : Nat} (hN : c.sp.length = N) (hb : N < 1000000000) : ∀ (r : List Sp) (x lw hg A : List Int) (d : Int) (i : Nat), A.length = i → c.sp.drop i = r → x.length = r.length → y.lw.drop i = lw → y.hg.drop i = hg → lw.length = r.length → hg.length = r.length →
    ∃ (st' : List (List D)) (d2 : Int), outC ⟨0, false⟩ [0, 0, 1, 0, 1, 1, 0, 0, 0, 0, 0] (rnd (aCode lo ⟨0, false⟩ b56_1) (head ⟨0, false⟩ [0, 0, 0, 1, 1, 1, 0, 1, 0, 0, 0])
      ⟨[.junk, .junk, .junk, .ptr 0 0, .ptr 1 0, .ptr 2 0, .junk, .imm (.int .i64 i), .junk, .junk, .junk],
        [.box ((enC c).map .imm), .box ((enT y).map .imm), .box [.ref 3 1 0 N, .imm (.int .i64 d)], .arr 1 (A.map ic ++ x.map ic)], none⟩) =
      some (match rrg x lw hg r d with
        | some d' => (.exit 2, ⟨[.junk, .junk, .junk, .junk, .ptr 0 0, .ptr 1 0, .junk, .junk, .junk, .junk, .junk], [.box ((enT y).map .imm), .box [.ref 2 1 0 N, .imm (.int .i64 d')], .arr 1 st'], none⟩)
        | none => (.ret, ⟨[.junk, .junk, .imm (.bool false), .junk, .ptr 0 0, .ptr 1 0, .junk, .junk, .junk, .junk, .junk], [.box ((enT y).map .imm), .box [.ref 2 1 0 N, .imm (.int .i64 d2)], .arr 1 st'], none⟩))
  | [], x, lw, hg, A, d, i, hA, hs, hx, hlw, hhg, el, eh => by
    have : x = [] := List.eq_nil_of_length_eq_zero (by simpa using hx)
    subst this
    have hd := drop_n hs
    refine ⟨A.map ic, 0, ?_⟩
    rw [rnd_eq]
    simp only [go_sem, Nat.reduceAdd, Nat.reduceSub, Nat.reduceMul, Nat.reduceDiv, Nat.reduceMod, Nat.reduceLeDiff, Nat.reduceBEq, Int.reduceToNat, Int.reduceLT, Int.reduceLE, Int.reduceEq, hN, lt_f (show N ≤ i by omega), rrg]
  | s :: r, x, lw, hg, A, d, i, hA, hs, hx, hlw, hhg, el, eh => by
    obtain ⟨h1, h2, h3⟩ := drop_c hs
    have h6 := wrpS (i := i) (by omega)
    have hlt : i < N := by omega
    have hlt' : (i : Int) < (N : Int) := by omega
    have hA' : (A.map ic).length = i := by simpa using hA
    match x, lw, hg, hx, el, eh, hlw, hhg with
    | x0 :: x, l0 :: lw, g0 :: hg, hx, el, eh, hlw, hhg =>
      obtain ⟨l1, l2, l3⟩ := drop_c hlw
      obtain ⟨g1, g2, g3⟩ := drop_c hhg
      by_cases h0 : rrX x0 l0 g0 = 0
      · obtain ⟨st', d2, IH⟩ := l56_1 (lo := lo) (y := y) hN hb r x lw hg (A ++ [rrX x0 l0 g0]) (rrC d l0 g0 s) (i + 1) (by simp [hA]) h3 (by simpa using hx) l3 g3 (by simpa using el) (by simpa using eh)
        refine ⟨st', d2, ?_⟩
        rw [rnd_eq]
        simp only [rrg, if_pos h0]
        simp only [rrX, rrC, ad, sb, ml] at IH h0 ⊢
        simp only [go_sem, Nat.reduceAdd, Nat.reduceSub, Nat.reduceMul, Nat.reduceDiv, Nat.reduceMod, Nat.reduceLeDiff, Nat.reduceBEq, Int.reduceToNat, Int.reduceLT, Int.reduceLE, Int.reduceEq, List.append_assoc] at IH
        simp only [go_sem, Nat.reduceAdd, Nat.reduceSub, Nat.reduceMul, Nat.reduceDiv, Nat.reduceMod, Nat.reduceLeDiff, Nat.reduceBEq, Int.reduceToNat, Int.reduceLT, Int.reduceLE, Int.reduceEq, hN, lt_t hlt, h1, l1, g1, hlt', Int.natCast_nonneg, Nat.mul_one, Nat.div_one, Nat.mod_one, getA hA', setA hA', h6, h0, ne_eq, not_true_eq_false]
        simp only [h0] at IH
        exact IH
      · refine ⟨A.map ic ++ (rrX x0 l0 g0 :: x).map ic, rrC d l0 g0 s, ?_⟩
        rw [rnd_eq]
        simp only [rrg, if_neg h0]
        simp only [rrX, rrC, ad, sb, ml] at h0 ⊢
        simp only [go_sem, Nat.reduceAdd, Nat.reduceSub, Nat.reduceMul, Nat.reduceDiv, Nat.reduceMod, Nat.reduceLeDiff, Nat.reduceBEq, Int.reduceToNat, Int.reduceLT, Int.reduceLE, Int.reduceEq, hN, lt_t hlt, h1, l1, g1, hlt', Int.natCast_nonneg, Nat.mul_one, Nat.div_one, Nat.mod_one, getA hA', setA hA', h6, h0, ne_eq, not_false_eq_true]
def rleft (y : Stp) (c : Cl) : Ln := rlft (rpl y.goal ⟨false, List.replicate c.sp.length 0, 0⟩ c.go) c.gv y.gv
theorem rlft_len {N : Nat} : ∀ (gs : List Ln) (ks : List Int) (x : Ln), x.co.length = N → (∀ g ∈ gs, g.co.length = N) → (rlft x gs ks).co.length = N
  | [], ks, x, hx, _ => by cases ks <;> simpa [rlft] using hx
  | g :: gs, [], x, hx, _ => by simpa [rlft] using hx
  | g :: gs, k :: ks, x, hx, hg => by
    simp only [rlft]
    refine rlft_len gs ks _ ?_ fun a ha => hg a (by simp [ha])
    simp only [rpl, List.length_zipWith, hx, hg g (by simp)]; simp
def rright (y : Stp) (c : Cl) : Bool := match rrg (rleft y c).co y.lw y.hg c.sp (rleft y c).c with | some d => decide (sb 0 y.goal < d) | none => false
theorem ok56 (n : Nat) (y : Stp) (c : Cl) (hc : c.Even) (hy : c.gv.length ≤ y.gv.length) (hl : y.lw.length = c.sp.length) (hh : y.hg.length = c.sp.length) : callP (level E (n+2)) 56 [.agg (enC c), .agg (enT y)] = some (.bool (rright y c)) := by
  have hb := hc.fit.sp
  have hz0 : (rpl y.goal ⟨false, List.replicate c.sp.length 0, 0⟩ c.go).co.length = c.sp.length := by simp only [rpl, List.length_zipWith, hc.go]; simp
  have hll : (rleft y c).co.length = c.sp.length := rlft_len c.gv y.gv _ hz0 hc.gv
  obtain ⟨N, hN⟩ : ∃ N, N = c.sp.length := ⟨_, rfl⟩
  have h53 := ok53 n c.sp.length hb
  have h55 := ok55I n ⟨false, List.replicate c.sp.length 0, 0⟩ c.go y.goal (by simp [hc.go]) (by simpa using hb)
  have h0 := l56_0 (n := n) (c := c) (y := y) hc c.gv y.gv (rpl y.goal ⟨false, List.replicate c.sp.length 0, 0⟩ c.go) 0 rfl rfl hy rfl hz0
  obtain ⟨st', d2, h1⟩ := l56_1 (lo := level E (n+1)) (c := c) (y := y) hN.symm (by omega) c.sp (rleft y c).co y.lw y.hg [] (rleft y c).c 0 rfl rfl hll rfl rfl hl hh
  have er : rlft (rpl y.goal ⟨false, List.replicate c.sp.length 0, 0⟩ c.go) c.gv y.gv = rleft y c := rfl
  rw [er] at h0
  rw [cast0] at h0 h1
  rw [p56]
  unfold rright
  generalize rpl y.goal ⟨false, List.replicate c.sp.length 0, 0⟩ c.go = w at h55 hz0 h0
  generalize rleft y c = z at h0 h1 hll
  obtain ⟨wn, wc, wd⟩ := w
  obtain ⟨zn, zc, zd⟩ := z
  simp only at hz0 hll
  by_cases hsp : c.sp = []
  · rw [hsp] at hz0 hll
    have e1 : wc = [] := List.eq_nil_of_length_eq_zero hz0
    have e2 : zc = [] := List.eq_nil_of_length_eq_zero hll
    subst e1; subst e2
    simp only [go_sem, Nat.reduceAdd, Nat.reduceSub, Nat.reduceMul, Nat.reduceDiv, Nat.reduceMod, Nat.reduceLeDiff, Nat.reduceBEq, Int.reduceToNat, Int.reduceLT, Int.reduceLE, Int.reduceEq, hsp, vK, oK, slD_f, slD_nil] at h53 h55 h0
    have u := rnd_eq (aCode (level E (n+1)) ⟨0, false⟩ b56_1)
    simp only [go_sem, Nat.reduceAdd, Nat.reduceSub, Nat.reduceMul, Nat.reduceDiv, Nat.reduceMod, Nat.reduceLeDiff, Nat.reduceBEq, Int.reduceToNat, Int.reduceLT, Int.reduceLE, Int.reduceEq, sg_slD, hsp, h53, h55, h0, u, Int.lt_irrefl, rrg, sb] <;> rfl
  · have hpos : c.sp.length ≠ 0 := fun h => hsp (List.eq_nil_of_length_eq_zero h)
    cases wc with
    | nil => simp at hz0; omega
    | cons w1 wc =>
      cases zc with
      | nil => simp at hll; omega
      | cons z1 zc =>
        have e3 : wc.length + 1 = N := by simp at hz0; omega
        have e4 : zc.length + 1 = N := by simp at hll; omega
        simp only [go_sem, Nat.reduceAdd, Nat.reduceSub, Nat.reduceMul, Nat.reduceDiv, Nat.reduceMod, Nat.reduceLeDiff, Nat.reduceBEq, Int.reduceToNat, Int.reduceLT, Int.reduceLE, Int.reduceEq, ← hN, vK, oK, slD_f, e3, e4] at h53 h55 h0
        simp only [go_sem, Nat.reduceAdd, Nat.reduceSub, Nat.reduceMul, Nat.reduceDiv, Nat.reduceMod, Nat.reduceLeDiff, Nat.reduceBEq, Int.reduceToNat, Int.reduceLT, Int.reduceLE, Int.reduceEq] at h1
        cases hr : rrg (z1 :: zc) y.lw y.hg c.sp zd with
        | none =>
          simp only [hr] at h1
          simp only [go_sem, Nat.reduceAdd, Nat.reduceSub, Nat.reduceMul, Nat.reduceDiv, Nat.reduceMod, Nat.reduceLeDiff, Nat.reduceBEq, Int.reduceToNat, Int.reduceLT, Int.reduceLE, Int.reduceEq, sg_slD, ← hN, h53, h55, h0, h1] <;> rfl
        | some d =>
          simp only [hr] at h1
          simp only [go_sem, Nat.reduceAdd, Nat.reduceSub, Nat.reduceMul, Nat.reduceDiv, Nat.reduceMod, Nat.reduceLeDiff, Nat.reduceBEq, Int.reduceToNat, Int.reduceLT, Int.reduceLE, Int.reduceEq, sg_slD, ← hN, h53, h55, h0, h1, sb] <;> rfl
end Go.Vm.P12

/- Chapter 12, the reference's functions: the direct leaf. -/
set_option maxRecDepth 100000
namespace Go.Vm.P12
open Go Go.Vm
def zBox : AO := .box [.imm (.bool false), .imm (.int .i64 0), .imm .nil, .imm .nil, .imm .nil, .imm (.int .i64 0), .imm (.int .i64 0), .imm (.int .i64 0), .imm (.int .i64 0)]
attribute [go_sem] zBox
end Go.Vm.P12

/- Evaluating: calls that share blocks; copies. -/
namespace Go.Vm
open Go
section
variable {lo : Lower} {env vars vs : List AV} {st st2 : List AO} {ext : Option Ext} {f : FuncId} {l : List Nat} {n i j m : Nat} {v : AV} {p q : List AV}
def bkM (l : List Nat) (n : Nat) (j : Nat) : Option Nat := if j < l.length then l[j]? else some (n + (j - l.length))
def bk2 (l : List Nat) (n j : Nat) (b : Bool) : Option Nat := match b with | true => l[j]? | false => some (n + (j - l.length))
theorem bk_eq : bkM l n j = bk2 l n j (decide (j < l.length)) := by
  simp only [bkM, bk2]
  by_cases h : j < l.length <;> simp [h]
theorem bk_t : bk2 l n j true = l[j]? := id rfl
theorem bk_f : bk2 l n j false = some (n + (j - l.length)) := id rfl
def siC (m : Nat → Option Nat) (st2 st : List AO) (i : Nat) (o : Option Nat) : AO := match o with | some j => renO m (st2.getD j .dead) | none => st.getD i .dead
theorem si_some {m : Nat → Option Nat} : siC m st2 st i (some j) = renO m (st2.getD j .dead) := id rfl
theorem si_none {m : Nat → Option Nat} : siC m st2 st i none = st.getD i .dead := id rfl
def cuC (vars : List AV) (st : List AO) (l : List Nat) (r : Option (AV × List AO)) : Option (AV × S) := match r with
  | some (v, st2) => some (ren (bkM l st.length) v, ⟨vars, (List.range st.length).map (fun i => siC (bkM l st.length) st2 st i (idx l i)) ++ (st2.drop l.length).map (renO (bkM l st.length)), none⟩)
  | none => none
theorem cu_some : cuC vars st l (some (v, st2)) = some (ren (bkM l st.length) v, ⟨vars, (List.range st.length).map (fun i => siC (bkM l st.length) st2 st i (idx l i)) ++ (st2.drop l.length).map (renO (bkM l st.length)), none⟩) := id rfl
def csC (lo : Lower) (f : FuncId) (vars : List AV) (st : List AO) (all : List AV) (l : List Nat) (ok : Bool) : Option (AV × S) := match ok with
  | true => cuC vars st l (callS lo f (renL (idx l) all) (pickSt (idx l) l st))
  | false => none
theorem cs_true {all : List AV} : csC lo f vars st all l true = cuC vars st l (callS lo f (renL (idx l) all) (pickSt (idx l) l st)) := id rfl
def crC (lo : Lower) (vars : List AV) (st : List AO) (f : FuncId) (all : List AV) (l : List Nat) : Option (AV × S) := csC lo f vars st all l (l.all fun i => decide (i < st.length))
theorem cr_eq {all : List AV} : crC lo vars st f all l = csC lo f vars st all l (l.all fun i => decide (i < st.length)) := id rfl
def cwC (lo : Lower) (vars : List AV) (st : List AO) (vs : List AV) (r : Option (FuncId × List AV × List AV)) : Option (AV × S) := match r with
  | none => none
  | some (f, a, b) => crC lo vars st f (a ++ vs ++ b) (reach st 1000 [] (idsL (a ++ vs ++ b)))
theorem cw_some : cwC lo vars st vs (some (f, p, q)) = crC lo vars st f (p ++ vs ++ q) (reach st 1000 [] (idsL (p ++ vs ++ q))) := id rfl
theorem op_callS {fo : Opnd} {args : List Opnd} (h : (fnOf (opnd vars env fo)).isSome = true) : aOp lo vars env ⟨vars, st, none⟩ (.call .sh fo args) = cwC lo vars st (opnds vars env args) (fnOf (opnd vars env fo)) := by
  simp only [aOp, aCall]
  split
  · rename_i e; rw [e] at h; cases h
  · simp only [cwC]
    rcases fnOf (opnd vars env fo) with _ | ⟨f, a, b⟩
    · rfl
    · simp only [crC, Option.isSome_none, Bool.false_or]
      cases ha : (reach st 1000 [] (idsL (a ++ opnds vars env args ++ b))).all (fun i => decide (i < st.length))
      · simp only [Bool.not_false, if_true, csC]
      · simp only [Bool.not_true, Bool.false_eq_true, if_false, csC, cuC]
        rcases callS lo f (renL (idx (reach st 1000 [] (idsL (a ++ opnds vars env args ++ b)))) (a ++ opnds vars env args ++ b)) (pickSt (idx (reach st 1000 [] (idsL (a ++ opnds vars env args ++ b)))) (reach st 1000 [] (idsL (a ++ opnds vars env args ++ b))) st) with _ | ⟨v, st2⟩
        · rfl
        · rfl
theorem callS_go {E : Env} {n : Nat} {f : FuncId} {fn : IFn} {c : IR} {r : List RV} {vars : List AV} (h : E.fn f = some fn) (h1 : fn.body = c) (h2 : fn.res = r) (h3 : decide (fn.np < vs.length) = false) (h4 : vs ++ List.replicate (fn.nv - vs.length) .junk = vars) :
    callS (level E (n + 1)) f vs st = psC st.length (fin r (aCode (level E n) ⟨st.length, false⟩ c ⟨vars, st, none⟩)) := by
  rw [callS_eq h, run_eq h3, h1, h2, h4]
def coK (st : List AO) (vars : List AV) (ext : Option Ext) (id sz a n : Nat) (es : List (List D)) (o : Option AO) : Option (AV × S) := match o with
  | some (.arr sz1 old) => if sz1 = sz ∧ a + n ≤ old.length then some (.imm (.int .i64 (min es.length n : Nat)), ⟨vars, st.set id (.arr sz (Vm.setRange old a (es.take (min es.length n)))), ext⟩) else none
  | some (.box cs) => if (a + n) * sz ≤ cs.length ∧ (es.take (min es.length n)).flatten.length = (min es.length n) * sz then some (.imm (.int .i64 (min es.length n : Nat)), ⟨vars, st.set id (.box (Vm.setRange cs (a * sz) ((es.take (min es.length n)).flatten.map .imm))), ext⟩) else none
  | _ => none
def coC (st : List AO) (vars : List AV) (ext : Option Ext) (sz : Nat) (d : AV) (r : Option (Nat × List (List D))) : Option (AV × S) := match d, r with
  | .ref id sz1 a n, some (sz2, es) => if sz1 = sz ∧ (es = [] ∨ sz2 = sz) then coK st vars ext id sz a n es st[id]? else none
  | .imm .nil, some _ => some (.imm (.int .i64 0), ⟨vars, st, ext⟩)
  | .e0 _, some _ => some (.imm (.int .i64 0), ⟨vars, st, ext⟩)
  | _, _ => none
theorem op_copy {sz : Nat} {d x : Opnd} : aOp lo vars env ⟨vars, st, ext⟩ (.copy sz d x) = coC st vars ext sz (opnd vars env d) (srcOf st (opnd vars env x)) := by
  simp only [aOp, coC]
  cases opnd vars env d with
  | ref id sz1 a n =>
    rcases srcOf st (opnd vars env x) with _ | ⟨sz2, es⟩
    · rfl
    · simp only
      by_cases h : sz1 = sz ∧ (es = [] ∨ sz2 = sz)
      · simp only [h, and_self, if_true, coK]
        rcases st[id]? with _ | o
        · rfl
        · cases o <;> rfl
      · simp only [h, if_false]
  | imm d => cases d <;> rcases srcOf st (opnd vars env x) with _ | ⟨sz2, es⟩ <;> rfl
  | _ => rcases srcOf st (opnd vars env x) with _ | ⟨sz2, es⟩ <;> rfl
theorem co_ref {id sz a : Nat} {es : List (List D)} : coC st vars ext sz (.ref id sz a n) (some (sz, es)) = coK st vars ext id sz a n es st[id]? := by simp [coC]
theorem co_ref0 {id sz a : Nat} : coC st vars ext sz (.ref id sz a n) (some (m, [])) = coK st vars ext id sz a n [] st[id]? := by simp [coC]
theorem ck_arr {id sz a : Nat} {es old : List (List D)} (h : a + n ≤ old.length) : coK st vars ext id sz a n es (some (.arr sz old)) = some (.imm (.int .i64 (min es.length n : Nat)), ⟨vars, st.set id (.arr sz (Vm.setRange old a (es.take (min es.length n)))), ext⟩) := by simp [coK, h]
theorem mf_none' {f : FuncId} {x y : List AV} {p : Option (List D)} : mfC f x y none p = .clo f x y := id rfl
end
attribute [go_sem] mf_none' bk_eq bk_t bk_f si_some si_none cu_some cs_true cr_eq cw_some op_callS op_copy co_ref co_ref0 ck_arr ps_some
end Go.Vm

/- Chapter 12, functions: the decision. -/
set_option maxRecDepth 100000
namespace Go.Vm.P12
open Go Go.Vm
structure DR where
  t : Nat
  st : List Stp
  ok : Bool
  pt : List Int
  e : Int
def shr1 (a : Int) : Int := a.fdiv 2
def splitOf (v : Nat) (b k0 k1 : Int) : Stp := ⟨false, 0, true, [], true, [], true, [], v, b, k0, k1⟩
def dec : Nat → Nat → Cl → List Stp → DR
  | 0, t, _, st => ⟨t, st, false, [], 30⟩
  | _ + 1, 0, _, st => ⟨0, st, false, [], 30⟩
  | f + 1, t + 1, c, st => match dir c with
    | some s => ⟨t, st ++ [s], true, [], 0⟩
    | none => match (wid c.sp).2 with
      | false => ⟨t, st, false, c.sp.map (·.lo), 0⟩
      | true =>
        let v := (wid c.sp).1
        let s := c.sp.getD v ⟨0, 0⟩
        let b := shr1 (ad s.lo s.hi)
        let r1 := dec f t (nar c v ⟨s.lo, b⟩) st
        match r1.ok with
        | false => ⟨r1.t, r1.st, false, r1.pt, r1.e⟩
        | true =>
          let r2 := dec f r1.t (nar c v ⟨ad b 1, s.hi⟩) r1.st
          match r2.ok with
          | false => ⟨r2.t, r2.st, false, r2.pt, r2.e⟩
          | true => ⟨r2.t, r2.st ++ [splitOf v b (sb r1.st.length 1) (sb r2.st.length 1)], true, [], 0⟩
theorem dec_inv : ∀ (f t : Nat) (c : Cl) (st : List Stp), (dec f t c st).t ≤ t ∧ (dec f t c st).st.length + (dec f t c st).t ≤ st.length + t ∧ (∃ z, (dec f t c st).st = st ++ z) ∧ ((dec f t c st).ok = true → st.length < (dec f t c st).st.length)
  | 0, t, c, st => by simp [dec]
  | f + 1, 0, c, st => by simp [dec]
  | f + 1, t + 1, c, st => by
    simp only [dec]
    cases dir c with
    | some s => simp <;> omega
    | none =>
      simp only
      cases (wid c.sp).2
      · simp <;> omega
      · simp only
        obtain ⟨a1, a2, ⟨z1, a3⟩, a4⟩ := dec_inv f t (nar c (wid c.sp).1 ⟨(c.sp.getD (wid c.sp).1 ⟨0, 0⟩).lo, shr1 (ad (c.sp.getD (wid c.sp).1 ⟨0, 0⟩).lo (c.sp.getD (wid c.sp).1 ⟨0, 0⟩).hi)⟩) st
        generalize dec f t (nar c (wid c.sp).1 ⟨(c.sp.getD (wid c.sp).1 ⟨0, 0⟩).lo, shr1 (ad (c.sp.getD (wid c.sp).1 ⟨0, 0⟩).lo (c.sp.getD (wid c.sp).1 ⟨0, 0⟩).hi)⟩) st = r1 at a1 a2 a3 a4
        cases h1 : r1.ok
        · simp only
          exact ⟨by omega, by omega, ⟨z1, a3⟩, fun h => by cases h⟩
        · simp only
          obtain ⟨b1, b2, ⟨z2, b3⟩, b4⟩ := dec_inv f r1.t (nar c (wid c.sp).1 ⟨ad (shr1 (ad (c.sp.getD (wid c.sp).1 ⟨0, 0⟩).lo (c.sp.getD (wid c.sp).1 ⟨0, 0⟩).hi)) 1, (c.sp.getD (wid c.sp).1 ⟨0, 0⟩).hi⟩) r1.st
          generalize dec f r1.t (nar c (wid c.sp).1 ⟨ad (shr1 (ad (c.sp.getD (wid c.sp).1 ⟨0, 0⟩).lo (c.sp.getD (wid c.sp).1 ⟨0, 0⟩).hi)) 1, (c.sp.getD (wid c.sp).1 ⟨0, 0⟩).hi⟩) r1.st = r2 at b1 b2 b3 b4
          cases h2 : r2.ok
          · simp only
            exact ⟨by omega, by omega, ⟨z1 ++ z2, by rw [b3, a3]; simp⟩, fun h => by cases h⟩
          · simp only [List.length_append, List.length_singleton]
            have := a4 h1
            have := b4 h2
            exact ⟨by omega, by omega, ⟨_, by rw [b3, a3, List.append_assoc, List.append_assoc]⟩, fun _ => by omega⟩
theorem wids_lt (l : List Sp) : ∀ (r : List Sp) (i : Nat) (st : Nat × Bool), l.drop i = r → (st.2 = true → st.1 < l.length) → (wids l r i st).2 = true → (wids l r i st).1 < l.length
  | [], i, st, h, hst, hw => hst hw
  | s :: r, i, st, h, hst, hw => by
    obtain ⟨h1, h2, h3⟩ := drop_c h
    refine wids_lt l r (i + 1) _ h3 ?_ hw
    split
    · intro _; exact h2
    · exact hst
theorem wid_lt {l : List Sp} (h : (wid l).2 = true) : (wid l).1 < l.length := wids_lt l l 0 _ rfl (by simp) h
theorem nar_even {c : Cl} (hc : c.Even) (v : Nat) (s : Sp) : (nar c v s).Even :=
  ⟨⟨by simpa [nar] using hc.fit.sp, hc.fit.gv, hc.fit.ln, hc.fit.go⟩, fun g hg => by rw [hc.gv g hg]; simp [nar], by rw [show (nar c v s).go = c.go from rfl, hc.go]; simp [nar]⟩
def stD (t : Nat) (st : List Stp) : List AO := match st with
  | [] => [.box [.imm (.int .i64 t), .imm .nil]]
  | _ => [.box [.imm (.int .i64 t), .ref 1 9 0 st.length], .arr 9 (st.map enT)]
def rsD (st : List Stp) (r : DR) : List AO := match st with
  | [] => stD r.t r.st
  | _ => if r.st.length = st.length then stD r.t st else [.box [.imm (.int .i64 r.t), .ref 2 9 0 r.st.length], .dead, .arr 9 (r.st.map enT)]
def rsV (r : DR) : AV := .imm (.tup [.bool r.ok, slD true 1 (r.pt.map ic), .int .i64 r.e])
theorem ok60 (n : Nat) : ∀ (f t : Nat) (c : Cl) (st : List Stp), c.Even → st.length + t < 1000000000 → t ≤ f →
    callS (level E (n + f + 9)) 60 [.ptr 0 0, .imm (.agg (enC c))] (stD t st) = some (rsV (dec f t c st), rsD st (dec f t c st))
  | 0, t, c, st, hc, hb, ht => by
    have : t = 0 := by omega
    subst this
    rw [callS_go (n := n + 0 + 8) (fn := ir60) (c := c60) (r := [.v 2, .v 3, .v 4]) rfl rfl rfl rfl rfl]
    cases st <;> simp only [go_sem, Nat.reduceAdd, Nat.reduceSub, Nat.reduceMul, Nat.reduceDiv, Nat.reduceMod, Nat.reduceLeDiff, Nat.reduceLT, Nat.reduceBEq, Int.reduceToNat, Int.reduceLT, Int.reduceLE, Int.reduceEq, stD, ir60, sg_slD, dec, rsV, rsD, slD_nil]
  | f + 1, 0, c, st, hc, hb, ht => by
    rw [callS_go (n := n + (f + 1) + 8) (fn := ir60) (c := c60) (r := [.v 2, .v 3, .v 4]) rfl rfl rfl rfl rfl]
    cases st <;> simp only [go_sem, Nat.reduceAdd, Nat.reduceSub, Nat.reduceMul, Nat.reduceDiv, Nat.reduceMod, Nat.reduceLeDiff, Nat.reduceLT, Nat.reduceBEq, Int.reduceToNat, Int.reduceLT, Int.reduceLE, Int.reduceEq, stD, ir60, sg_slD, dec, rsV, rsD, slD_nil]
  | f + 1, t + 1, c, st, hc, hb, ht => by
    have h52 : callP (level E (n + f + 9)) 52 [.agg (enC c)] = some (dirD c) := ok52 (n + f + 1) c hc
    have h84 : callP (level E (n + f + 9)) 84 [slD c.sn 2 (c.sp.map enS)] = some (.tup [.int .i64 (wid c.sp).1, .bool (wid c.sp).2]) := ok84 (n + f + 8) c.sn c.sp hc.fit.sp
    have e0 : ¬ ((t + 1 : Nat) : Int) = 0 := by omega
    have e1 : wrp .i64 (((t + 1 : Nat) : Int) - 1) = (t : Int) := by rw [wrp_ok (by omega)]; omega
    rw [show n + (f + 1) + 9 = n + f + 9 + 1 by omega, callS_go (n := n + f + 9) (fn := ir60) (c := c60) (r := [.v 2, .v 3, .v 4]) rfl rfl rfl rfl rfl]
    simp only [dec]
    unfold dirD at h52
    cases hd : dir c with
    | some s =>
      rw [hd] at h52
      simp only [go_sem, Nat.reduceAdd, Nat.reduceSub, Nat.reduceMul, Nat.reduceDiv, Nat.reduceMod, Nat.reduceLeDiff, Nat.reduceLT, Nat.reduceBEq, Int.reduceToNat, Int.reduceLT, Int.reduceLE, Int.reduceEq] at h52
      cases st with
      | nil => simp only [go_sem, Nat.reduceAdd, Nat.reduceSub, Nat.reduceMul, Nat.reduceDiv, Nat.reduceMod, Nat.reduceLeDiff, Nat.reduceLT, Nat.reduceBEq, Int.reduceToNat, Int.reduceLT, Int.reduceLE, Int.reduceEq, stD, ir60, sg_slD, e0, e1, h52, rsV, rsD, slD_nil]
      | cons a st =>
        have h5 : (st.length + 1 + 1) * 121 ≤ 70368744177664 := by simp at hb; omega
        have hne : ¬ (st.length + 1 + 1 = st.length + 1) := by omega
        simp only [go_sem, Nat.reduceAdd, Nat.reduceSub, Nat.reduceMul, Nat.reduceDiv, Nat.reduceMod, Nat.reduceLeDiff, Nat.reduceLT, Nat.reduceBEq, Int.reduceToNat, Int.reduceLT, Int.reduceLE, Int.reduceEq, stD, ir60, sg_slD, e0, e1, h52, rsV, rsD, slD_nil, h5, hne]
    | none =>
      rw [hd] at h52
      simp only [go_sem, Nat.reduceAdd, Nat.reduceSub, Nat.reduceMul, Nat.reduceDiv, Nat.reduceMod, Nat.reduceLeDiff, Nat.reduceLT, Nat.reduceBEq, Int.reduceToNat, Int.reduceLT, Int.reduceLE, Int.reduceEq, zSt, slD_nil] at h52
      cases hw : (wid c.sp).2 with
      | false =>
        rw [hw] at h84
        have h85 : callP (level E (n + f + 9)) 85 [slD c.sn 2 (c.sp.map enS), .fn 86 [] []] = some (slD true 1 ((c.sp.map (·.lo)).map ic)) := ok85 (n + f + 8) c.sn c.sp 86 [] _ (fun x _ => ok86 (n + f + 7) x) hc.fit.sp
        cases st <;> simp only [go_sem, Nat.reduceAdd, Nat.reduceSub, Nat.reduceMul, Nat.reduceDiv, Nat.reduceMod, Nat.reduceLeDiff, Nat.reduceLT, Nat.reduceBEq, Int.reduceToNat, Int.reduceLT, Int.reduceLE, Int.reduceEq, stD, ir60, sg_slD, slD_nil, e0, e1, h52, h84, h85, rsV, rsD]
      | true =>
        rw [hw] at h84
        have hv := wid_lt hw
        obtain ⟨v, hve⟩ : ∃ v, v = (wid c.sp).1 := ⟨_, rfl⟩
        rw [← hve] at h84 hv ⊢
        obtain ⟨s, hs⟩ : ∃ s, c.sp[v]? = some s := ⟨c.sp[v], List.getElem?_eq_getElem hv⟩
        have hg : c.sp.getD v ⟨0, 0⟩ = s := by rw [List.getD_eq_getElem?_getD, hs]; rfl
        rw [hg]
        have hsh : ∀ a : Int, aBin .shr (.imm (.int .i64 a)) (.imm (.int .u64 1)) = some (.imm (.int .i64 (shr1 a))) := fun a => by rw [bin_shr (by decide)]; rfl
        have had : wrp .i64 (s.lo + s.hi) = ad s.lo s.hi := rfl
        obtain ⟨b, hb0⟩ : ∃ b, b = shr1 (ad s.lo s.hi) := ⟨_, rfl⟩
        have h87 : callP (level E (n + f + 9)) 87 [.agg (enC c), .int .i64 v, .int .i64 b] = some (.agg (enC (nar c v ⟨s.lo, b⟩) ++ enC (nar c v ⟨ad b 1, s.hi⟩))) := ok87 (n + f + 6) c v s b hs hc.fit.sp
        rw [← hb0]
        obtain ⟨c0, hc0⟩ : ∃ c0, c0 = nar c v ⟨s.lo, b⟩ := ⟨_, rfl⟩
        obtain ⟨c1, hc1⟩ : ∃ c1, c1 = nar c v ⟨ad b 1, s.hi⟩ := ⟨_, rfl⟩
        have ev0 : c0.Even := hc0 ▸ nar_even hc _ _
        have ev1 : c1.Even := hc1 ▸ nar_even hc _ _
        rw [← hc0, ← hc1] at h87
        rw [← hc0, ← hc1]
        have IH1 := ok60 n f t c0 st ev0 (by omega) (by omega)
        obtain ⟨i1, i2, ⟨z1, i3⟩, i4⟩ := dec_inv f t c0 st
        generalize dec f t c0 st = r1 at IH1 i1 i2 i3 i4
        obtain ⟨t1, st1, ok1, pt1, er1⟩ := r1
        simp only at i1 i2 i3 i4
        have IH2 := ok60 n f t1 c1 st1 ev1 (by omega) (by omega)
        obtain ⟨j1, j2, ⟨z2, j3⟩, j4⟩ := dec_inv f t1 c1 st1
        generalize dec f t1 c1 st1 = r2 at IH2 j1 j2 j3 j4
        obtain ⟨t2, st2, ok2, pt2, er2⟩ := r2
        simp only at j1 j2 j3 j4
        have u := rnd_eq (aCode (level E (n + f + 9)) ⟨1, false⟩ b60_0)
        have u' := rnd_eq (aCode (level E (n + f + 9)) ⟨2, false⟩ b60_0)
        have k0 : (0 : Int) < ((2 : Nat) : Int) := by decide
        have k1 : (1 : Int) < ((2 : Nat) : Int) := by decide
        simp only [go_sem, Nat.reduceAdd, Nat.reduceSub, Nat.reduceMul, Nat.reduceDiv, Nat.reduceMod, Nat.reduceLeDiff, Nat.reduceLT, Nat.reduceBEq, Int.reduceToNat, Int.reduceLT, Int.reduceLE, Int.reduceEq] at h87
        simp only [go_sem, Nat.reduceAdd, Nat.reduceSub, Nat.reduceMul, Nat.reduceDiv, Nat.reduceMod, Nat.reduceLeDiff, Nat.reduceLT, Nat.reduceBEq, Int.reduceToNat, Int.reduceLT, Int.reduceLE, Int.reduceEq, rsV] at IH1 IH2
        cases st with
        | nil =>
          simp only [stD, rsD] at IH1
          simp only [List.length_nil] at hb i2 i4
          cases ok1
          · cases st1 with
            | nil =>
              simp only [go_sem, Nat.reduceAdd, Nat.reduceSub, Nat.reduceMul, Nat.reduceDiv, Nat.reduceMod, Nat.reduceLeDiff, Nat.reduceLT, Nat.reduceBEq, Int.reduceToNat, Int.reduceLT, Int.reduceLE, Int.reduceEq, stD] at IH1
              simp only [go_sem, Nat.reduceAdd, Nat.reduceSub, Nat.reduceMul, Nat.reduceDiv, Nat.reduceMod, Nat.reduceLeDiff, Nat.reduceLT, Nat.reduceBEq, Int.reduceToNat, Int.reduceLT, Int.reduceLE, Int.reduceEq, stD, ir60, sg_slD, slD_nil, e0, e1, h52, h84, hs, hsh, had, ← hb0, h87, u, k0, k1, IH1, rsV, rsD]
            | cons a1 st1 =>
              simp only [go_sem, Nat.reduceAdd, Nat.reduceSub, Nat.reduceMul, Nat.reduceDiv, Nat.reduceMod, Nat.reduceLeDiff, Nat.reduceLT, Nat.reduceBEq, Int.reduceToNat, Int.reduceLT, Int.reduceLE, Int.reduceEq, stD] at IH1
              simp only [go_sem, Nat.reduceAdd, Nat.reduceSub, Nat.reduceMul, Nat.reduceDiv, Nat.reduceMod, Nat.reduceLeDiff, Nat.reduceLT, Nat.reduceBEq, Int.reduceToNat, Int.reduceLT, Int.reduceLE, Int.reduceEq, stD, ir60, sg_slD, slD_nil, e0, e1, h52, h84, hs, hsh, had, ← hb0, h87, u, k0, k1, IH1, rsV, rsD]
          · cases st1 with
            | nil => simp at i4
            | cons a1 st1 =>
              simp only [go_sem, Nat.reduceAdd, Nat.reduceSub, Nat.reduceMul, Nat.reduceDiv, Nat.reduceMod, Nat.reduceLeDiff, Nat.reduceLT, Nat.reduceBEq, Int.reduceToNat, Int.reduceLT, Int.reduceLE, Int.reduceEq, stD] at IH1
              simp only [rsD] at IH2
              by_cases hl : st2.length = (a1 :: st1).length
              · have hok : ok2 = false := by
                  cases ok2
                  · rfl
                  · have := j4 rfl; omega
                subst hok
                have hz : st2 = a1 :: st1 := by
                  have : z2 = [] := by
                    have := congrArg List.length j3
                    rw [List.length_append] at this
                    exact List.length_eq_zero_iff.1 (by omega)
                  rw [j3, this, List.append_nil]
                subst hz
                simp only [if_true] at IH2
                simp only [go_sem, Nat.reduceAdd, Nat.reduceSub, Nat.reduceMul, Nat.reduceDiv, Nat.reduceMod, Nat.reduceLeDiff, Nat.reduceLT, Nat.reduceBEq, Int.reduceToNat, Int.reduceLT, Int.reduceLE, Int.reduceEq, stD] at IH2
                simp only [go_sem, Nat.reduceAdd, Nat.reduceSub, Nat.reduceMul, Nat.reduceDiv, Nat.reduceMod, Nat.reduceLeDiff, Nat.reduceLT, Nat.reduceBEq, Int.reduceToNat, Int.reduceLT, Int.reduceLE, Int.reduceEq, stD, ir60, sg_slD, slD_nil, e0, e1, h52, h84, hs, hsh, had, ← hb0, h87, u, k0, k1, IH1, IH2, rsV, rsD]
              · rw [if_neg hl] at IH2
                simp only [go_sem, Nat.reduceAdd, Nat.reduceSub, Nat.reduceMul, Nat.reduceDiv, Nat.reduceMod, Nat.reduceLeDiff, Nat.reduceLT, Nat.reduceBEq, Int.reduceToNat, Int.reduceLT, Int.reduceLE, Int.reduceEq, stD] at IH2
                have h5 : (st2.length + 1) * 121 ≤ 70368744177664 := by omega
                cases ok2
                · simp only [go_sem, Nat.reduceAdd, Nat.reduceSub, Nat.reduceMul, Nat.reduceDiv, Nat.reduceMod, Nat.reduceLeDiff, Nat.reduceLT, Nat.reduceBEq, Int.reduceToNat, Int.reduceLT, Int.reduceLE, Int.reduceEq, stD, ir60, sg_slD, slD_nil, e0, e1, h52, h84, hs, hsh, had, ← hb0, h87, u, k0, k1, IH1, IH2, rsV, rsD]
                  subst j3
                  rfl
                · simp only [go_sem, Nat.reduceAdd, Nat.reduceSub, Nat.reduceMul, Nat.reduceDiv, Nat.reduceMod, Nat.reduceLeDiff, Nat.reduceLT, Nat.reduceBEq, Int.reduceToNat, Int.reduceLT, Int.reduceLE, Int.reduceEq, stD, ir60, sg_slD, slD_nil, e0, e1, h52, h84, hs, hsh, had, ← hb0, h87, u, k0, k1, IH1, IH2, h5, rsV, rsD]
                  subst j3
                  simp [splitOf, enT, stD, sb, slD_nil]
        | cons a st =>
          by_cases hl1 : st1.length = (a :: st).length
          · have hok : ok1 = false := by
              cases ok1
              · rfl
              · have := i4 rfl; omega
            subst hok
            have hz : st1 = a :: st := by
              have : z1 = [] := by
                have := congrArg List.length i3
                rw [List.length_append] at this
                exact List.length_eq_zero_iff.1 (by omega)
              rw [i3, this, List.append_nil]
            subst hz
            simp only [rsD, if_true] at IH1
            simp only [go_sem, Nat.reduceAdd, Nat.reduceSub, Nat.reduceMul, Nat.reduceDiv, Nat.reduceMod, Nat.reduceLeDiff, Nat.reduceLT, Nat.reduceBEq, Int.reduceToNat, Int.reduceLT, Int.reduceLE, Int.reduceEq, stD] at IH1
            simp only [go_sem, Nat.reduceAdd, Nat.reduceSub, Nat.reduceMul, Nat.reduceDiv, Nat.reduceMod, Nat.reduceLeDiff, Nat.reduceLT, Nat.reduceBEq, Int.reduceToNat, Int.reduceLT, Int.reduceLE, Int.reduceEq, stD, ir60, sg_slD, slD_nil, e0, e1, h52, h84, hs, hsh, had, ← hb0, h87, u', k0, k1, IH1, rsV, rsD]
          · simp only [rsD, if_neg hl1] at IH1
            cases ok1
            · simp only [go_sem, Nat.reduceAdd, Nat.reduceSub, Nat.reduceMul, Nat.reduceDiv, Nat.reduceMod, Nat.reduceLeDiff, Nat.reduceLT, Nat.reduceBEq, Int.reduceToNat, Int.reduceLT, Int.reduceLE, Int.reduceEq, stD] at IH1
              simp only [go_sem, Nat.reduceAdd, Nat.reduceSub, Nat.reduceMul, Nat.reduceDiv, Nat.reduceMod, Nat.reduceLeDiff, Nat.reduceLT, Nat.reduceBEq, Int.reduceToNat, Int.reduceLT, Int.reduceLE, Int.reduceEq, stD, ir60, sg_slD, slD_nil, e0, e1, h52, h84, hs, hsh, had, ← hb0, h87, u', k0, k1, IH1, rsV, rsD]
              rw [if_neg (by simpa using hl1)]
            · cases st1 with
              | nil => simp at i4
              | cons a1 st1 =>
                simp only [go_sem, Nat.reduceAdd, Nat.reduceSub, Nat.reduceMul, Nat.reduceDiv, Nat.reduceMod, Nat.reduceLeDiff, Nat.reduceLT, Nat.reduceBEq, Int.reduceToNat, Int.reduceLT, Int.reduceLE, Int.reduceEq, stD] at IH1
                simp only [rsD] at IH2
                by_cases hl : st2.length = (a1 :: st1).length
                · have hok : ok2 = false := by
                    cases ok2
                    · rfl
                    · have := j4 rfl; omega
                  subst hok
                  have hz : st2 = a1 :: st1 := by
                    have : z2 = [] := by
                      have := congrArg List.length j3
                      rw [List.length_append] at this
                      exact List.length_eq_zero_iff.1 (by omega)
                    rw [j3, this, List.append_nil]
                  subst hz
                  simp only [if_true] at IH2
                  simp only [go_sem, Nat.reduceAdd, Nat.reduceSub, Nat.reduceMul, Nat.reduceDiv, Nat.reduceMod, Nat.reduceLeDiff, Nat.reduceLT, Nat.reduceBEq, Int.reduceToNat, Int.reduceLT, Int.reduceLE, Int.reduceEq, stD] at IH2
                  simp only [go_sem, Nat.reduceAdd, Nat.reduceSub, Nat.reduceMul, Nat.reduceDiv, Nat.reduceMod, Nat.reduceLeDiff, Nat.reduceLT, Nat.reduceBEq, Int.reduceToNat, Int.reduceLT, Int.reduceLE, Int.reduceEq, stD, ir60, sg_slD, slD_nil, e0, e1, h52, h84, hs, hsh, had, ← hb0, h87, u', k0, k1, IH1, IH2, rsV, rsD]
                  rw [if_neg (by simpa using hl1)]
                · rw [if_neg hl] at IH2
                  simp only [go_sem, Nat.reduceAdd, Nat.reduceSub, Nat.reduceMul, Nat.reduceDiv, Nat.reduceMod, Nat.reduceLeDiff, Nat.reduceLT, Nat.reduceBEq, Int.reduceToNat, Int.reduceLT, Int.reduceLE, Int.reduceEq, stD] at IH2
                  have h5 : (st2.length + 1) * 121 ≤ 70368744177664 := by omega
                  cases ok2
                  · simp only [go_sem, Nat.reduceAdd, Nat.reduceSub, Nat.reduceMul, Nat.reduceDiv, Nat.reduceMod, Nat.reduceLeDiff, Nat.reduceLT, Nat.reduceBEq, Int.reduceToNat, Int.reduceLT, Int.reduceLE, Int.reduceEq, stD, ir60, sg_slD, slD_nil, e0, e1, h52, h84, hs, hsh, had, ← hb0, h87, u', k0, k1, IH1, IH2, rsV, rsD]
                    have hne : ¬ st2.length = st.length + 1 := by
                      have := congrArg List.length j3
                      have := i4 rfl
                      simp only [List.length_append] at *
                      simp only [List.length_cons] at *
                      omega
                    rw [if_neg hne]
                  · simp only [go_sem, Nat.reduceAdd, Nat.reduceSub, Nat.reduceMul, Nat.reduceDiv, Nat.reduceMod, Nat.reduceLeDiff, Nat.reduceLT, Nat.reduceBEq, Int.reduceToNat, Int.reduceLT, Int.reduceLE, Int.reduceEq, stD, ir60, sg_slD, slD_nil, e0, e1, h52, h84, hs, hsh, had, ← hb0, h87, u', k0, k1, IH1, IH2, h5, rsV, rsD]
                    have hne : ¬ st2.length + 1 = st.length + 1 := by
                      have := j4 rfl
                      have := i4 rfl
                      simp only [List.length_cons] at *
                      omega
                    rw [if_neg hne]
                    simp [splitOf, sb, slD_nil]
end Go.Vm.P12

/- Chapter 12, functions: the program's Decide. -/
set_option maxRecDepth 100000
namespace Go.Vm.P12
open Go Go.Vm
def decE (c : Cl) (t : Int) : Int := fnz [clErr c, if offB t 1 400 then 3 else 0]
def dcD (c : Cl) (t : Int) : D := if decE c t = 0 then
    let r := dec t.toNat t.toNat c []
    if r.ok then .tup [.agg [slD false 9 (r.st.map enT)], .nil, .bool true, .int .i64 0] else .tup [.agg [.nil], slD true 1 (r.pt.map ic), .bool false, .int .i64 r.e]
  else .tup [.agg [.nil], .nil, .bool false, .int .i64 (decE c t)]
theorem ck_all {st : List AO} {vars : List AV} {ext : Option Ext} {id sz n : Nat} {es old : List (List D)} (h1 : old.length = n) (h2 : es.length = n) : coK st vars ext id sz 0 n es (some (.arr sz old)) = some (.imm (.int .i64 n), ⟨vars, st.set id (.arr sz es), ext⟩) := by
  rw [ck_arr (by omega)]
  have h3 : List.drop n old = [] := List.drop_eq_nil_of_le (by omega)
  have h4 : List.take n es = es := List.take_of_length_le (by omega)
  simp [Vm.setRange, h2, h3, h4]
theorem ok15 (n : Nat) (c : Cl) (t : Int) (hf : c.Fit) : callP (level E (n + 410)) 15 [.agg (enC c), .int .i64 t] = some (dcD c t) := by
  have h28 := ok28 (n + 401) c hf
  have h59 := ok59 (n + 408) t 1 400
  have h58 := ok58 (n + 408) (offB t 1 400) 3
  have h57 := ok57_2 (n + 408) (clErr c) (if offB t 1 400 then 3 else 0)
  have he : decE c t = fnz [clErr c, if offB t 1 400 then 3 else 0] := rfl
  rw [← he] at h57
  rw [p15]
  simp only [go_sem, Nat.reduceAdd, Nat.reduceSub, Nat.reduceMul, Nat.reduceDiv, Nat.reduceMod, Nat.reduceLeDiff, Nat.reduceLT, Nat.reduceBEq, Int.reduceToNat, Int.reduceLT, Int.reduceLE, Int.reduceEq] at h28 h59 h58 h57
  by_cases h0 : decE c t = 0
  · have hcl : clErr c = 0 ∧ offB t 1 400 = false := by
      rw [he] at h0
      simp only [fnz] at h0
      by_cases h1 : clErr c = 0
      · rw [h1] at h0
        refine ⟨h1, ?_⟩
        cases ho : offB t 1 400
        · rfl
        · rw [ho] at h0; simp at h0
      · simp [h1] at h0
    have hb : 1 ≤ t ∧ t ≤ 400 := by
      have := hcl.2
      simp only [offB, Bool.or_eq_false_iff, decide_eq_false_iff_not] at this
      omega
    have hev := clErr_even hf hcl.1
    obtain ⟨k, hk⟩ : ∃ k : Nat, t = k := ⟨t.toNat, by omega⟩
    subst hk
    have IH := ok60 (n + 400 - k) k k c [] hev (by simp; omega) (Nat.le_refl k)
    rw [show n + 400 - k + k + 9 = n + 409 by omega] at IH
    obtain ⟨i1, i2, ⟨z1, i3⟩, i4⟩ := dec_inv k k c []
    simp only [dcD, if_pos h0, Int.toNat_natCast]
    generalize dec k k c [] = r1 at IH i1 i2 i3 i4
    obtain ⟨t1, st1, ok1, pt1, er1⟩ := r1
    simp only [List.length_nil] at i1 i2 i3 i4
    simp only [stD, rsD] at IH
    cases st1 with
    | nil =>
      cases ok1
      · simp only [go_sem, Nat.reduceAdd, Nat.reduceSub, Nat.reduceMul, Nat.reduceDiv, Nat.reduceMod, Nat.reduceLeDiff, Nat.reduceLT, Nat.reduceBEq, Int.reduceToNat, Int.reduceLT, Int.reduceLE, Int.reduceEq, stD, rsV] at IH
        simp only [go_sem, Nat.reduceAdd, Nat.reduceSub, Nat.reduceMul, Nat.reduceDiv, Nat.reduceMod, Nat.reduceLeDiff, Nat.reduceLT, Nat.reduceBEq, Int.reduceToNat, Int.reduceLT, Int.reduceLE, Int.reduceEq, h28, h59, h58, h57, h0, IH, ne_eq, not_true_eq_false, not_false_eq_true]
      · simp at i4
    | cons a1 st1 =>
      simp only [go_sem, Nat.reduceAdd, Nat.reduceSub, Nat.reduceMul, Nat.reduceDiv, Nat.reduceMod, Nat.reduceLeDiff, Nat.reduceLT, Nat.reduceBEq, Int.reduceToNat, Int.reduceLT, Int.reduceLE, Int.reduceEq, stD, rsV] at IH
      have hl1 : ((120 : Nat) : Int) * ((st1.length + 1 : Nat) : Int) ≤ 70368744177664 := by simp at i2; omega
      cases ok1
      · simp only [go_sem, Nat.reduceAdd, Nat.reduceSub, Nat.reduceMul, Nat.reduceDiv, Nat.reduceMod, Nat.reduceLeDiff, Nat.reduceLT, Nat.reduceBEq, Int.reduceToNat, Int.reduceLT, Int.reduceLE, Int.reduceEq, h28, h59, h58, h57, h0, IH, ne_eq, not_true_eq_false, not_false_eq_true]
      · have hm0 : 0 ≤ ((st1.length + 1 : Nat) : Int) := by omega
        have hm2 : ((st1.length + 1 : Nat) : Int) ≤ 70368744177664 := by omega
        have hm3 : (((st1.length + 1 : Nat) : Int)).toNat = st1.length + 1 := by omega
        simp only [go_sem, Nat.reduceAdd, Nat.reduceSub, Nat.reduceMul, Nat.reduceDiv, Nat.reduceMod, Nat.reduceLeDiff, Nat.reduceLT, Nat.reduceBEq, Int.reduceToNat, Int.reduceLT, Int.reduceLE, Int.reduceEq, h28, h59, h58, h57, h0, IH, ne_eq, not_true_eq_false, not_false_eq_true, hl1, hm0, hm2, hm3, ck_all, List.length_replicate, List.length_cons, List.length_map]
        rfl
  · simp only [go_sem, Nat.reduceAdd, Nat.reduceSub, Nat.reduceMul, Nat.reduceDiv, Nat.reduceMod, Nat.reduceLeDiff, Nat.reduceLT, Nat.reduceBEq, Int.reduceToNat, Int.reduceLT, Int.reduceLE, Int.reduceEq, h28, h59, h58, h57, h0, dcD, ne_eq, not_true_eq_false, not_false_eq_true]
end Go.Vm.P12

/- Chapter 12, the reference: the decision. -/
set_option maxRecDepth 100000
namespace Go.Vm.P12
open Go Go.Vm
theorem ok89 (n : Nat) (c : Cl) (v : Nat) (s : Sp) (hv : v < c.sp.length) (hb : c.sp.length < 1000000000) : callP (level E (n+1)) 89 [.agg (enC c), .int .i64 v, .agg (enS s)] = some (.agg (enC (nar c v s))) := by
  obtain ⟨sn, sp, gn, gv, go⟩ := c
  simp only at hv hb
  cases sp with
  | nil => simp at hv
  | cons x sp =>
    obtain ⟨N, hN⟩ : ∃ N, N = sp.length + 1 := ⟨_, rfl⟩
    have hvN : (v : Int) < (N : Int) := by simp at hv; omega
    have hNb : N * 17 ≤ 70368744177664 := by simp at hb; omega
    have q3 : v * 2 / 2 = v := by omega
    have q4 : v * 2 % 2 = 0 := by omega
    obtain ⟨o, ho⟩ : ∃ o : Sp, (x :: sp)[v]? = some o := ⟨_, List.getElem?_eq_getElem hv⟩
    have hm : ((x :: sp).map enS)[v]? = some (enS o) := by rw [List.getElem?_map, ho]; rfl
    have z1 : (List.map enS (x :: sp)).set v [.int .i64 s.lo, .int .i64 s.hi] = ((x :: sp).set v s).map enS := by rw [List.map_set]; rfl
    have g1 : ((x :: sp).set v s).length = N := by simp [hN]
    have r1 : nar ⟨sn, x :: sp, gn, gv, go⟩ v s = ⟨false, (x :: sp).set v s, gn, gv, go⟩ := rfl
    rw [r1]
    generalize hZ1 : (x :: sp).set v s = Z1 at z1 g1
    have t1 : (Z1.map enS).take N = Z1.map enS := take_self (by simpa using g1)
    have t3 : N ≤ Z1.length := by omega
    have hZ : Z1.map enS ≠ [] := by intro h; simp at h; subst h; simp at g1; omega
    rw [p89]
    simp only [go_sem, Nat.reduceAdd, Nat.reduceSub, Nat.reduceMul, Nat.reduceDiv, Nat.reduceMod, Nat.reduceLeDiff, Nat.reduceLT, Nat.reduceBEq, Int.reduceToNat, Int.reduceLT, Int.reduceLE, Int.reduceEq] at hm z1
    simp only [go_sem, Nat.reduceAdd, Nat.reduceSub, Nat.reduceMul, Nat.reduceDiv, Nat.reduceMod, Nat.reduceLeDiff, Nat.reduceLT, Nat.reduceBEq, Int.reduceToNat, Int.reduceLT, Int.reduceLE, Int.reduceEq, slD_cons, ← hN, hvN, hNb, q3, q4, hm, z1, t1, t3, Int.natCast_nonneg, slD_f]
end Go.Vm.P12

/- Chapter 12, the reference: the decision, end. -/
set_option maxRecDepth 100000
set_option maxHeartbeats 8000000
namespace Go.Vm.P12
open Go Go.Vm
end Go.Vm.P12

/- Chapter 12, the reference: Decide. -/
set_option maxRecDepth 100000
set_option maxHeartbeats 8000000
namespace Go.Vm.P12
open Go Go.Vm
end Go.Vm.P12

/- Chapter 12, the laws: comparing, copying. -/
set_option maxRecDepth 100000
namespace Go.Vm.P12
open Go Go.Vm
def x21 (b : Bool) : AExit × S := match b with
  | true => (.exit 0, ⟨[.junk, .junk, .junk, .junk, .junk, .junk, .junk], [], none⟩)
  | false => (.ret, ⟨[.junk, .junk, .imm (.bool false), .junk, .junk, .junk, .junk], [], none⟩)
theorem l21 {lo : Lower} {b1 b2 : Bool} {l m : List Int} (hl : l.length < 4000000000) : ∀ (r r' : List Int) (i : Nat), l.drop i = r → m.drop i = r' → r.length = r'.length →
    outC ⟨0, false⟩ [0, 0, 1, 0, 0, 0, 0] (rnd (aCode lo ⟨0, false⟩ b21_0) (head ⟨0, false⟩ [1, 1, 0, 1, 0, 0, 0])
      ⟨[.imm (slD b1 1 (l.map ic)), .imm (slD b2 1 (m.map ic)), .junk, .imm (.int .i64 i), .junk, .junk, .junk], [], none⟩) = some (x21 (decide (r = r')))
  | [], r', i, h, h', hr => by
    have : r' = [] := List.length_eq_zero_iff.1 hr.symm
    subst this
    rw [rnd_eq]
    simp only [go_sem, Nat.reduceAdd, Nat.reduceSub, Nat.reduceMul, Nat.reduceDiv, Nat.reduceMod, Nat.reduceLeDiff, Nat.reduceLT, Nat.reduceBEq, Int.reduceToNat, Int.reduceLT, Int.reduceLE, Int.reduceEq, lt_f (drop_n h), x21, decide_true]
  | s :: r, [], i, h, h', hr => by simp at hr
  | s :: r, s' :: r', i, h, h', hr => by
    obtain ⟨h1, h2, h3⟩ := drop_c h
    obtain ⟨h1', h2', h3'⟩ := drop_c h'
    have h6 := wrpS (i := i) (by omega)
    rw [rnd_eq]
    by_cases hs : s = s'
    · subst hs
      have IH := l21 (lo := lo) (b1 := b1) (b2 := b2) hl r r' (i + 1) h3 h3' (by simpa using hr)
      have e : decide (s :: r = s :: r') = decide (r = r') := by simp
      simp only [go_sem, Nat.reduceAdd, Nat.reduceSub, Nat.reduceMul, Nat.reduceDiv, Nat.reduceMod, Nat.reduceLeDiff, Nat.reduceLT, Nat.reduceBEq, Int.reduceToNat, Int.reduceLT, Int.reduceLE, Int.reduceEq, lt_t h2, lt_t h2', h1, h1', h6, e, ne_eq, not_true_eq_false]
      exact IH
    · have e : decide (s :: r = s' :: r') = false := by simp [hs]
      simp only [go_sem, Nat.reduceAdd, Nat.reduceSub, Nat.reduceMul, Nat.reduceDiv, Nat.reduceMod, Nat.reduceLeDiff, Nat.reduceLT, Nat.reduceBEq, Int.reduceToNat, Int.reduceLT, Int.reduceLE, Int.reduceEq, lt_t h2, lt_t h2', h1, h1', h6, e, ne_eq, hs, not_false_eq_true, x21]
theorem ok21 (n : Nat) (b1 b2 : Bool) (l m : List Int) (hl : l.length < 4000000000) : callP (level E (n+1)) 21 [slD b1 1 (l.map ic), slD b2 1 (m.map ic)] = some (.bool (decide (l = m))) := by
  rw [p21]
  by_cases h : l.length = m.length
  · have hh := l21 (lo := level E n) (b1 := b1) (b2 := b2) (l := l) (m := m) hl l m 0 rfl rfl h
    rw [cast0] at hh
    have h' : ((l.length : Nat) : Int) = m.length := by omega
    cases hd : decide (l = m) <;> rw [hd] at hh <;> simp only [go_sem, Nat.reduceAdd, Nat.reduceSub, Nat.reduceMul, Nat.reduceDiv, Nat.reduceMod, Nat.reduceLeDiff, Nat.reduceLT, Nat.reduceBEq, Int.reduceToNat, Int.reduceLT, Int.reduceLE, Int.reduceEq, x21] at hh <;> simp only [go_sem, Nat.reduceAdd, Nat.reduceSub, Nat.reduceMul, Nat.reduceDiv, Nat.reduceMod, Nat.reduceLeDiff, Nat.reduceLT, Nat.reduceBEq, Int.reduceToNat, Int.reduceLT, Int.reduceLE, Int.reduceEq, h', ne_eq, not_true_eq_false, hh]
  · have h' : ¬ ((l.length : Nat) : Int) = m.length := by omega
    have e : decide (l = m) = false := by
      rw [decide_eq_false_iff_not]; intro e; rw [e] at h; exact h rfl
    simp only [go_sem, Nat.reduceAdd, Nat.reduceSub, Nat.reduceMul, Nat.reduceDiv, Nat.reduceMod, Nat.reduceLeDiff, Nat.reduceLT, Nat.reduceBEq, Int.reduceToNat, Int.reduceLT, Int.reduceLE, Int.reduceEq, h', ne_eq, not_false_eq_true, e]
structure Stp.Fit (s : Stp) : Prop where
  gv : s.gv.length < 4000000000
  lw : s.lw.length < 4000000000
  hg : s.hg.length < 4000000000
theorem eq_agg2 {k0 k1 j0 j1 : Int} : aEq (.agg [(0, .int), (1, .int)]) (.imm (.agg [.int .i64 k0, .int .i64 k1])) (.imm (.agg [.int .i64 j0, .int .i64 j1])) = some (decide (k0 = j0) && decide (k1 = j1)) := by
  have e0 : decide (k0 = j0) = (k0 == j0) := rfl
  have e1 : decide (k1 = j1) = (k1 == j1) := rfl
  rw [e0, e1]
  simp only [aEq, eqL, eqE, intEq, List.getElem?_cons_zero, Nat.add_zero, Nat.zero_add, List.getElem?_cons_succ, if_true]
  cases k0 == j0 <;> cases k1 == j1 <;> rfl
def x19 (b : Bool) : AExit × S := match b with
  | true => (.exit 0, ⟨[.junk, .junk, .junk, .junk, .junk, .junk, .junk, .junk, .junk], [], none⟩)
  | false => (.ret, ⟨[.junk, .junk, .imm (.bool false), .junk, .junk, .junk, .junk, .junk, .junk], [], none⟩)
end Go.Vm.P12

/- Chapter 12, the laws: copies of claims and proofs. -/
set_option maxRecDepth 100000
namespace Go.Vm.P12
open Go Go.Vm
def lnc (x : Ln) : Ln := { x with nl := false }
theorem ok25 (n : Nat) (x : Ln) (h : x.co.length < 1000000000) : callP (level E (n+1)) 25 [.agg (enL x)] = some (.agg (enL (lnc x))) := by
  obtain ⟨nl, co, c⟩ := x
  simp only at h
  rw [p25]
  cases co with
  | nil => cases nl <;> simp only [go_sem, Nat.reduceAdd, Nat.reduceSub, Nat.reduceMul, Nat.reduceDiv, Nat.reduceMod, Nat.reduceLeDiff, Nat.reduceLT, Nat.reduceBEq, Int.reduceToNat, Int.reduceLT, Int.reduceLE, Int.reduceEq, lnc, slD_nil, slD_f]
  | cons y co =>
    have h5 : (co.length + 1) * 9 ≤ 70368744177664 := by simp at h; omega
    simp only [go_sem, Nat.reduceAdd, Nat.reduceSub, Nat.reduceMul, Nat.reduceDiv, Nat.reduceMod, Nat.reduceLeDiff, Nat.reduceLT, Nat.reduceBEq, Int.reduceToNat, Int.reduceLT, Int.reduceLE, Int.reduceEq, lnc, slD_cons, h5]
theorem l36 {lo : Lower} {b : Bool} {l : List Sp} (hl : l.length < 1000000000) : ∀ (r acc : List Sp) (i : Nat), l.drop i = r → acc.length = i →
    outC ⟨0, false⟩ [0, 0, 1, 0, 0, 0, 0, 0] (rnd (aCode lo ⟨0, false⟩ b36_0) (head ⟨0, false⟩ [0, 0, 1, 0, 1, 1, 1, 0])
      ⟨[.junk, .junk, vK 0 2 (acc.map enS), .junk, .imm (slD b 2 (l.map enS)), .imm (.int .i64 l.length), .imm (.int .i64 i), .junk], oK 2 (acc.map enS), none⟩) =
      some (.exit 0, ⟨[.junk, .junk, vK 0 2 ((acc ++ r).map enS), .junk, .junk, .junk, .junk, .junk], oK 2 ((acc ++ r).map enS), none⟩)
  | [], acc, i, h, ha => by
    rw [rnd_eq]
    cases acc <;> simp only [go_sem, Nat.reduceAdd, Nat.reduceSub, Nat.reduceMul, Nat.reduceDiv, Nat.reduceMod, Nat.reduceLeDiff, Nat.reduceLT, Nat.reduceBEq, Int.reduceToNat, Int.reduceLT, Int.reduceLE, Int.reduceEq, vK, oK, lt_f (drop_n h)]
  | s :: r, acc, i, h, ha => by
    obtain ⟨h1, h2, h3⟩ := drop_c h
    have h6 := wrpS (i := i) (by omega)
    have IH := l36 (lo := lo) (b := b) hl r (acc ++ [s]) (i + 1) h3 (by simp [ha])
    rw [rnd_eq]
    cases acc with
    | nil =>
      simp only [go_sem, Nat.reduceAdd, Nat.reduceSub, Nat.reduceMul, Nat.reduceDiv, Nat.reduceMod, Nat.reduceLeDiff, Nat.reduceLT, Nat.reduceBEq, Int.reduceToNat, Int.reduceLT, Int.reduceLE, Int.reduceEq, vK, oK] at IH
      simp only [go_sem, Nat.reduceAdd, Nat.reduceSub, Nat.reduceMul, Nat.reduceDiv, Nat.reduceMod, Nat.reduceLeDiff, Nat.reduceLT, Nat.reduceBEq, Int.reduceToNat, Int.reduceLT, Int.reduceLE, Int.reduceEq, vK, oK, lt_t h2, h1, h6]
      exact IH
    | cons x acc =>
      have h5 : (acc.length + 1 + 1) * 17 ≤ 70368744177664 := by simp at ha; omega
      have e7 : acc.length + (r.length + 1) + 1 = acc.length + 1 + r.length + 1 := by omega
      have e8 : ∀ (L : List (List D)) (y : List D), List.map enS acc ++ y :: L = List.map enS acc ++ [y] ++ L := fun L y => by simp
      simp only [go_sem, Nat.reduceAdd, Nat.reduceSub, Nat.reduceMul, Nat.reduceDiv, Nat.reduceMod, Nat.reduceLeDiff, Nat.reduceLT, Nat.reduceBEq, Int.reduceToNat, Int.reduceLT, Int.reduceLE, Int.reduceEq, vK, oK] at IH
      simp only [go_sem, Nat.reduceAdd, Nat.reduceSub, Nat.reduceMul, Nat.reduceDiv, Nat.reduceMod, Nat.reduceLeDiff, Nat.reduceLT, Nat.reduceBEq, Int.reduceToNat, Int.reduceLT, Int.reduceLE, Int.reduceEq, vK, oK, lt_t h2, h1, h6, h5, e7, e8 (List.map enS r)]
      exact IH
theorem ok36 (n : Nat) (b : Bool) (l : List Sp) (hl : l.length < 1000000000) : callP (level E (n+1)) 36 [slD b 2 (l.map enS)] = some (slD true 2 (l.map enS)) := by
  have h := l36 (lo := level E n) (b := b) hl l [] 0 rfl rfl
  rw [cast0] at h
  rw [p36]
  cases l with
  | nil =>
    simp only [go_sem, Nat.reduceAdd, Nat.reduceSub, Nat.reduceMul, Nat.reduceDiv, Nat.reduceMod, Nat.reduceLeDiff, Nat.reduceLT, Nat.reduceBEq, Int.reduceToNat, Int.reduceLT, Int.reduceLE, Int.reduceEq, vK, oK] at h
    simp only [go_sem, Nat.reduceAdd, Nat.reduceSub, Nat.reduceMul, Nat.reduceDiv, Nat.reduceMod, Nat.reduceLeDiff, Nat.reduceLT, Nat.reduceBEq, Int.reduceToNat, Int.reduceLT, Int.reduceLE, Int.reduceEq, h]
    rfl
  | cons x l =>
    simp only [go_sem, Nat.reduceAdd, Nat.reduceSub, Nat.reduceMul, Nat.reduceDiv, Nat.reduceMod, Nat.reduceLeDiff, Nat.reduceLT, Nat.reduceBEq, Int.reduceToNat, Int.reduceLT, Int.reduceLE, Int.reduceEq, vK, oK] at h
    simp only [go_sem, Nat.reduceAdd, Nat.reduceSub, Nat.reduceMul, Nat.reduceDiv, Nat.reduceMod, Nat.reduceLeDiff, Nat.reduceLT, Nat.reduceBEq, Int.reduceToNat, Int.reduceLT, Int.reduceLE, Int.reduceEq, h]
    rfl
theorem l11 {n : Nat} {sp0 : D} {go : Ln} {b : Bool} {l : List Ln} (hl : l.length < 1000000000) (hx : ∀ x ∈ l, x.co.length < 1000000000) : ∀ (r acc : List Ln) (i : Nat), l.drop i = r → acc.length = i →
    outC ⟨0, false⟩ [0, 1, 0, 1, 0, 0, 0, 0, 0] (rnd (aCode (level E (n + 1)) ⟨0, false⟩ b11_0) (head ⟨0, false⟩ [0, 1, 0, 1, 0, 1, 1, 1, 0])
      ⟨[.junk, .ptr 0 0, .junk, .ptr 1 0, .junk, .imm (slD b 2 (l.map enL)), .imm (.int .i64 l.length), .imm (.int .i64 i), .junk],
       [.box [.imm .nil, .imm .nil, .imm .nil, .imm (.int .i64 0)], .box [.imm sp0, vK 2 2 (acc.map enL), .imm (slD go.nl 1 (go.co.map ic)), .imm (.int .i64 go.c)]] ++ oK 2 (acc.map enL), none⟩) =
      some (.exit 0, ⟨[.junk, .ptr 0 0, .junk, .ptr 1 0, .junk, .junk, .junk, .junk, .junk],
       [.box [.imm .nil, .imm .nil, .imm .nil, .imm (.int .i64 0)], .box [.imm sp0, vK 2 2 ((acc ++ r.map lnc).map enL), .imm (slD go.nl 1 (go.co.map ic)), .imm (.int .i64 go.c)]] ++ oK 2 ((acc ++ r.map lnc).map enL), none⟩)
  | [], acc, i, h, ha => by
    rw [rnd_eq]
    cases acc <;> simp only [go_sem, Nat.reduceAdd, Nat.reduceSub, Nat.reduceMul, Nat.reduceDiv, Nat.reduceMod, Nat.reduceLeDiff, Nat.reduceLT, Nat.reduceBEq, Int.reduceToNat, Int.reduceLT, Int.reduceLE, Int.reduceEq, vK, oK, lt_f (drop_n h)]
  | s :: r, acc, i, h, ha => by
    obtain ⟨h1, h2, h3⟩ := drop_c h
    have h6 := wrpS (i := i) (by omega)
    have h25 := ok25 n s (hx s (List.mem_of_getElem? h1))
    have IH := l11 (n := n) (sp0 := sp0) (go := go) (b := b) hl hx r (acc ++ [lnc s]) (i + 1) h3 (by simp [ha])
    rw [rnd_eq]
    simp only [go_sem, Nat.reduceAdd, Nat.reduceSub, Nat.reduceMul, Nat.reduceDiv, Nat.reduceMod, Nat.reduceLeDiff, Nat.reduceLT, Nat.reduceBEq, Int.reduceToNat, Int.reduceLT, Int.reduceLE, Int.reduceEq] at h25
    cases acc with
    | nil =>
      simp only [go_sem, Nat.reduceAdd, Nat.reduceSub, Nat.reduceMul, Nat.reduceDiv, Nat.reduceMod, Nat.reduceLeDiff, Nat.reduceLT, Nat.reduceBEq, Int.reduceToNat, Int.reduceLT, Int.reduceLE, Int.reduceEq, vK, oK] at IH
      simp only [go_sem, Nat.reduceAdd, Nat.reduceSub, Nat.reduceMul, Nat.reduceDiv, Nat.reduceMod, Nat.reduceLeDiff, Nat.reduceLT, Nat.reduceBEq, Int.reduceToNat, Int.reduceLT, Int.reduceLE, Int.reduceEq, vK, oK, lt_t h2, h1, h6, h25]
      exact IH
    | cons x acc =>
      have h5 : (acc.length + 1 + 1) * 33 ≤ 70368744177664 := by simp at ha; omega
      have e7 : acc.length + (r.length + 1) + 1 = acc.length + 1 + r.length + 1 := by omega
      have e8 : ∀ (L : List (List D)) (y : List D), List.map enL acc ++ y :: L = List.map enL acc ++ [y] ++ L := fun L y => by simp
      simp only [go_sem, Nat.reduceAdd, Nat.reduceSub, Nat.reduceMul, Nat.reduceDiv, Nat.reduceMod, Nat.reduceLeDiff, Nat.reduceLT, Nat.reduceBEq, Int.reduceToNat, Int.reduceLT, Int.reduceLE, Int.reduceEq, vK, oK] at IH
      simp only [go_sem, Nat.reduceAdd, Nat.reduceSub, Nat.reduceMul, Nat.reduceDiv, Nat.reduceMod, Nat.reduceLeDiff, Nat.reduceLT, Nat.reduceBEq, Int.reduceToNat, Int.reduceLT, Int.reduceLE, Int.reduceEq, vK, oK, lt_t h2, h1, h6, h5, h25, e7, e8 (List.map enL (List.map lnc r))]
      exact IH
def cpy (c : Cl) : Cl := ⟨true, c.sp, true, c.gv.map lnc, lnc c.go⟩
theorem ok11 (n : Nat) (c : Cl) (hf : c.Fit) : callP (level E (n+2)) 11 [.agg (enC c)] = some (.agg (enC (cpy c))) := by
  obtain ⟨sn, sp, gn, gv, go⟩ := c
  have h := l11 (n := n) (sp0 := slD true 2 (sp.map enS)) (go := lnc go) (b := gn) (l := gv) (by have := hf.gv; simp at this; omega) hf.ln gv [] 0 rfl rfl
  have h36 := ok36 n sn sp hf.sp
  have h25 := ok25 n go hf.go
  rw [cast0] at h
  rw [p11]
  simp only [go_sem, Nat.reduceAdd, Nat.reduceSub, Nat.reduceMul, Nat.reduceDiv, Nat.reduceMod, Nat.reduceLeDiff, Nat.reduceLT, Nat.reduceBEq, Int.reduceToNat, Int.reduceLT, Int.reduceLE, Int.reduceEq] at h25
  cases gv with
  | nil =>
    simp only [go_sem, Nat.reduceAdd, Nat.reduceSub, Nat.reduceMul, Nat.reduceDiv, Nat.reduceMod, Nat.reduceLeDiff, Nat.reduceLT, Nat.reduceBEq, Int.reduceToNat, Int.reduceLT, Int.reduceLE, Int.reduceEq, vK, oK] at h
    simp only [go_sem, Nat.reduceAdd, Nat.reduceSub, Nat.reduceMul, Nat.reduceDiv, Nat.reduceMod, Nat.reduceLeDiff, Nat.reduceLT, Nat.reduceBEq, Int.reduceToNat, Int.reduceLT, Int.reduceLE, Int.reduceEq, h, h36, h25, cpy]
    rfl
  | cons x l =>
    simp only [go_sem, Nat.reduceAdd, Nat.reduceSub, Nat.reduceMul, Nat.reduceDiv, Nat.reduceMod, Nat.reduceLeDiff, Nat.reduceLT, Nat.reduceBEq, Int.reduceToNat, Int.reduceLT, Int.reduceLE, Int.reduceEq, vK, oK] at h
    simp only [go_sem, Nat.reduceAdd, Nat.reduceSub, Nat.reduceMul, Nat.reduceDiv, Nat.reduceMod, Nat.reduceLeDiff, Nat.reduceLT, Nat.reduceBEq, Int.reduceToNat, Int.reduceLT, Int.reduceLE, Int.reduceEq, h, h36, h25, cpy]
    rfl
def x9 (b : Bool) : AExit × S := match b with
  | true => (.exit 0, ⟨[.junk, .junk, .junk, .junk, .junk, .junk, .junk], [], none⟩)
  | false => (.ret, ⟨[.junk, .imm (.bool false), .junk, .junk, .junk, .junk, .junk], [], none⟩)
def shortLn (x : Ln) : Bool := decide (x.co.length ≤ 8)
theorem l9 {n : Nat} {c : Cl} (hl : c.gv.length < 1000000000) : ∀ (r : List Ln) (i : Nat), c.gv.drop i = r →
    outC ⟨0, false⟩ [0, 1, 0, 0, 0, 0, 0] (rnd (aCode (level E (n + 1)) ⟨0, false⟩ b9_0) (head ⟨0, false⟩ [0, 0, 1, 1, 0, 0, 0])
      ⟨[.junk, .junk, .ptr 0 0, .imm (.int .i64 i), .junk, .junk, .junk], [.box ((enC c).map .imm)], none⟩) = some (x9 (r.all shortLn))
  | [], i, h => by
    rw [rnd_eq]
    simp only [go_sem, Nat.reduceAdd, Nat.reduceSub, Nat.reduceMul, Nat.reduceDiv, Nat.reduceMod, Nat.reduceLeDiff, Nat.reduceLT, Nat.reduceBEq, Int.reduceToNat, Int.reduceLT, Int.reduceLE, Int.reduceEq, lt_f (drop_n h), x9, List.all_nil]
  | s :: r, i, h => by
    obtain ⟨h1, h2, h3⟩ := drop_c h
    have h6 := wrpS (i := i) (by omega)
    have h51 := ok51 n s.nl s.co s.c
    have IH := l9 (n := n) (c := c) hl r (i + 1) h3
    rw [rnd_eq]
    simp only [go_sem, Nat.reduceAdd, Nat.reduceSub, Nat.reduceMul, Nat.reduceDiv, Nat.reduceMod, Nat.reduceLeDiff, Nat.reduceLT, Nat.reduceBEq, Int.reduceToNat, Int.reduceLT, Int.reduceLE, Int.reduceEq] at IH
    cases hs : decide (s.co.length ≤ 8)
    · rw [hs] at h51
      have e : (s :: r).all shortLn = false := by simp only [List.all_cons, shortLn, hs, Bool.false_and]
      simp only [go_sem, Nat.reduceAdd, Nat.reduceSub, Nat.reduceMul, Nat.reduceDiv, Nat.reduceMod, Nat.reduceLeDiff, Nat.reduceLT, Nat.reduceBEq, Int.reduceToNat, Int.reduceLT, Int.reduceLE, Int.reduceEq, lt_t h2, h1, h6, h51, e, x9]
    · rw [hs] at h51
      have e : (s :: r).all shortLn = r.all shortLn := by simp only [List.all_cons, shortLn, hs, Bool.true_and]
      simp only [go_sem, Nat.reduceAdd, Nat.reduceSub, Nat.reduceMul, Nat.reduceDiv, Nat.reduceMod, Nat.reduceLeDiff, Nat.reduceLT, Nat.reduceBEq, Int.reduceToNat, Int.reduceLT, Int.reduceLE, Int.reduceEq, lt_t h2, h1, h6, h51, e]
      exact IH
def short (c : Cl) : Bool := decide (c.sp.length ≤ 8 ∧ (c.gv.length ≤ 4 ∨ c.gv.length = 13)) && shortLn c.go && c.gv.all shortLn
theorem ok9 (n : Nat) (c : Cl) : callP (level E (n+2)) 9 [.agg (enC c)] = some (.bool (short c)) := by
  have h51 := ok51 n c.go.nl c.go.co c.go.c
  have eg : decide (c.go.co.length ≤ 8) = shortLn c.go := rfl
  rw [p9]
  unfold short
  by_cases a1 : (8 : Int) < ((c.sp.length : Nat) : Int)
  · have e : decide (c.sp.length ≤ 8 ∧ (c.gv.length ≤ 4 ∨ c.gv.length = 13)) = false := decide_eq_false (by omega)
    simp only [go_sem, Nat.reduceAdd, Nat.reduceSub, Nat.reduceMul, Nat.reduceDiv, Nat.reduceMod, Nat.reduceLeDiff, Nat.reduceLT, Nat.reduceBEq, Int.reduceToNat, Int.reduceLT, Int.reduceLE, Int.reduceEq, a1, e, Bool.false_and]
  · by_cases a2 : (4 : Int) < ((c.gv.length : Nat) : Int)
    · by_cases a3 : ((c.gv.length : Nat) : Int) = 13
      · have e : decide (c.sp.length ≤ 8 ∧ (c.gv.length ≤ 4 ∨ c.gv.length = 13)) = true := decide_eq_true (by omega)
        have h := l9 (n := n) (c := c) (by omega) c.gv 0 rfl
        rw [cast0] at h
        have b1 : (4 : Int) < 13 := by decide
        cases hg : shortLn c.go <;> rw [hg] at eg <;> rw [eg] at h51
        · simp only [go_sem, Nat.reduceAdd, Nat.reduceSub, Nat.reduceMul, Nat.reduceDiv, Nat.reduceMod, Nat.reduceLeDiff, Nat.reduceLT, Nat.reduceBEq, Int.reduceToNat, Int.reduceLT, Int.reduceLE, Int.reduceEq, a1, a3, b1, h51, e, ne_eq, not_true_eq_false, Bool.and_false, Bool.false_and, Bool.true_and]
        · cases ha : c.gv.all shortLn <;> rw [ha] at h <;> simp only [go_sem, Nat.reduceAdd, Nat.reduceSub, Nat.reduceMul, Nat.reduceDiv, Nat.reduceMod, Nat.reduceLeDiff, Nat.reduceLT, Nat.reduceBEq, Int.reduceToNat, Int.reduceLT, Int.reduceLE, Int.reduceEq, x9] at h <;>
          simp only [go_sem, Nat.reduceAdd, Nat.reduceSub, Nat.reduceMul, Nat.reduceDiv, Nat.reduceMod, Nat.reduceLeDiff, Nat.reduceLT, Nat.reduceBEq, Int.reduceToNat, Int.reduceLT, Int.reduceLE, Int.reduceEq, a1, a3, b1, h51, h, e, ne_eq, not_true_eq_false, Bool.and_false, Bool.false_and, Bool.true_and]
      · have e : decide (c.sp.length ≤ 8 ∧ (c.gv.length ≤ 4 ∨ c.gv.length = 13)) = false := decide_eq_false (by omega)
        simp only [go_sem, Nat.reduceAdd, Nat.reduceSub, Nat.reduceMul, Nat.reduceDiv, Nat.reduceMod, Nat.reduceLeDiff, Nat.reduceLT, Nat.reduceBEq, Int.reduceToNat, Int.reduceLT, Int.reduceLE, Int.reduceEq, a1, a2, a3, e, ne_eq, not_false_eq_true, Bool.false_and]
    · have e : decide (c.sp.length ≤ 8 ∧ (c.gv.length ≤ 4 ∨ c.gv.length = 13)) = true := decide_eq_true (by omega)
      have h := l9 (n := n) (c := c) (by omega) c.gv 0 rfl
      rw [cast0] at h
      cases hg : shortLn c.go <;> rw [hg] at eg <;> rw [eg] at h51
      · simp only [go_sem, Nat.reduceAdd, Nat.reduceSub, Nat.reduceMul, Nat.reduceDiv, Nat.reduceMod, Nat.reduceLeDiff, Nat.reduceLT, Nat.reduceBEq, Int.reduceToNat, Int.reduceLT, Int.reduceLE, Int.reduceEq, a1, a2, h51, e, Bool.and_false, Bool.false_and, Bool.true_and]
      · cases ha : c.gv.all shortLn <;> rw [ha] at h <;> simp only [go_sem, Nat.reduceAdd, Nat.reduceSub, Nat.reduceMul, Nat.reduceDiv, Nat.reduceMod, Nat.reduceLeDiff, Nat.reduceLT, Nat.reduceBEq, Int.reduceToNat, Int.reduceLT, Int.reduceLE, Int.reduceEq, x9] at h <;>
        simp only [go_sem, Nat.reduceAdd, Nat.reduceSub, Nat.reduceMul, Nat.reduceDiv, Nat.reduceMod, Nat.reduceLeDiff, Nat.reduceLT, Nat.reduceBEq, Int.reduceToNat, Int.reduceLT, Int.reduceLE, Int.reduceEq, a1, a2, h51, h, e, Bool.and_false, Bool.false_and, Bool.true_and]
end Go.Vm.P12

/- Chapter 12, functions: least values, refuting. -/
set_option maxRecDepth 100000
namespace Go.Vm.P12
open Go Go.Vm
def exs (g : Bool) : List Int → List Sp → Int → Int
  | x :: r, s :: t, a => exs g r t (ad a (ml x (if decide (0 < x) = g then s.hi else s.lo)))
  | _, _, a => a
theorem b00 : (false == false) = true := rfl
theorem b01 : (false == true) = false := rfl
theorem b10 : (true == false) = false := rfl
theorem b11 : (true == true) = true := rfl
theorem l80 {lo : Lower} {b1 b2 g : Bool} {co : List Int} {sp : List Sp} (hl : co.length ≤ sp.length) (hb : co.length < 1000000000) : ∀ (r : List Int) (t : List Sp) (i : Nat) (a : Int), co.drop i = r → sp.drop i = t →
    outC ⟨0, false⟩ [0, 0, 0, 0, 0, 1, 0, 0, 0, 0, 0, 0, 0, 0] (rnd (aCode lo ⟨0, false⟩ b80_0) (head ⟨0, false⟩ [0, 1, 1, 0, 0, 1, 0, 0, 0, 1, 1, 1, 0, 0])
      ⟨[.junk, .imm (slD b2 2 (sp.map enS)), .imm (.bool g), .junk, .junk, .imm (.int .i64 a), .junk, .junk, .junk, .imm (slD b1 1 (co.map ic)), .imm (.int .i64 co.length), .imm (.int .i64 i), .junk, .junk], [], none⟩) =
      some (.exit 0, ⟨[.junk, .junk, .junk, .junk, .junk, .imm (.int .i64 (exs g r t a)), .junk, .junk, .junk, .junk, .junk, .junk, .junk, .junk], [], none⟩)
  | [], t, i, a, h, h' => by
    rw [rnd_eq]
    simp only [go_sem, Nat.reduceAdd, Nat.reduceSub, Nat.reduceMul, Nat.reduceDiv, Nat.reduceMod, Nat.reduceLeDiff, Nat.reduceLT, Nat.reduceBEq, Int.reduceToNat, Int.reduceLT, Int.reduceLE, Int.reduceEq, lt_f (drop_n h), exs]
  | x :: r, [], i, a, h, h' => by
    obtain ⟨h1, h2, h3⟩ := drop_c h
    have := drop_n h'
    omega
  | x :: r, s :: t, i, a, h, h' => by
    obtain ⟨h1, h2, h3⟩ := drop_c h
    obtain ⟨h1', h2', h3'⟩ := drop_c h'
    have h6 := wrpS (i := i) (by omega)
    have IH := l80 (lo := lo) (b1 := b1) (b2 := b2) (g := g) hl hb r t (i + 1) (ad a (ml x (if decide (0 < x) = g then s.hi else s.lo))) h3 h3'
    rw [rnd_eq]
    simp only [exs]
    have hx : ∀ y : Int, wrp .i64 (a + wrp .i64 (x * y)) = ad a (ml x y) := fun _ => rfl
    cases h0 : decide ((0 : Int) < x) <;> cases g <;> rw [h0] at IH <;> simp only [Bool.false_eq_true, reduceCtorEq, if_true, if_false] at IH ⊢ <;>
      simp only [go_sem, Nat.reduceAdd, Nat.reduceSub, Nat.reduceMul, Nat.reduceDiv, Nat.reduceMod, Nat.reduceLeDiff, Nat.reduceLT, Nat.reduceBEq, Int.reduceToNat, Int.reduceLT, Int.reduceLE, Int.reduceEq, lt_t h2, lt_t h2', h1, h1', h6, h0, hx, b00, b01, b10, b11] <;> exact IH
theorem ok80 (n : Nat) (x : Ln) (b : Bool) (sp : List Sp) (g : Bool) (hl : x.co.length ≤ sp.length) (hb : x.co.length < 1000000000) : callP (level E (n+1)) 80 [.agg (enL x), slD b 2 (sp.map enS), .bool g] = some (.int .i64 (exs g x.co sp x.c)) := by
  have h := l80 (lo := level E n) (b1 := x.nl) (b2 := b) (g := g) hl hb x.co sp 0 x.c rfl rfl
  rw [cast0] at h
  rw [p80]
  simp only [go_sem, Nat.reduceAdd, Nat.reduceSub, Nat.reduceMul, Nat.reduceDiv, Nat.reduceMod, Nat.reduceLeDiff, Nat.reduceLT, Nat.reduceBEq, Int.reduceToNat, Int.reduceLT, Int.reduceLE, Int.reduceEq, h]
def bxErr (x : Ln) (sp : List Sp) : Int := fnz [lnErr x sp.length, spErr sp]
theorem ok79 (n : Nat) (x : Ln) (b : Bool) (sp : List Sp) (hx : x.co.length < 1000000000) (hs : sp.length < 1000000000) : callP (level E (n+6)) 79 [.agg (enL x), slD b 2 (sp.map enS)] = some (.int .i64 (bxErr x sp)) := by
  have h68 := ok68 n x sp.length hx
  have h71 := ok71 (n+2) b sp hs
  have h57 := ok57_2 (n+4) (lnErr x sp.length) (spErr sp)
  rw [p79]
  simp only [go_sem, Nat.reduceAdd, Nat.reduceSub, Nat.reduceMul, Nat.reduceDiv, Nat.reduceMod, Nat.reduceLeDiff, Nat.reduceLT, Nat.reduceBEq, Int.reduceToNat, Int.reduceLT, Int.reduceLE, Int.reduceEq] at h68
  simp only [go_sem, Nat.reduceAdd, Nat.reduceSub, Nat.reduceMul, Nat.reduceDiv, Nat.reduceMod, Nat.reduceLeDiff, Nat.reduceLT, Nat.reduceBEq, Int.reduceToNat, Int.reduceLT, Int.reduceLE, Int.reduceEq, h68, h71, h57, bxErr]
theorem bxErr0 {x : Ln} {sp : List Sp} (h : bxErr x sp = 0) : x.co.length = sp.length := by
  unfold bxErr at h
  by_cases hl : lnErr x sp.length = 0
  · unfold lnErr at hl
    by_cases he : (x.co.length : Int) = sp.length
    · omega
    · simp [fnz, he] at hl
  · simp [fnz, hl] at h
def least (g : Bool) (x : Ln) (sp : List Sp) : D := if bxErr x sp = 0 then .tup [.int .i64 (exs g x.co sp x.c), .int .i64 0] else .tup [.int .i64 0, .int .i64 (bxErr x sp)]
theorem ok35 (n : Nat) (x : Ln) (b : Bool) (sp : List Sp) (hx : x.co.length < 1000000000) (hs : sp.length < 1000000000) : callP (level E (n+7)) 35 [.agg (enL x), slD b 2 (sp.map enS)] = some (least false x sp) := by
  have h79 := ok79 n x b sp hx hs
  rw [p35]
  simp only [go_sem, Nat.reduceAdd, Nat.reduceSub, Nat.reduceMul, Nat.reduceDiv, Nat.reduceMod, Nat.reduceLeDiff, Nat.reduceLT, Nat.reduceBEq, Int.reduceToNat, Int.reduceLT, Int.reduceLE, Int.reduceEq] at h79
  unfold least
  by_cases h0 : bxErr x sp = 0
  · have h80 := ok80 (n+5) x b sp false (Nat.le_of_eq (bxErr0 h0)) hx
    simp only [go_sem, Nat.reduceAdd, Nat.reduceSub, Nat.reduceMul, Nat.reduceDiv, Nat.reduceMod, Nat.reduceLeDiff, Nat.reduceLT, Nat.reduceBEq, Int.reduceToNat, Int.reduceLT, Int.reduceLE, Int.reduceEq] at h80
    simp only [go_sem, Nat.reduceAdd, Nat.reduceSub, Nat.reduceMul, Nat.reduceDiv, Nat.reduceMod, Nat.reduceLeDiff, Nat.reduceLT, Nat.reduceBEq, Int.reduceToNat, Int.reduceLT, Int.reduceLE, Int.reduceEq, h79, h80, h0, ne_eq, not_true_eq_false]
  · simp only [go_sem, Nat.reduceAdd, Nat.reduceSub, Nat.reduceMul, Nat.reduceDiv, Nat.reduceMod, Nat.reduceLeDiff, Nat.reduceLT, Nat.reduceBEq, Int.reduceToNat, Int.reduceLT, Int.reduceLE, Int.reduceEq, h79, h0, ne_eq, not_false_eq_true]
def vl : List Int → List Int → Int → Int
  | x :: r, p :: q, a => vl r q (ad a (ml x p))
  | _, _, a => a
theorem l62 {lo : Lower} {b1 b2 : Bool} {co pt : List Int} (hl : co.length ≤ pt.length) (hb : co.length < 1000000000) : ∀ (r t : List Int) (i : Nat) (a : Int), co.drop i = r → pt.drop i = t →
    outC ⟨0, false⟩ [0, 0, 0, 0, 1, 0, 0, 0, 0, 0, 0] (rnd (aCode lo ⟨0, false⟩ b62_0) (head ⟨0, false⟩ [0, 1, 0, 0, 1, 0, 0, 1, 1, 1, 0])
      ⟨[.junk, .imm (slD b2 1 (pt.map ic)), .junk, .junk, .imm (.int .i64 a), .junk, .junk, .imm (slD b1 1 (co.map ic)), .imm (.int .i64 co.length), .imm (.int .i64 i), .junk], [], none⟩) =
      some (.exit 0, ⟨[.junk, .junk, .junk, .junk, .imm (.int .i64 (vl r t a)), .junk, .junk, .junk, .junk, .junk, .junk], [], none⟩)
  | [], t, i, a, h, h' => by
    rw [rnd_eq]
    simp only [go_sem, Nat.reduceAdd, Nat.reduceSub, Nat.reduceMul, Nat.reduceDiv, Nat.reduceMod, Nat.reduceLeDiff, Nat.reduceLT, Nat.reduceBEq, Int.reduceToNat, Int.reduceLT, Int.reduceLE, Int.reduceEq, lt_f (drop_n h), vl]
  | x :: r, [], i, a, h, h' => by
    obtain ⟨h1, h2, h3⟩ := drop_c h
    have := drop_n h'
    omega
  | x :: r, s :: t, i, a, h, h' => by
    obtain ⟨h1, h2, h3⟩ := drop_c h
    obtain ⟨h1', h2', h3'⟩ := drop_c h'
    have h6 := wrpS (i := i) (by omega)
    have IH := l62 (lo := lo) (b1 := b1) (b2 := b2) hl hb r t (i + 1) (ad a (ml x s)) h3 h3'
    rw [rnd_eq]
    simp only [vl]
    have hx : wrp .i64 (a + wrp .i64 (x * s)) = ad a (ml x s) := rfl
    simp only [go_sem, Nat.reduceAdd, Nat.reduceSub, Nat.reduceMul, Nat.reduceDiv, Nat.reduceMod, Nat.reduceLeDiff, Nat.reduceLT, Nat.reduceBEq, Int.reduceToNat, Int.reduceLT, Int.reduceLE, Int.reduceEq, lt_t h2, lt_t h2', h1, h1', h6, hx]
    exact IH
theorem ok62 (n : Nat) (x : Ln) (b : Bool) (pt : List Int) (hl : x.co.length ≤ pt.length) (hb : x.co.length < 1000000000) : callP (level E (n+1)) 62 [.agg (enL x), slD b 1 (pt.map ic)] = some (.int .i64 (vl x.co pt x.c)) := by
  have h := l62 (lo := level E n) (b1 := x.nl) (b2 := b) hl hb x.co pt 0 x.c rfl rfl
  rw [cast0] at h
  rw [p62]
  simp only [go_sem, Nat.reduceAdd, Nat.reduceSub, Nat.reduceMul, Nat.reduceDiv, Nat.reduceMod, Nat.reduceLeDiff, Nat.reduceLT, Nat.reduceBEq, Int.reduceToNat, Int.reduceLT, Int.reduceLE, Int.reduceEq, h]
def neg1 (pt : List Int) (x : Ln) : Bool := decide (vl x.co pt x.c < 0)
theorem ok63 (n : Nat) (x : Ln) (b : Bool) (pt : List Int) (hl : x.co.length ≤ pt.length) (hb : x.co.length < 1000000000) : callP (level E (n+2)) 63 [.agg (enL x), .ptr [.fn 62 [] []], .ptr [slD b 1 (pt.map ic)]] = some (.bool (neg1 pt x)) := by
  have h := ok62 n x b pt hl hb
  rw [p63]
  simp only [go_sem, Nat.reduceAdd, Nat.reduceSub, Nat.reduceMul, Nat.reduceDiv, Nat.reduceMod, Nat.reduceLeDiff, Nat.reduceLT, Nat.reduceBEq, Int.reduceToNat, Int.reduceLT, Int.reduceLE, Int.reduceEq] at h
  simp only [go_sem, Nat.reduceAdd, Nat.reduceSub, Nat.reduceMul, Nat.reduceDiv, Nat.reduceMod, Nat.reduceLeDiff, Nat.reduceLT, Nat.reduceBEq, Int.reduceToNat, Int.reduceLT, Int.reduceLE, Int.reduceEq, h, neg1]
def ins : List Int → List Sp → Bool
  | p :: r, s :: t => !offB p s.lo s.hi && ins r t
  | _, _ => true
def x64 (b : Bool) : AExit × S := match b with
  | true => (.exit 0, ⟨[.junk, .junk, .junk, .junk, .junk, .junk, .junk, .junk, .junk, .junk], [], none⟩)
  | false => (.ret, ⟨[.junk, .junk, .imm (.bool false), .junk, .junk, .junk, .junk, .junk, .junk, .junk], [], none⟩)
theorem l64 {n : Nat} {b1 b2 : Bool} {pt : List Int} {sp : List Sp} (hl : pt.length ≤ sp.length) (hb : pt.length < 1000000000) : ∀ (r : List Int) (t : List Sp) (i : Nat), pt.drop i = r → sp.drop i = t →
    outC ⟨0, false⟩ [0, 0, 1, 0, 0, 0, 0, 0, 0, 0] (rnd (aCode (level E (n+1)) ⟨0, false⟩ b64_0) (head ⟨0, false⟩ [1, 0, 0, 0, 0, 1, 1, 1, 0, 0])
      ⟨[.imm (slD b2 2 (sp.map enS)), .junk, .junk, .junk, .junk, .imm (slD b1 1 (pt.map ic)), .imm (.int .i64 pt.length), .imm (.int .i64 i), .junk, .junk], [], none⟩) =
      some (x64 (ins r t))
  | [], t, i, h, h' => by
    rw [rnd_eq]
    simp only [go_sem, Nat.reduceAdd, Nat.reduceSub, Nat.reduceMul, Nat.reduceDiv, Nat.reduceMod, Nat.reduceLeDiff, Nat.reduceLT, Nat.reduceBEq, Int.reduceToNat, Int.reduceLT, Int.reduceLE, Int.reduceEq, lt_f (drop_n h), ins, x64]
  | x :: r, [], i, h, h' => by
    obtain ⟨h1, h2, h3⟩ := drop_c h
    have := drop_n h'
    omega
  | x :: r, s :: t, i, h, h' => by
    obtain ⟨h1, h2, h3⟩ := drop_c h
    obtain ⟨h1', h2', h3'⟩ := drop_c h'
    have h6 := wrpS (i := i) (by omega)
    have h59 := ok59 n x s.lo s.hi
    have IH := l64 (n := n) (b1 := b1) (b2 := b2) hl hb r t (i + 1) h3 h3'
    rw [rnd_eq]
    simp only [ins]
    cases h0 : offB x s.lo s.hi <;> rw [h0] at h59
    · simp only [go_sem, Nat.reduceAdd, Nat.reduceSub, Nat.reduceMul, Nat.reduceDiv, Nat.reduceMod, Nat.reduceLeDiff, Nat.reduceLT, Nat.reduceBEq, Int.reduceToNat, Int.reduceLT, Int.reduceLE, Int.reduceEq, lt_t h2, lt_t h2', h1, h1', h6, h59, Bool.not_false, Bool.true_and]
      exact IH
    · simp only [go_sem, Nat.reduceAdd, Nat.reduceSub, Nat.reduceMul, Nat.reduceDiv, Nat.reduceMod, Nat.reduceLeDiff, Nat.reduceLT, Nat.reduceBEq, Int.reduceToNat, Int.reduceLT, Int.reduceLE, Int.reduceEq, lt_t h2, lt_t h2', h1, h1', h6, h59, Bool.not_true, Bool.false_and, x64]
theorem ok64 (n : Nat) (b1 b2 : Bool) (pt : List Int) (sp : List Sp) (hl : pt.length ≤ sp.length) (hb : pt.length < 1000000000) : callP (level E (n+2)) 64 [slD b2 2 (sp.map enS), slD b1 1 (pt.map ic)] = some (.bool (ins pt sp)) := by
  have h := l64 (n := n) (b1 := b1) (b2 := b2) hl hb pt sp 0 rfl rfl
  rw [cast0] at h
  rw [p64]
  cases h0 : ins pt sp <;> rw [h0] at h <;> simp only [go_sem, Nat.reduceAdd, Nat.reduceSub, Nat.reduceMul, Nat.reduceDiv, Nat.reduceMod, Nat.reduceLeDiff, Nat.reduceLT, Nat.reduceBEq, Int.reduceToNat, Int.reduceLT, Int.reduceLE, Int.reduceEq, x64] at h <;> simp only [go_sem, Nat.reduceAdd, Nat.reduceSub, Nat.reduceMul, Nat.reduceDiv, Nat.reduceMod, Nat.reduceLeDiff, Nat.reduceLT, Nat.reduceBEq, Int.reduceToNat, Int.reduceLT, Int.reduceLE, Int.reduceEq, h]
theorem l90 {n : Nat} {b : Bool} {l : List Ln} {g : FuncId} {cs : List D} {p : Ln → Bool} (H : ∀ x ∈ l, callP (level E n) g (.agg (enL x) :: cs) = some (.bool (p x))) (hl : l.length < 1000000000) : ∀ (r : List Ln) (i : Nat), l.drop i = r →
    outC ⟨0, false⟩ [0, 0, 1, 0, 0, 0, 0, 0] (rnd (aCode (level E n) ⟨0, false⟩ b90_0) (head ⟨0, false⟩ [1, 1, 0, 0, 1, 1, 0, 0]) ⟨[.imm (slD b 2 (l.map enL)), .imm (.fn g [] cs), .junk, .junk, .imm (.int .i64 l.length), .imm (.int .i64 i), .junk, .junk], [], none⟩) =
      some (if r.any p then (.ret, ⟨[.junk, .junk, .imm (.int .i64 (fidx p r i)), .junk, .junk, .junk, .junk, .junk], [], none⟩) else (.exit 0, ⟨[.junk, .junk, .junk, .junk, .junk, .junk, .junk, .junk], [], none⟩))
  | [], i, h => by
    rw [rnd_eq]
    simp only [go_sem, Nat.reduceAdd, Nat.reduceSub, Nat.reduceMul, Nat.reduceDiv, Nat.reduceMod, Nat.reduceLeDiff, Nat.reduceLT, Nat.reduceBEq, Int.reduceToNat, Int.reduceLT, Int.reduceLE, Int.reduceEq, lt_f (drop_n h), List.any_nil, Bool.false_eq_true]
  | x :: r, i, h => by
    obtain ⟨h1, h2, h3⟩ := drop_c h
    have H' := H x (List.mem_of_getElem? h1)
    simp only [go_sem, Nat.reduceAdd, Nat.reduceSub, Nat.reduceMul, Nat.reduceDiv, Nat.reduceMod, Nat.reduceLeDiff, Nat.reduceLT, Nat.reduceBEq, Int.reduceToNat, Int.reduceLT, Int.reduceLE, Int.reduceEq] at H'
    rw [rnd_eq]
    cases h0 : p x
    · simp only [go_sem, Nat.reduceAdd, Nat.reduceSub, Nat.reduceMul, Nat.reduceDiv, Nat.reduceMod, Nat.reduceLeDiff, Nat.reduceLT, Nat.reduceBEq, Int.reduceToNat, Int.reduceLT, Int.reduceLE, Int.reduceEq, lt_t h2, h1, H', h0, List.any_cons, fidx, Bool.false_eq_true]
      rw [wrpS (by omega)]
      exact l90 H hl r (i + 1) h3
    · simp only [go_sem, Nat.reduceAdd, Nat.reduceSub, Nat.reduceMul, Nat.reduceDiv, Nat.reduceMod, Nat.reduceLeDiff, Nat.reduceLT, Nat.reduceBEq, Int.reduceToNat, Int.reduceLT, Int.reduceLE, Int.reduceEq, lt_t h2, h1, H', h0, List.any_cons, fidx]
theorem ok90 (n : Nat) (b : Bool) (l : List Ln) (g : FuncId) (cs : List D) (p : Ln → Bool) (H : ∀ x ∈ l, callP (level E n) g (.agg (enL x) :: cs) = some (.bool (p x))) (hl : l.length < 1000000000) :
    callP (level E (n+1)) 90 [slD b 2 (l.map enL), .fn g [] cs] = some (.int .i64 (fidx p l 0)) := by
  rw [p90]
  have h := l90 (b := b) H hl l 0
  have h1 : l.any p = false → fidx p l 0 = -1 := by
    intro h
    have : ∀ (l : List Ln) (i : Nat), l.any p = false → fidx p l i = -1 := by
      intro l
      induction l with
      | nil => intros; rfl
      | cons x r ih => intro i h; simp only [List.any_cons, Bool.or_eq_false_iff] at h; simp only [fidx, h.1, Bool.false_eq_true, if_false]; exact ih _ h.2
    exact this l 0 h
  rw [cast0] at h
  simp only [go_sem, Nat.reduceAdd, Nat.reduceSub, Nat.reduceMul, Nat.reduceDiv, Nat.reduceMod, Nat.reduceLeDiff, Nat.reduceLT, Nat.reduceBEq, Int.reduceToNat, Int.reduceLT, Int.reduceLE, Int.reduceEq]
  rw [h rfl]
  cases h0 : l.any p
  · simp only [go_sem, Nat.reduceAdd, Nat.reduceSub, Nat.reduceMul, Nat.reduceDiv, Nat.reduceMod, Nat.reduceLeDiff, Nat.reduceLT, Nat.reduceBEq, Int.reduceToNat, Int.reduceLT, Int.reduceLE, Int.reduceEq, Bool.false_eq_true, h1 h0]
  · simp only [go_sem, Nat.reduceAdd, Nat.reduceSub, Nat.reduceMul, Nat.reduceDiv, Nat.reduceMod, Nat.reduceLeDiff, Nat.reduceLT, Nat.reduceBEq, Int.reduceToNat, Int.reduceLT, Int.reduceLE, Int.reduceEq]
theorem ok65 (n : Nat) (b : Bool) (l : List Ln) (g : FuncId) (cs : List D) (p : Ln → Bool) (H : ∀ x ∈ l, callP (level E n) g (.agg (enL x) :: cs) = some (.bool (p x))) (hl : l.length < 1000000000) :
    callP (level E (n+2)) 65 [slD b 2 (l.map enL), .fn g [] cs] = some (.bool (l.any p)) := by
  rw [p65]
  simp only [go_sem, Nat.reduceAdd, Nat.reduceSub, Nat.reduceMul, Nat.reduceDiv, Nat.reduceMod, Nat.reduceLeDiff, Nat.reduceLT, Nat.reduceBEq, Int.reduceToNat, Int.reduceLT, Int.reduceLE, Int.reduceEq, ok90 n b l g cs p H hl, fidx_ge]
def rfE (c : Cl) (pt : List Int) : Int := fnz [clErr c, if decide (pt.length ≠ c.sp.length) then 2 else 0]
def rfB (c : Cl) (pt : List Int) : Bool := ins pt c.sp && !c.gv.any (neg1 pt) && neg1 pt c.go
def refutes (c : Cl) (pt : List Int) : D := if rfE c pt = 0 then .tup [.bool (rfB c pt), .int .i64 0] else .tup [.bool false, .int .i64 (rfE c pt)]
theorem ok23 (n : Nat) (c : Cl) (b : Bool) (pt : List Int) (hf : c.Fit) (hp : pt.length < 1000000000) : callP (level E (n+9)) 23 [.agg (enC c), slD b 1 (pt.map ic)] = some (refutes c pt) := by
  have h28 := ok28 n c hf
  have h57 := ok57_2 (n + 7) (clErr c) (if decide (pt.length ≠ c.sp.length) then 2 else 0)
  have h58 := ok58 (n + 7) (decide (pt.length ≠ c.sp.length)) 2
  have hd : decide (¬ ((pt.length : Nat) : Int) = c.sp.length) = decide (pt.length ≠ c.sp.length) := by
    apply decide_eq_decide.2; omega
  have hE : rfE c pt = fnz [clErr c, if decide (pt.length ≠ c.sp.length) then 2 else 0] := rfl
  rw [← hE] at h57
  rw [p23]
  unfold refutes
  simp only [go_sem, Nat.reduceAdd, Nat.reduceSub, Nat.reduceMul, Nat.reduceDiv, Nat.reduceMod, Nat.reduceLeDiff, Nat.reduceLT, Nat.reduceBEq, Int.reduceToNat, Int.reduceLT, Int.reduceLE, Int.reduceEq] at h28 h57 h58
  generalize decide (pt.length ≠ c.sp.length) = db at hd h57 h58 hE
  by_cases h0 : rfE c pt = 0
  · have h00 := h0
    rw [hE] at h0
    have hcl : clErr c = 0 := by
      by_cases h : clErr c = 0
      · exact h
      · simp [fnz, h] at h0
    have hdb : db = false := by
      cases db
      · rfl
      · rw [hcl] at h0; simp [fnz] at h0
    subst hdb
    simp only [Bool.false_eq_true, if_false] at h57 h58
    have hpl : pt.length = c.sp.length := by
      have : ((pt.length : Nat) : Int) = c.sp.length := by simpa using hd.symm
      omega
    have hev := clErr_even hf hcl
    have h64 := ok64 (n + 6) b c.sn pt c.sp (Nat.le_of_eq hpl) hp
    have H : ∀ x ∈ c.gv, callP (level E (n + 6)) 63 (.agg (enL x) :: [.ptr [.fn 62 [] []], .ptr [slD b 1 (pt.map ic)]]) = some (.bool (neg1 pt x)) := fun x hx => ok63 (n + 4) x b pt (by rw [hev.gv x hx]; omega) (hf.ln x hx)
    have h65 := ok65 (n + 6) c.gn c.gv 63 [.ptr [.fn 62 [] []], .ptr [slD b 1 (pt.map ic)]] (neg1 pt) H (by have := hf.gv; omega)
    have h63 := ok63 (n + 6) c.go b pt (by rw [hev.go]; omega) hf.go
    simp only [go_sem, Nat.reduceAdd, Nat.reduceSub, Nat.reduceMul, Nat.reduceDiv, Nat.reduceMod, Nat.reduceLeDiff, Nat.reduceLT, Nat.reduceBEq, Int.reduceToNat, Int.reduceLT, Int.reduceLE, Int.reduceEq] at h63
    simp only [go_sem, Nat.reduceAdd, Nat.reduceSub, Nat.reduceMul, Nat.reduceDiv, Nat.reduceMod, Nat.reduceLeDiff, Nat.reduceLT, Nat.reduceBEq, Int.reduceToNat, Int.reduceLT, Int.reduceLE, Int.reduceEq, h28, h57, h58, ne_eq, hd, h00, rfB, not_true_eq_false]
    cases i1 : ins pt c.sp <;> rw [i1] at h64
    · simp only [go_sem, Nat.reduceAdd, Nat.reduceSub, Nat.reduceMul, Nat.reduceDiv, Nat.reduceMod, Nat.reduceLeDiff, Nat.reduceLT, Nat.reduceBEq, Int.reduceToNat, Int.reduceLT, Int.reduceLE, Int.reduceEq, h64, Bool.false_and]
    · cases i2 : c.gv.any (neg1 pt) <;> rw [i2] at h65
      · cases i3 : neg1 pt c.go <;> rw [i3] at h63 <;> simp only [go_sem, Nat.reduceAdd, Nat.reduceSub, Nat.reduceMul, Nat.reduceDiv, Nat.reduceMod, Nat.reduceLeDiff, Nat.reduceLT, Nat.reduceBEq, Int.reduceToNat, Int.reduceLT, Int.reduceLE, Int.reduceEq, h64, h65, h63, Bool.not_false, Bool.true_and]
      · simp only [go_sem, Nat.reduceAdd, Nat.reduceSub, Nat.reduceMul, Nat.reduceDiv, Nat.reduceMod, Nat.reduceLeDiff, Nat.reduceLT, Nat.reduceBEq, Int.reduceToNat, Int.reduceLT, Int.reduceLE, Int.reduceEq, h64, h65, Bool.not_true, Bool.true_and, Bool.false_and]
  · simp only [go_sem, Nat.reduceAdd, Nat.reduceSub, Nat.reduceMul, Nat.reduceDiv, Nat.reduceMod, Nat.reduceLeDiff, Nat.reduceLT, Nat.reduceBEq, Int.reduceToNat, Int.reduceLT, Int.reduceLE, Int.reduceEq, h28, h57, h58, h0, ne_eq, hd, not_false_eq_true]
end Go.Vm.P12

/- Chapter 12, the laws: values of lines, short proofs, leaves of proofs. -/
set_option maxRecDepth 100000
namespace Go.Vm.P12
open Go Go.Vm
def ptB (pt : List Int) : Bool := pt.any fun x => offB x (-1048576) 1048576
def vlE (x : Ln) (pt : List Int) : Int := fnz [if decide ((6 : Int) < pt.length) then 5 else 0, if ptB pt then 3 else 0, lnErr x pt.length]
def value (x : Ln) (pt : List Int) : D := if vlE x pt = 0 then .tup [.int .i64 (vl x.co pt x.c), .int .i64 0] else .tup [.int .i64 0, .int .i64 (vlE x pt)]
def shortSt (s : Stp) : Bool := !(decide (16 < s.gv.length) || (decide (8 < s.lw.length) || decide (8 < s.hg.length)))
def x22 (b : Bool) : AExit × S := match b with
  | true => (.exit 0, ⟨[.junk, .junk, .junk, .junk, .junk, .junk, .junk], [], none⟩)
  | false => (.ret, ⟨[.junk, .imm (.bool false), .junk, .junk, .junk, .junk, .junk], [], none⟩)
theorem l22 {lo : Lower} {b : Bool} {l : List Stp} (hl : l.length < 1000000000) : ∀ (r : List Stp) (i : Nat), l.drop i = r →
    outC ⟨0, false⟩ [0, 1, 0, 0, 0, 0, 0] (rnd (aCode lo ⟨0, false⟩ b22_0) (head ⟨0, false⟩ [0, 0, 1, 1, 0, 0, 0])
      ⟨[.junk, .junk, .ptr 0 0, .imm (.int .i64 i), .junk, .junk, .junk], [.box [.imm (slD b 9 (l.map enT))]], none⟩) = some (x22 (r.all shortSt))
  | [], i, h => by
    rw [rnd_eq]
    simp only [go_sem, Nat.reduceAdd, Nat.reduceSub, Nat.reduceMul, Nat.reduceDiv, Nat.reduceMod, Nat.reduceLeDiff, Nat.reduceLT, Nat.reduceBEq, Int.reduceToNat, Int.reduceLT, Int.reduceLE, Int.reduceEq, lt_f (drop_n h), x22, List.all_nil]
  | s :: r, i, h => by
    obtain ⟨h1, h2, h3⟩ := drop_c h
    have h6 := wrpS (i := i) (by omega)
    have IH := l22 (lo := lo) (b := b) hl r (i + 1) h3
    have c1 : ((16 : Int) < ((s.gv.length : Nat) : Int)) ↔ 16 < s.gv.length := by omega
    have c2 : ((8 : Int) < ((s.lw.length : Nat) : Int)) ↔ 8 < s.lw.length := by omega
    have c3 : ((8 : Int) < ((s.hg.length : Nat) : Int)) ↔ 8 < s.hg.length := by omega
    rw [rnd_eq, List.all_cons]
    by_cases a1 : 16 < s.gv.length
    · have e : shortSt s = false := by simp [shortSt, a1]
      simp only [go_sem, Nat.reduceAdd, Nat.reduceSub, Nat.reduceMul, Nat.reduceDiv, Nat.reduceMod, Nat.reduceLeDiff, Nat.reduceLT, Nat.reduceBEq, Int.reduceToNat, Int.reduceLT, Int.reduceLE, Int.reduceEq, lt_t h2, h1, h6, c1, a1, e, Bool.false_and, x22]
    · by_cases a2 : 8 < s.lw.length
      · have e : shortSt s = false := by simp [shortSt, a2]
        simp only [go_sem, Nat.reduceAdd, Nat.reduceSub, Nat.reduceMul, Nat.reduceDiv, Nat.reduceMod, Nat.reduceLeDiff, Nat.reduceLT, Nat.reduceBEq, Int.reduceToNat, Int.reduceLT, Int.reduceLE, Int.reduceEq, lt_t h2, h1, h6, c1, c2, a1, a2, e, Bool.false_and, x22]
      · by_cases a3 : 8 < s.hg.length
        · have e : shortSt s = false := by simp [shortSt, a3]
          simp only [go_sem, Nat.reduceAdd, Nat.reduceSub, Nat.reduceMul, Nat.reduceDiv, Nat.reduceMod, Nat.reduceLeDiff, Nat.reduceLT, Nat.reduceBEq, Int.reduceToNat, Int.reduceLT, Int.reduceLE, Int.reduceEq, lt_t h2, h1, h6, c1, c2, c3, a1, a2, a3, e, Bool.false_and, x22]
        · have e : shortSt s = true := by simp [shortSt, a1, a2, a3]
          simp only [go_sem, Nat.reduceAdd, Nat.reduceSub, Nat.reduceMul, Nat.reduceDiv, Nat.reduceMod, Nat.reduceLeDiff, Nat.reduceLT, Nat.reduceBEq, Int.reduceToNat, Int.reduceLT, Int.reduceLE, Int.reduceEq, lt_t h2, h1, h6, c1, c2, c3, a1, a2, a3, e, Bool.true_and]
          exact IH
def shortP (l : List Stp) : Bool := decide (l.length ≤ 40 ∨ l.length = 401) && l.all shortSt
theorem ok22 (n : Nat) (b : Bool) (l : List Stp) : callP (level E (n+1)) 22 [.agg [slD b 9 (l.map enT)]] = some (.bool (shortP l)) := by
  rw [p22]
  unfold shortP
  by_cases a1 : 40 < l.length
  · have c1 : ((40 : Int) < ((l.length : Nat) : Int)) = True := eq_true (by omega)
    by_cases a2 : l.length = 401
    · have h := l22 (lo := level E n) (b := b) (l := l) (by omega) l 0 rfl
      rw [cast0] at h
      have c2 : (((l.length : Nat) : Int) = 401) = True := eq_true (by omega)
      have e : decide (l.length ≤ 40 ∨ l.length = 401) = true := decide_eq_true (by omega)
      cases ha : l.all shortSt <;> rw [ha] at h <;> simp only [go_sem, Nat.reduceAdd, Nat.reduceSub, Nat.reduceMul, Nat.reduceDiv, Nat.reduceMod, Nat.reduceLeDiff, Nat.reduceLT, Nat.reduceBEq, Int.reduceToNat, Int.reduceLT, Int.reduceLE, Int.reduceEq, x22] at h <;>
        simp only [go_sem, Nat.reduceAdd, Nat.reduceSub, Nat.reduceMul, Nat.reduceDiv, Nat.reduceMod, Nat.reduceLeDiff, Nat.reduceLT, Nat.reduceBEq, Int.reduceToNat, Int.reduceLT, Int.reduceLE, Int.reduceEq, c1, c2, e, ne_eq, not_true_eq_false, h, Bool.true_and]
    · have c2 : (((l.length : Nat) : Int) = 401) = False := eq_false (by omega)
      have e : decide (l.length ≤ 40 ∨ l.length = 401) = false := decide_eq_false (by omega)
      simp only [go_sem, Nat.reduceAdd, Nat.reduceSub, Nat.reduceMul, Nat.reduceDiv, Nat.reduceMod, Nat.reduceLeDiff, Nat.reduceLT, Nat.reduceBEq, Int.reduceToNat, Int.reduceLT, Int.reduceLE, Int.reduceEq, c1, c2, e, ne_eq, not_false_eq_true, Bool.false_and]
  · have h := l22 (lo := level E n) (b := b) (l := l) (by omega) l 0 rfl
    rw [cast0] at h
    have c1 : ((40 : Int) < ((l.length : Nat) : Int)) = False := eq_false (by omega)
    have e : decide (l.length ≤ 40 ∨ l.length = 401) = true := decide_eq_true (by omega)
    cases ha : l.all shortSt <;> rw [ha] at h <;> simp only [go_sem, Nat.reduceAdd, Nat.reduceSub, Nat.reduceMul, Nat.reduceDiv, Nat.reduceMod, Nat.reduceLeDiff, Nat.reduceLT, Nat.reduceBEq, Int.reduceToNat, Int.reduceLT, Int.reduceLE, Int.reduceEq, x22] at h <;>
      simp only [go_sem, Nat.reduceAdd, Nat.reduceSub, Nat.reduceMul, Nat.reduceDiv, Nat.reduceMod, Nat.reduceLeDiff, Nat.reduceLT, Nat.reduceBEq, Int.reduceToNat, Int.reduceLT, Int.reduceLE, Int.reduceEq, c1, e, h, Bool.true_and]
def lvs : List Stp → Int → Int
  | [], a => a
  | s :: r, a => lvs r (if s.leaf then ad a 1 else a)
theorem l34 {lo : Lower} {b : Bool} {l : List Stp} (hl : l.length < 1000000000) : ∀ (r : List Stp) (i : Nat) (a : Int), l.drop i = r →
    outC ⟨0, false⟩ [0, 0, 0, 1, 0, 0, 0] (rnd (aCode lo ⟨0, false⟩ b34_0) (head ⟨0, false⟩ [0, 0, 1, 1, 1, 0, 0])
      ⟨[.junk, .junk, .ptr 0 0, .imm (.int .i64 a), .imm (.int .i64 i), .junk, .junk], [.box [.imm (slD b 9 (l.map enT))]], none⟩) =
      some (.exit 0, ⟨[.junk, .junk, .junk, .imm (.int .i64 (lvs r a)), .junk, .junk, .junk], [], none⟩)
  | [], i, a, h => by
    rw [rnd_eq]
    simp only [go_sem, Nat.reduceAdd, Nat.reduceSub, Nat.reduceMul, Nat.reduceDiv, Nat.reduceMod, Nat.reduceLeDiff, Nat.reduceLT, Nat.reduceBEq, Int.reduceToNat, Int.reduceLT, Int.reduceLE, Int.reduceEq, lt_f (drop_n h), lvs]
  | s :: r, i, a, h => by
    obtain ⟨h1, h2, h3⟩ := drop_c h
    have h6 := wrpS (i := i) (by omega)
    have IH := l34 (lo := lo) (b := b) hl r (i + 1) (if s.leaf then ad a 1 else a) h3
    have g1 : wrp .i64 (a + 1) = ad a 1 := rfl
    rw [rnd_eq]
    simp only [lvs]
    cases hs : s.leaf <;> rw [hs] at IH <;> simp only [Bool.false_eq_true, if_true, if_false] at IH ⊢ <;>
      simp only [go_sem, Nat.reduceAdd, Nat.reduceSub, Nat.reduceMul, Nat.reduceDiv, Nat.reduceMod, Nat.reduceLeDiff, Nat.reduceLT, Nat.reduceBEq, Int.reduceToNat, Int.reduceLT, Int.reduceLE, Int.reduceEq, lt_t h2, h1, h6, hs, g1] <;> exact IH
theorem ok34 (n : Nat) (b : Bool) (l : List Stp) (hl : l.length < 1000000000) : callP (level E (n+1)) 34 [.agg [slD b 9 (l.map enT)]] = some (.int .i64 (lvs l 0)) := by
  have h := l34 (lo := level E n) (b := b) hl l 0 0 rfl
  rw [cast0] at h
  rw [p34]
  simp only [go_sem, Nat.reduceAdd, Nat.reduceSub, Nat.reduceMul, Nat.reduceDiv, Nat.reduceMod, Nat.reduceLeDiff, Nat.reduceLT, Nat.reduceBEq, Int.reduceToNat, Int.reduceLT, Int.reduceLE, Int.reduceEq, h]
def lvE (l : List Stp) : Int := fnz [if decide ((l.length : Int) = 0) then 10 else 0, if decide ((400 : Int) < l.length) then 5 else 0]
theorem ok33 (n : Nat) (b : Bool) (l : List Stp) : callP (level E (n+2)) 33 [.agg [slD b 9 (l.map enT)]] = some (.int .i64 (lvE l)) := by
  have h1 := ok42 n (decide ((l.length : Int) = 0)) 10
  have h2 := ok42 n (decide ((400 : Int) < l.length)) 5
  have h3 := ok16_2 n (if decide ((l.length : Int) = 0) then 10 else 0) (if decide ((400 : Int) < l.length) then 5 else 0)
  rw [p33]
  simp only [go_sem, Nat.reduceAdd, Nat.reduceSub, Nat.reduceMul, Nat.reduceDiv, Nat.reduceMod, Nat.reduceLeDiff, Nat.reduceLT, Nat.reduceBEq, Int.reduceToNat, Int.reduceLT, Int.reduceLE, Int.reduceEq, h1, h2, h3, lvE]
theorem l32 {lo : Lower} {b : Bool} {l : List Stp} (hl : l.length < 1000000000) : ∀ (r : List Stp) (i : Nat) (a : Int), l.drop i = r →
    outC ⟨0, false⟩ [0, 0, 0, 0, 0, 1, 0, 0, 0, 0, 0, 0, 0] (rnd (aCode lo ⟨0, false⟩ b32_0) (head ⟨0, false⟩ [0, 0, 0, 0, 0, 1, 0, 0, 1, 1, 1, 0, 0])
      ⟨[.junk, .junk, .junk, .junk, .junk, .imm (.int .i64 a), .junk, .junk, .imm (slD b 9 (l.map enT)), .imm (.int .i64 l.length), .imm (.int .i64 i), .junk, .junk], [], none⟩) =
      some (.exit 0, ⟨[.junk, .junk, .junk, .junk, .junk, .imm (.int .i64 (lvs r a)), .junk, .junk, .junk, .junk, .junk, .junk, .junk], [], none⟩)
  | [], i, a, h => by
    rw [rnd_eq]
    simp only [go_sem, Nat.reduceAdd, Nat.reduceSub, Nat.reduceMul, Nat.reduceDiv, Nat.reduceMod, Nat.reduceLeDiff, Nat.reduceLT, Nat.reduceBEq, Int.reduceToNat, Int.reduceLT, Int.reduceLE, Int.reduceEq, lt_f (drop_n h), lvs]
  | s :: r, i, a, h => by
    obtain ⟨h1, h2, h3⟩ := drop_c h
    have h6 := wrpS (i := i) (by omega)
    have IH := l32 (lo := lo) (b := b) hl r (i + 1) (if s.leaf then ad a 1 else a) h3
    have g1 : wrp .i64 (a + 1) = ad a 1 := rfl
    rw [rnd_eq]
    simp only [lvs]
    cases hs : s.leaf <;> rw [hs] at IH <;> simp only [Bool.false_eq_true, if_true, if_false] at IH ⊢ <;>
      simp only [go_sem, Nat.reduceAdd, Nat.reduceSub, Nat.reduceMul, Nat.reduceDiv, Nat.reduceMod, Nat.reduceLeDiff, Nat.reduceLT, Nat.reduceBEq, Int.reduceToNat, Int.reduceLT, Int.reduceLE, Int.reduceEq, lt_t h2, h1, h6, hs, g1] <;> exact IH
def leavesD (l : List Stp) : D := if lvE l = 0 then .tup [.int .i64 (lvs l 0), .int .i64 0] else .tup [.int .i64 0, .int .i64 (lvE l)]
theorem ok32 (n : Nat) (b : Bool) (l : List Stp) (hl : l.length < 1000000000) : callP (level E (n+2)) 32 [.agg [slD b 9 (l.map enT)]] = some (leavesD l) := by
  have h1 := ok58 n (decide ((l.length : Int) = 0)) 10
  have h2 := ok58 n (decide ((400 : Int) < l.length)) 5
  have h3 := ok57_2 n (if decide ((l.length : Int) = 0) then 10 else 0) (if decide ((400 : Int) < l.length) then 5 else 0)
  have h := l32 (lo := level E (n + 1)) (b := b) hl l 0 0 rfl
  rw [cast0] at h
  have hE : fnz [if decide ((l.length : Int) = 0) then 10 else 0, if decide ((400 : Int) < l.length) then 5 else 0] = lvE l := rfl
  rw [hE] at h3
  rw [p32]
  unfold leavesD
  by_cases h0 : lvE l = 0
  · simp only [go_sem, Nat.reduceAdd, Nat.reduceSub, Nat.reduceMul, Nat.reduceDiv, Nat.reduceMod, Nat.reduceLeDiff, Nat.reduceLT, Nat.reduceBEq, Int.reduceToNat, Int.reduceLT, Int.reduceLE, Int.reduceEq, h1, h2, h3, h0, h, ne_eq, not_true_eq_false]
  · simp only [go_sem, Nat.reduceAdd, Nat.reduceSub, Nat.reduceMul, Nat.reduceDiv, Nat.reduceMod, Nat.reduceLeDiff, Nat.reduceLT, Nat.reduceBEq, Int.reduceToNat, Int.reduceLT, Int.reduceLE, Int.reduceEq, h1, h2, h3, h0, ne_eq, not_false_eq_true]
end Go.Vm.P12

/- Chapter 12, plain laws: numbers, leaves. -/
set_option maxRecDepth 100000
namespace Go.Vm.P12
open Go Go.Vm
theorem wrp_def (n : Int) : wrp .i64 n = (n + 9223372036854775808) % 18446744073709551616 - 9223372036854775808 := by
  by_cases h : -9223372036854775808 ≤ n ∧ n ≤ 9223372036854775807
  · rw [wrp_ok h]; omega
  · have : wrp .i64 n = IntKind.i64.wrap n := by simp only [wrp, if_neg h]
    rw [this]
    have e1 : (2 ^ IntKind.i64.bits : Int) = 18446744073709551616 := by decide
    have e2 : (2 ^ (IntKind.i64.bits - 1) : Int) = 9223372036854775808 := by decide
    simp only [IntKind.wrap, e1, e2, show IntKind.i64.signed = true from rfl, Bool.true_and, decide_eq_true_eq]
    split <;> omega
theorem ad_sb1 (c a b : Int) : ad c (sb a b) = sb (ad c a) b := by
  simp only [ad, sb, wrp_def]; omega
theorem ad_sb2 (x h l : Int) : ad x (sb h l) = ad (sb x l) h := by
  simp only [ad, sb, wrp_def]; omega
theorem prv_core : ∀ (xs lw hg : List Int) (sp : List Sp) (c : Int), xs.length = lw.length → xs.length = hg.length → xs.length = sp.length →
    (match rrg xs lw hg sp c with | some d => (prX xs lw hg).all (fun n => decide (n = 0)) = true ∧ prC c lw hg sp = d | none => (prX xs lw hg).all (fun n => decide (n = 0)) = false)
  | [], [], [], [], c, _, _, _ => by simp [rrg, prX, prC]
  | x :: xs, l :: ls, h :: hs, s :: ss, c, e1, e2, e3 => by
    have IH := prv_core xs ls hs ss (rrC c l h s) (by simpa using e1) (by simpa using e2) (by simpa using e3)
    have hx : ad x (sb h l) = rrX x l h := ad_sb2 x h l
    have hcc : ad c (sb (ml l s.lo) (ml h s.hi)) = rrC c l h s := ad_sb1 _ _ _
    simp only [rrg, prX, prC, hx, hcc, List.all_cons]
    by_cases h0 : rrX x l h = 0
    · rw [if_pos h0]
      simp only [h0, decide_true, Bool.true_and]
      exact IH
    · rw [if_neg h0]
      simp [h0]
  | [], _ :: _, _, _, c, e1, _, _ => by simp at e1
  | [], [], _ :: _, _, c, _, e2, _ => by simp at e2
  | [], [], [], _ :: _, c, _, _, e3 => by simp at e3
  | _ :: _, [], _, _, c, e1, _, _ => by simp at e1
  | _ :: _, _ :: _, [], _, c, _, e2, _ => by simp at e2
  | _ :: _, _ :: _, _ :: _, [], c, _, _, e3 => by simp at e3
theorem lft_rlft : ∀ (gs : List Ln) (ks : List Int) (x z : Ln), x.co = z.co → x.c = z.c → (lft x gs ks).co = (rlft z gs ks).co ∧ (lft x gs ks).c = (rlft z gs ks).c
  | [], ks, x, z, h1, h2 => by cases ks <;> exact ⟨h1, h2⟩
  | g :: gs, [], x, z, h1, h2 => ⟨h1, h2⟩
  | g :: gs, k :: ks, x, z, h1, h2 => by
    simp only [lft, rlft]
    refine lft_rlft gs ks _ _ ?_ ?_
    · simp only [pls, rpl, h1]; rfl
    · simp only [pls, rpl, h2]; rfl
theorem left_rleft (y : Stp) (c : Cl) : (left y c).co = (rleft y c).co ∧ (left y c).c = (rleft y c).c := lft_rlft c.gv y.gv _ _ rfl rfl
theorem prv_right {y : Stp} {c : Cl} (hc : c.Even) (h1 : y.lw.length = c.sp.length) (h2 : y.hg.length = c.sp.length) : prv y c = rright y c := by
  obtain ⟨e1, e2⟩ := left_rleft y c
  have hll : (left y c).co.length = c.sp.length := lft_len c.gv y.gv _ (by simp [pls, hc.go]) hc.gv
  have key := prv_core (left y c).co y.lw y.hg c.sp (left y c).c (by omega) (by omega) (by omega)
  unfold prv rright
  rw [← e1, ← e2]
  have ea : (!(prX (left y c).co y.lw y.hg).any fun n => decide (n ≠ 0)) = (prX (left y c).co y.lw y.hg).all (fun n => decide (n = 0)) := by
    rw [List.not_any_eq_all_not]
    congr 1; funext n; simp
  rw [ea]
  cases hr : rrg (left y c).co y.lw y.hg c.sp (left y c).c with
  | none =>
    rw [hr] at key
    simp only at key
    rw [key]; simp
  | some d =>
    rw [hr] at key
    simp only at key
    rw [key.1, key.2]
    simp [ng, sb]
end Go.Vm.P12

/- Chapter 12, plain laws: the leaves of both sides. -/
set_option maxRecDepth 100000
namespace Go.Vm.P12
open Go Go.Vm
def nz (s : Stp) : Stp := { s with gn := false, ln := false, hn := false }
end Go.Vm.P12

/- Chapter 12, the laws: values in the reference, ranges, copies of proofs and claims. -/
set_option maxRecDepth 100000
set_option maxHeartbeats 2000000
namespace Go.Vm.P12
open Go Go.Vm
def x44 (b : Bool) (l : List Int) (c : Cl) (ok : Bool) : AExit × S := match ok with
  | true => (.exit 0, ⟨[.junk, .imm (slD b 1 (l.map ic)), .junk, .ptr 0 0, .junk, .junk, .junk, .junk, .junk, .junk], [.box ((enC c).map .imm)], none⟩)
  | false => (.ret, ⟨[.junk, .imm (slD b 1 (l.map ic)), .imm (.bool false), .ptr 0 0, .junk, .junk, .junk, .junk, .junk, .junk], [.box ((enC c).map .imm)], none⟩)
def rng (m : Int) (l : List Int) : Int := fnz (l.map fun x => ckR x 0 m)
theorem l96 {n : Nat} {b : Bool} {m : Int} {l : List Int} (hl : l.length < 1000000000) : ∀ (r : List Int) (i : Nat), l.drop i = r →
    outC ⟨0, false⟩ [0, 0, 1, 0, 0, 0, 0] (rnd (aCode (level E (n+2)) ⟨0, false⟩ b96_0) (head ⟨0, false⟩ [1, 1, 0, 1, 0, 0, 0]) ⟨[.imm (slD b 1 (l.map ic)), .imm (.int .i64 m), .junk, .imm (.int .i64 i), .junk, .junk, .junk], [], none⟩) =
      some (if rng m r = 0 then (.exit 0, ⟨[.junk, .junk, .junk, .junk, .junk, .junk, .junk], [], none⟩) else (.ret, ⟨[.junk, .junk, .imm (.int .i64 (rng m r)), .junk, .junk, .junk, .junk], [], none⟩))
  | [], i, h => by
    rw [rnd_eq]
    simp only [go_sem, Nat.reduceAdd, Nat.reduceSub, Nat.reduceMul, Nat.reduceDiv, Nat.reduceMod, Nat.reduceLeDiff, Nat.reduceLT, Nat.reduceBEq, Int.reduceToNat, Int.reduceLT, Int.reduceLE, Int.reduceEq, lt_f (drop_n h), rng, fnz]
  | x :: r, i, h => by
    obtain ⟨h1, h2, h3⟩ := drop_c h
    have IH := l96 (n := n) (b := b) (m := m) hl r (i + 1) h3
    have h6 := wrpS (i := i) (by omega)
    have h17 := ok17 n x 0 m
    rw [rnd_eq]
    unfold rng at IH ⊢
    rw [List.map_cons, fnz_cons]
    by_cases h0 : ckR x 0 m = 0 <;> simp only [go_sem, Nat.reduceAdd, Nat.reduceSub, Nat.reduceMul, Nat.reduceDiv, Nat.reduceMod, Nat.reduceLeDiff, Nat.reduceLT, Nat.reduceBEq, Int.reduceToNat, Int.reduceLT, Int.reduceLE, Int.reduceEq, lt_t h2, h1, h17, h0, ne_eq, not_true_eq_false, not_false_eq_true, h6]
    exact IH
theorem ok96 (n : Nat) (b : Bool) (l : List Int) (m : Int) (hl : l.length < 1000000000) : callP (level E (n+3)) 96 [slD b 1 (l.map ic), .int .i64 m] = some (.int .i64 (rng m l)) := by
  have h := l96 (n := n) (b := b) (m := m) hl l 0 rfl
  rw [cast0] at h
  rw [p96]
  by_cases h0 : rng m l = 0 <;> simp only [go_sem, Nat.reduceAdd, Nat.reduceSub, Nat.reduceMul, Nat.reduceDiv, Nat.reduceMod, Nat.reduceLeDiff, Nat.reduceLT, Nat.reduceBEq, Int.reduceToNat, Int.reduceLT, Int.reduceLE, Int.reduceEq, sg_slD, h, h0]
theorem l97 {lo : Lower} {b : Bool} {k : Int} {l : List Int} (hl : l.length < 1000000000) : ∀ (r : List Int) (i : Nat), l.drop i = r →
    outC ⟨0, false⟩ [0, 0, 1, 0, 0, 0] (rnd (aCode lo ⟨0, false⟩ b97_0) (head ⟨0, false⟩ [1, 1, 0, 1, 0, 0]) ⟨[.imm (slD b 1 (l.map ic)), .imm (.int .i64 k), .junk, .imm (.int .i64 i), .junk, .junk], [], none⟩) =
      some (if r.contains k then (.ret, ⟨[.junk, .junk, .imm (.bool true), .junk, .junk, .junk], [], none⟩) else (.exit 0, ⟨[.junk, .junk, .junk, .junk, .junk, .junk], [], none⟩))
  | [], i, h => by
    rw [rnd_eq]
    simp only [go_sem, Nat.reduceAdd, Nat.reduceSub, Nat.reduceMul, Nat.reduceDiv, Nat.reduceMod, Nat.reduceLeDiff, Nat.reduceLT, Nat.reduceBEq, Int.reduceToNat, Int.reduceLT, Int.reduceLE, Int.reduceEq, lt_f (drop_n h), List.contains_nil, Bool.false_eq_true]
  | x :: r, i, h => by
    obtain ⟨h1, h2, h3⟩ := drop_c h
    have IH := l97 (lo := lo) (b := b) (k := k) hl r (i + 1) h3
    have h6 := wrpS (i := i) (by omega)
    rw [rnd_eq, List.contains_cons]
    by_cases h0 : x = k
    · subst h0
      simp only [go_sem, Nat.reduceAdd, Nat.reduceSub, Nat.reduceMul, Nat.reduceDiv, Nat.reduceMod, Nat.reduceLeDiff, Nat.reduceLT, Nat.reduceBEq, Int.reduceToNat, Int.reduceLT, Int.reduceLE, Int.reduceEq, lt_t h2, h1, beq_self_eq_true, Bool.true_or]
    · have e : (k == x) = false := by simpa using fun h : k = x => h0 h.symm
      simp only [go_sem, Nat.reduceAdd, Nat.reduceSub, Nat.reduceMul, Nat.reduceDiv, Nat.reduceMod, Nat.reduceLeDiff, Nat.reduceLT, Nat.reduceBEq, Int.reduceToNat, Int.reduceLT, Int.reduceLE, Int.reduceEq, lt_t h2, h1, h0, e, Bool.false_or, h6]
      exact IH
theorem ok97 (n : Nat) (b : Bool) (l : List Int) (k : Int) (hl : l.length < 1000000000) : callP (level E (n+1)) 97 [slD b 1 (l.map ic), .int .i64 k] = some (.bool (l.contains k)) := by
  have h := l97 (lo := level E n) (b := b) (k := k) hl l 0 rfl
  rw [cast0] at h
  rw [p97]
  cases h0 : l.contains k <;> rw [h0] at h <;> simp only [go_sem, Nat.reduceAdd, Nat.reduceSub, Nat.reduceMul, Nat.reduceDiv, Nat.reduceMod, Nat.reduceLeDiff, Nat.reduceLT, Nat.reduceBEq, Int.reduceToNat, Int.reduceLT, Int.reduceLE, Int.reduceEq, Bool.false_eq_true] at h <;> simp only [go_sem, Nat.reduceAdd, Nat.reduceSub, Nat.reduceMul, Nat.reduceDiv, Nat.reduceMod, Nat.reduceLeDiff, Nat.reduceLT, Nat.reduceBEq, Int.reduceToNat, Int.reduceLT, Int.reduceLE, Int.reduceEq, sg_slD, h]
end Go.Vm.P12

/- Chapter 12, functions: the form of a proof. -/
set_option maxRecDepth 100000
namespace Go.Vm.P12
open Go Go.Vm
section
variable {lo : Lower} {cx : Cx} {v0 v1 v2 v5 v6 v7 v8 v9 : AV}
def lf1 (y : Stp) (c : Cl) : Bool := decide (¬ (y.gv.length : Int) = c.gv.length) || decide (¬ (y.lw.length : Int) = c.sp.length) || decide (¬ (y.hg.length : Int) = c.sp.length)
@[go_sem high] theorem r75_3 {y : Stp} {c : Cl} {b0 b1 b2 b3 b4 b5 d1 d2 : D} :
    aCode lo cx (.region [
  ⟨none, none, .faddr 2 (.var 3)⟩,
  ⟨none, none, .load false 1 (.loc 0)⟩,
  ⟨none, none, .len .sl (.loc 1)⟩,
  ⟨none, none, .faddr 1 (.var 4)⟩,
  ⟨none, none, .load false 1 (.loc 3)⟩,
  ⟨none, none, .len .sl (.loc 4)⟩,
  ⟨none, none, .bin .neq (.loc 2) (.loc 5)⟩,
  ⟨none, none, .mv (.loc 6)⟩,
  ⟨none, some (7, false), .faddr 3 (.var 3)⟩,
  ⟨none, some (7, false), .load false 1 (.loc 8)⟩,
  ⟨none, some (7, false), .len .sl (.loc 9)⟩,
  ⟨none, some (7, false), .faddr 0 (.var 4)⟩,
  ⟨none, some (7, false), .load false 1 (.loc 11)⟩,
  ⟨none, some (7, false), .len .sl (.loc 12)⟩,
  ⟨none, some (7, false), .bin .neq (.loc 10) (.loc 13)⟩,
  ⟨none, none, .pick (.loc 7) (.k (.bool true)) (.loc 14)⟩,
  ⟨none, none, .mv (.loc 15)⟩,
  ⟨none, some (16, false), .faddr 4 (.var 3)⟩,
  ⟨none, some (16, false), .load false 1 (.loc 17)⟩,
  ⟨none, some (16, false), .len .sl (.loc 18)⟩,
  ⟨none, some (16, false), .faddr 0 (.var 4)⟩,
  ⟨none, some (16, false), .load false 1 (.loc 20)⟩,
  ⟨none, some (16, false), .len .sl (.loc 21)⟩,
  ⟨none, some (16, false), .bin .neq (.loc 19) (.loc 22)⟩,
  ⟨none, none, .pick (.loc 16) (.k (.bool true)) (.loc 23)⟩,
  ⟨(some 8), none, .mv (.loc 24)⟩] none) ⟨[v0, v1, v2, .ptr 0 0, .ptr 1 0, v5, v6, v7, v8, v9], [.box [.imm b0, .imm b1, .imm (slD y.gn 1 (y.gv.map ic)), .imm (slD y.ln 1 (y.lw.map ic)), .imm (slD y.hn 1 (y.hg.map ic)), .imm b2, .imm b3, .imm b4, .imm b5], .box [.imm (slD c.sn 2 (c.sp.map enS)), .imm (slD c.gn 2 (c.gv.map enL)), .imm d1, .imm d2]], none⟩ =
      some (.normal, ⟨[v0, v1, v2, .ptr 0 0, .ptr 1 0, v5, v6, v7, .imm (.bool (lf1 y c)), v9], [.box [.imm b0, .imm b1, .imm (slD y.gn 1 (y.gv.map ic)), .imm (slD y.ln 1 (y.lw.map ic)), .imm (slD y.hn 1 (y.hg.map ic)), .imm b2, .imm b3, .imm b4, .imm b5], .box [.imm (slD c.sn 2 (c.sp.map enS)), .imm (slD c.gn 2 (c.gv.map enL)), .imm d1, .imm d2]], none⟩) := by
  unfold lf1
  cases h1 : decide (¬ (y.gv.length : Int) = c.gv.length) <;> cases h2 : decide (¬ (y.lw.length : Int) = c.sp.length) <;>
    simp only [go_sem, Nat.reduceAdd, Nat.reduceSub, Nat.reduceMul, Nat.reduceDiv, Nat.reduceMod, Nat.reduceLeDiff, Nat.reduceLT, Nat.reduceBEq, Int.reduceToNat, Int.reduceLT, Int.reduceLE, Int.reduceEq, ne_eq, h1, h2, Bool.true_or, Bool.false_or]
def lf2 (y : Stp) : Bool := offB y.goal 0 1000 || y.gv.any (fun x => offB x 0 1000) || y.lw.any (fun x => offB x 0 34359738368) || y.hg.any (fun x => offB x 0 34359738368)
structure Stp.Fits (s : Stp) : Prop where
  gv : s.gv.length < 1000000000
  lw : s.lw.length < 1000000000
  hg : s.hg.length < 1000000000
@[go_sem high] theorem r75_4 {n : Nat} {y : Stp} {o : AO} {b0 : D} (hy : y.Fits) :
    aCode (level E (n + 4)) cx (.region [
  ⟨none, none, .mv (.var 6)⟩,
  ⟨none, none, .faddr 1 (.var 3)⟩,
  ⟨none, none, .load false 1 (.loc 1)⟩,
  ⟨none, none, .call .pure (.loc 0) [(.loc 2)]⟩,
  ⟨none, none, .mv (.loc 3)⟩,
  ⟨none, some (4, false), .faddr 2 (.var 3)⟩,
  ⟨none, some (4, false), .load false 1 (.loc 5)⟩,
  ⟨none, some (4, false), .mv (.var 6)⟩,
  ⟨none, some (4, false), .call .pure (.k (.fn 67 [] [])) [(.loc 6), (.loc 7)]⟩,
  ⟨none, none, .pick (.loc 4) (.k (.bool true)) (.loc 8)⟩,
  ⟨none, none, .mv (.loc 9)⟩,
  ⟨none, some (10, false), .faddr 3 (.var 3)⟩,
  ⟨none, some (10, false), .load false 1 (.loc 11)⟩,
  ⟨none, some (10, false), .mv (.var 7)⟩,
  ⟨none, some (10, false), .call .pure (.k (.fn 67 [] [])) [(.loc 12), (.loc 13)]⟩,
  ⟨none, none, .pick (.loc 10) (.k (.bool true)) (.loc 14)⟩,
  ⟨none, none, .mv (.loc 15)⟩,
  ⟨none, some (16, false), .faddr 4 (.var 3)⟩,
  ⟨none, some (16, false), .load false 1 (.loc 17)⟩,
  ⟨none, some (16, false), .mv (.var 7)⟩,
  ⟨none, some (16, false), .call .pure (.k (.fn 67 [] [])) [(.loc 18), (.loc 19)]⟩,
  ⟨none, none, .pick (.loc 16) (.k (.bool true)) (.loc 20)⟩,
  ⟨(some 9), none, .mv (.loc 21)⟩] none) ⟨[v0, v1, v2, .ptr 0 0, v5, v7, .imm (.fn 95 [] [.ptr [.int .i64 1000]]), .imm (.fn 95 [] [.ptr [.int .i64 34359738368]]), v8, v9], [.box [.imm b0, .imm (.int .i64 y.goal), .imm (slD y.gn 1 (y.gv.map ic)), .imm (slD y.ln 1 (y.lw.map ic)), .imm (slD y.hn 1 (y.hg.map ic)), .imm (.int .i64 y.va), .imm (.int .i64 y.bo), .imm (.int .i64 y.k0), .imm (.int .i64 y.k1)], o], none⟩ =
      some (.normal, ⟨[v0, v1, v2, .ptr 0 0, v5, v7, .imm (.fn 95 [] [.ptr [.int .i64 1000]]), .imm (.fn 95 [] [.ptr [.int .i64 34359738368]]), v8, .imm (.bool (lf2 y))], [.box [.imm b0, .imm (.int .i64 y.goal), .imm (slD y.gn 1 (y.gv.map ic)), .imm (slD y.ln 1 (y.lw.map ic)), .imm (slD y.hn 1 (y.hg.map ic)), .imm (.int .i64 y.va), .imm (.int .i64 y.bo), .imm (.int .i64 y.k0), .imm (.int .i64 y.k1)], o], none⟩) := by
  have h0 := ok95 (n + 2) y.goal 1000 []
  have h1 := ok67 (n + 2) y.gn y.gv 95 [.ptr [.int .i64 1000]] (fun x => offB x 0 1000) (fun x _ => ok95 n x 1000 []) hy.gv
  have h2 := ok67 (n + 2) y.ln y.lw 95 [.ptr [.int .i64 34359738368]] (fun x => offB x 0 34359738368) (fun x _ => ok95 n x 34359738368 []) hy.lw
  have h3 := ok67 (n + 2) y.hn y.hg 95 [.ptr [.int .i64 34359738368]] (fun x => offB x 0 34359738368) (fun x _ => ok95 n x 34359738368 []) hy.hg
  unfold lf2
  cases a0 : offB y.goal 0 1000 <;> rw [a0] at h0 <;> cases a1 : y.gv.any (fun x => offB x 0 1000) <;> rw [a1] at h1 <;> cases a2 : y.lw.any (fun x => offB x 0 34359738368) <;> rw [a2] at h2 <;>
    simp only [go_sem, Nat.reduceAdd, Nat.reduceSub, Nat.reduceMul, Nat.reduceDiv, Nat.reduceMod, Nat.reduceLeDiff, Nat.reduceLT, Nat.reduceBEq, Int.reduceToNat, Int.reduceLT, Int.reduceLE, Int.reduceEq, h0, h1, h2, h3, Bool.true_or, Bool.false_or]
def lf3 (y : Stp) : Bool := decide (¬ y.va = 0) || decide (¬ y.bo = 0) || !(decide (y.k0 = 0) && decide (y.k1 = 0))
def lfErr (y : Stp) (c : Cl) : Int := fnz [if lf1 y c then 2 else 0, if lf2 y then 3 else 0, if lf3 y then 1 else 0]
@[go_sem high] theorem r75_5 {n : Nat} {y : Stp} {o : AO} {b0 : D} {e1 e2 : Bool} :
    aCode (level E (n + 1)) cx (.region [
  ⟨none, none, .mv (.var 8)⟩,
  ⟨none, none, .call .pure (.k (.fn 58 [] [])) [(.loc 0), (.k (.int .i64 2))]⟩,
  ⟨none, none, .mv (.var 9)⟩,
  ⟨none, none, .call .pure (.k (.fn 58 [] [])) [(.loc 2), (.k (.int .i64 3))]⟩,
  ⟨none, none, .faddr 5 (.var 3)⟩,
  ⟨none, none, .load false 1 (.loc 4)⟩,
  ⟨none, none, .bin .neq (.loc 5) (.k (.int .i64 0))⟩,
  ⟨none, none, .mv (.loc 6)⟩,
  ⟨none, some (7, false), .faddr 6 (.var 3)⟩,
  ⟨none, some (7, false), .load false 1 (.loc 8)⟩,
  ⟨none, some (7, false), .bin .neq (.loc 9) (.k (.int .i64 0))⟩,
  ⟨none, none, .pick (.loc 7) (.k (.bool true)) (.loc 10)⟩,
  ⟨none, none, .mv (.loc 11)⟩,
  ⟨none, some (12, false), .faddr 7 (.var 3)⟩,
  ⟨none, some (12, false), .load true 2 (.loc 13)⟩,
  ⟨none, some (12, false), .build [.int .i64 0, .int .i64 0] []⟩,
  ⟨none, some (12, false), .eqs true (.agg [(0, .int), (1, .int)]) (.loc 14) (.loc 15)⟩,
  ⟨none, none, .pick (.loc 12) (.k (.bool true)) (.loc 16)⟩,
  ⟨none, none, .call .pure (.k (.fn 58 [] [])) [(.loc 17), (.k (.int .i64 1))]⟩,
  ⟨none, none, .bslice false 1 [.int .i64 0] 3 [(0, (.loc 1)), (1, (.loc 3)), (2, (.loc 18))]⟩,
  ⟨none, none, .call .pure (.k (.fn 57 [] [])) [(.loc 19)]⟩,
  ⟨(some 2), none, .mv (.loc 20)⟩] (some (22, []))) ⟨[v0, v1, v2, .ptr 0 0, v5, v7, v6, v8, .imm (.bool e1), .imm (.bool e2)], [.box [.imm b0, .imm (.int .i64 y.goal), .imm (slD y.gn 1 (y.gv.map ic)), .imm (slD y.ln 1 (y.lw.map ic)), .imm (slD y.hn 1 (y.hg.map ic)), .imm (.int .i64 y.va), .imm (.int .i64 y.bo), .imm (.int .i64 y.k0), .imm (.int .i64 y.k1)], o], none⟩ =
      some (.normal, ⟨[v0, v1, .imm (.int .i64 (fnz [if e1 then 2 else 0, if e2 then 3 else 0, if lf3 y then 1 else 0])), .ptr 0 0, v5, v7, v6, v8, .imm (.bool e1), .imm (.bool e2)], [.box [.imm b0, .imm (.int .i64 y.goal), .imm (slD y.gn 1 (y.gv.map ic)), .imm (slD y.ln 1 (y.lw.map ic)), .imm (slD y.hn 1 (y.hg.map ic)), .imm (.int .i64 y.va), .imm (.int .i64 y.bo), .imm (.int .i64 y.k0), .imm (.int .i64 y.k1)], o], none⟩) := by
  have h1 := ok58 n e1 2
  have h2 := ok58 n e2 3
  have h3 := ok58 n (lf3 y) 1
  have h57 := ok57_3 n (if e1 then 2 else 0) (if e2 then 3 else 0) (if lf3 y then 1 else 0)
  have hl : lf3 y = (decide (¬ y.va = 0) || decide (¬ y.bo = 0) || !(decide (y.k0 = 0) && decide (y.k1 = 0))) := rfl
  cases a0 : decide (¬ y.va = 0) <;> rw [a0] at hl
  · cases a1 : decide (¬ y.bo = 0) <;> rw [a1] at hl
    · simp only [Bool.false_or] at hl
      simp only [← hl, go_sem, Nat.reduceAdd, Nat.reduceSub, Nat.reduceMul, Nat.reduceDiv, Nat.reduceMod, Nat.reduceLeDiff, Nat.reduceLT, Nat.reduceBEq, Int.reduceToNat, Int.reduceLT, Int.reduceLE, Int.reduceEq, ne_eq, a0, a1, h1, h2, h3, h57, eq_agg2]
    · simp only [Bool.true_or, Bool.false_or] at hl
      rw [hl] at h3 h57 ⊢
      simp only [if_true] at h3 h57
      simp only [go_sem, Nat.reduceAdd, Nat.reduceSub, Nat.reduceMul, Nat.reduceDiv, Nat.reduceMod, Nat.reduceLeDiff, Nat.reduceLT, Nat.reduceBEq, Int.reduceToNat, Int.reduceLT, Int.reduceLE, Int.reduceEq, ne_eq, a0, a1, h1, h2, h3, h57, eq_agg2]
  · simp only [Bool.true_or] at hl
    rw [hl] at h3 h57 ⊢
    simp only [if_true] at h3 h57
    simp only [go_sem, Nat.reduceAdd, Nat.reduceSub, Nat.reduceMul, Nat.reduceDiv, Nat.reduceMod, Nat.reduceLeDiff, Nat.reduceLT, Nat.reduceBEq, Int.reduceToNat, Int.reduceLT, Int.reduceLE, Int.reduceEq, ne_eq, a0, h1, h2, h3, h57, eq_agg2]
theorem ok75 (n : Nat) (y : Stp) (c : Cl) (hy : y.Fits) : callP (level E (n + 5)) 75 [.agg (enT y), .agg (enC c)] = some (.int .i64 (lfErr y c)) := by
  have h94 := ok94 (n + 3)
  have r4 := fun (v0 v1 v2 v5 v7 v8 v9 : AV) (o : AO) (b0 : D) => @r75_4 ⟨0, false⟩ v0 v1 v2 v5 v7 v8 v9 n y o b0 hy
  rw [p75]
  simp only [go_sem, Nat.reduceAdd, Nat.reduceSub, Nat.reduceMul, Nat.reduceDiv, Nat.reduceMod, Nat.reduceLeDiff, Nat.reduceLT, Nat.reduceBEq, Int.reduceToNat, Int.reduceLT, Int.reduceLE, Int.reduceEq, h94, r4]
  rfl
end
end Go.Vm.P12

/- Chapter 12, functions: the form of a proof, splits. -/
set_option maxRecDepth 100000
namespace Go.Vm.P12
open Go Go.Vm
def mk (ks : List Int) : List (Int × D) := ks.map (·, .bool true)
theorem look_mk (k : Int) : ∀ ks : List Int, (lookI (mk ks) k).getD (.bool false) = .bool (ks.contains k)
  | [] => rfl
  | x :: ks => by
    have IH := look_mk k ks
    simp only [lookI, mk, List.map_cons] at IH ⊢
    rw [List.find?_cons]
    simp only
    by_cases h : x = k
    · subst h; simp
    · have h1 : (x == k) = false := by simpa using h
      have h2 : (k == x) = false := by simpa using fun e : k = x => h e.symm
      rw [h1, List.contains_cons, h2]
      simpa using IH
theorem set_mk (k : Int) : ∀ ks : List Int, ks.contains k = false → mapSet (mk ks) k (.bool true) = mk (ks ++ [k])
  | [], _ => rfl
  | x :: ks, h => by
    rw [List.contains_cons, Bool.or_eq_false_iff] at h
    have h1 : ¬ x = k := fun e => by rw [e] at h; simp at h
    have IH := set_mk k ks h.2
    simp only [mk, List.map_cons, mapSet, if_neg h1, List.cons_append] at IH ⊢
    rw [IH]
def lk2 (z : D) (k : Int) (o : Option AO) : Option (AV × List AO) := match o with
  | some (.imap es) => some (.imm ((lookI es k).getD z), [])
  | _ => none
theorem lk_map {st : List AO} {z : D} {id : Nat} {k : Int} : lkC st z (.map id) (some k) = lk2 z k st[id]? := by
  simp only [lkC, lk2]
  rcases st[id]? with _ | o
  · rfl
  · cases o <;> rfl
theorem lk_mk {k : Int} {ks : List Int} : lk2 (.bool false) k (some (.imap (mk ks))) = some (.imm (.bool (ks.contains k)), []) := by
  simp only [lk2, look_mk]
def muC (vars : List AV) (ext : Option Ext) (st : List AO) (id : Nat) (k : Int) (v : D) (o : Option AO) : Option (AV × S) := match o with
  | some (.imap es) => some (.junk, ⟨vars, st.set id (.imap (mapSet es k v)), ext⟩)
  | _ => none
def muF (vars : List AV) (ext : Option Ext) (st : List AO) (m : AV) (k : Option Int) (v : AV) : Option (AV × S) := match m, k, v with
  | .map id, some k, .imm v => muC vars ext st id k v st[id]?
  | _, _, _ => none
theorem mu_go {vars : List AV} {ext : Option Ext} {st : List AO} {id : Nat} {k : Int} {d : D} : muF vars ext st (.map id) (some k) (.imm d) = muC vars ext st id k d st[id]? := _root_.id rfl
theorem op_mapup' {lo : Lower} {vars env : List AV} {st : List AO} {ext : Option Ext} {m k v : Opnd} :
    aOp lo vars env ⟨vars, st, ext⟩ (.mapup m k v) = muF vars ext st (opnd vars env m) (keyI (opnd vars env k)) (opnd vars env v) := by
  simp only [aOp, muF, muC]
  rcases opnd vars env m <;> rcases keyI (opnd vars env k) with _ | k' <;> rcases opnd vars env v <;> simp only <;> split <;> simp_all
theorem mu_mk {vars : List AV} {st : List AO} {ext : Option Ext} {id : Nat} {k : Int} {ks : List Int} (h : ks.contains k = false) : muC vars ext st id k (.bool true) (some (.imap (mk ks))) = some (.junk, ⟨vars, st.set id (.imap (mk (ks ++ [k]))), ext⟩) := by
  simp only [muC, set_mk k ks h]
theorem len_mk {ks : List Int} : (mk ks).length = ks.length := by simp [mk]
attribute [go_sem] lk_map lk_mk op_mapup' mu_go mu_mk len_mk
section
variable {lo : Lower} {cx : Cx} {v0 v1 v2 v3 v4 v7 v8 v9 v10 v11 v12 v13 v14 : AV}
def sp1 (y : Stp) : Bool := decide (¬ y.goal = 0) || decide (0 < wrp .i64 (wrp .i64 (y.gv.length + y.lw.length) + y.hg.length))
@[go_sem high] theorem r76_1 {m o : AO} {y : Stp} {b0 b2 b3 b4 b5 : D} :
    aCode lo cx (.region [
  ⟨none, none, .faddr 1 (.var 5)⟩,
  ⟨none, none, .load false 1 (.loc 0)⟩,
  ⟨none, none, .bin .neq (.loc 1) (.k (.int .i64 0))⟩,
  ⟨none, none, .mv (.loc 2)⟩,
  ⟨none, some (3, false), .faddr 2 (.var 5)⟩,
  ⟨none, some (3, false), .load false 1 (.loc 4)⟩,
  ⟨none, some (3, false), .len .sl (.loc 5)⟩,
  ⟨none, some (3, false), .faddr 3 (.var 5)⟩,
  ⟨none, some (3, false), .load false 1 (.loc 7)⟩,
  ⟨none, some (3, false), .len .sl (.loc 8)⟩,
  ⟨none, some (3, false), .bin .add (.loc 6) (.loc 9)⟩,
  ⟨none, some (3, false), .faddr 4 (.var 5)⟩,
  ⟨none, some (3, false), .load false 1 (.loc 11)⟩,
  ⟨none, some (3, false), .len .sl (.loc 12)⟩,
  ⟨none, some (3, false), .bin .add (.loc 10) (.loc 13)⟩,
  ⟨none, some (3, false), .bin .gtr (.loc 14) (.k (.int .i64 0))⟩,
  ⟨none, none, .pick (.loc 3) (.k (.bool true)) (.loc 15)⟩,
  ⟨(some 7), none, .mv (.loc 16)⟩] none) ⟨[v0, v1, v2, v3, v4, .ptr 1 0, .ptr 2 0, v7, v8, v9, v10, v11, v12, v13, v14], [m, .box [.imm b0, .imm (.int .i64 y.goal), .imm (slD y.gn 1 (y.gv.map ic)), .imm (slD y.ln 1 (y.lw.map ic)), .imm (slD y.hn 1 (y.hg.map ic)), .imm b2, .imm b3, .imm b4, .imm b5], o], none⟩ =
      some (.normal, ⟨[v0, v1, v2, v3, v4, .ptr 1 0, .ptr 2 0, .imm (.bool (sp1 y)), v8, v9, v10, v11, v12, v13, v14], [m, .box [.imm b0, .imm (.int .i64 y.goal), .imm (slD y.gn 1 (y.gv.map ic)), .imm (slD y.ln 1 (y.lw.map ic)), .imm (slD y.hn 1 (y.hg.map ic)), .imm b2, .imm b3, .imm b4, .imm b5], o], none⟩) := by
  unfold sp1
  cases h1 : decide (¬ y.goal = 0) <;> simp only [go_sem, Nat.reduceAdd, Nat.reduceSub, Nat.reduceMul, Nat.reduceDiv, Nat.reduceMod, Nat.reduceLeDiff, Nat.reduceLT, Nat.reduceBEq, Int.reduceToNat, Int.reduceLT, Int.reduceLE, Int.reduceEq, ne_eq, h1, Bool.true_or, Bool.false_or]
def sp2 (y : Stp) (i : Int) : Bool := offB y.k0 0 (sb i 1) || offB y.k1 0 (sb i 1)
def spE (e : Bool) (y : Stp) (c : Cl) (i : Int) : Int := fnz [if e then 1 else 0, if offB y.va 0 (sb c.sp.length 1) then 8 else 0, if offB y.bo (-1048576) 1048576 then 3 else 0, if sp2 y i then 9 else 0]
@[go_sem high] theorem r76_2 {n : Nat} {m : AO} {y : Stp} {c : Cl} {i : Int} {b0 b1 b2 b3 b4 d0 d1 d2 : D} {e : Bool} :
    aCode (level E (n + 1)) cx (.region [
  ⟨none, none, .mv (.var 7)⟩,
  ⟨none, none, .call .pure (.k (.fn 58 [] [])) [(.loc 0), (.k (.int .i64 1))]⟩,
  ⟨none, none, .faddr 5 (.var 5)⟩,
  ⟨none, none, .load false 1 (.loc 2)⟩,
  ⟨none, none, .faddr 0 (.var 6)⟩,
  ⟨none, none, .load false 1 (.loc 4)⟩,
  ⟨none, none, .len .sl (.loc 5)⟩,
  ⟨none, none, .bin .sub (.loc 6) (.k (.int .i64 1))⟩,
  ⟨none, none, .call .pure (.k (.fn 59 [] [])) [(.loc 3), (.k (.int .i64 0)), (.loc 7)]⟩,
  ⟨none, none, .call .pure (.k (.fn 58 [] [])) [(.loc 8), (.k (.int .i64 8))]⟩,
  ⟨none, none, .faddr 6 (.var 5)⟩,
  ⟨none, none, .load false 1 (.loc 10)⟩,
  ⟨none, none, .call .pure (.k (.fn 59 [] [])) [(.loc 11), (.k (.int .i64 (-1048576))), (.k (.int .i64 1048576))]⟩,
  ⟨none, none, .call .pure (.k (.fn 58 [] [])) [(.loc 12), (.k (.int .i64 3))]⟩,
  ⟨none, none, .faddr 7 (.var 5)⟩,
  ⟨none, none, .iaddr (some 2) 1 (.loc 14) (.k (.int .i64 0))⟩,
  ⟨none, none, .load false 1 (.loc 15)⟩,
  ⟨none, none, .mv (.var 2)⟩,
  ⟨none, none, .bin .sub (.loc 17) (.k (.int .i64 1))⟩,
  ⟨none, none, .call .pure (.k (.fn 59 [] [])) [(.loc 16), (.k (.int .i64 0)), (.loc 18)]⟩,
  ⟨none, none, .mv (.loc 19)⟩,
  ⟨none, some (20, false), .faddr 7 (.var 5)⟩,
  ⟨none, some (20, false), .iaddr (some 2) 1 (.loc 21) (.k (.int .i64 1))⟩,
  ⟨none, some (20, false), .load false 1 (.loc 22)⟩,
  ⟨none, some (20, false), .mv (.var 2)⟩,
  ⟨none, some (20, false), .bin .sub (.loc 24) (.k (.int .i64 1))⟩,
  ⟨none, some (20, false), .call .pure (.k (.fn 59 [] [])) [(.loc 23), (.k (.int .i64 0)), (.loc 25)]⟩,
  ⟨none, none, .pick (.loc 20) (.k (.bool true)) (.loc 26)⟩,
  ⟨none, none, .call .pure (.k (.fn 58 [] [])) [(.loc 27), (.k (.int .i64 9))]⟩,
  ⟨none, none, .bslice false 1 [.int .i64 0] 4 [(0, (.loc 1)), (1, (.loc 9)), (2, (.loc 13)), (3, (.loc 28))]⟩,
  ⟨none, none, .call .pure (.k (.fn 57 [] [])) [(.loc 29)]⟩,
  ⟨(some 8), none, .mv (.loc 30)⟩] (some (32, []))) ⟨[v0, v1, .imm (.int .i64 i), v3, v4, .ptr 1 0, .ptr 2 0, .imm (.bool e), v8, v9, v10, v11, v12, v13, v14], [m, .box [.imm b0, .imm b1, .imm b2, .imm b3, .imm b4, .imm (.int .i64 y.va), .imm (.int .i64 y.bo), .imm (.int .i64 y.k0), .imm (.int .i64 y.k1)], .box [.imm (slD c.sn 2 (c.sp.map enS)), .imm d0, .imm d1, .imm d2]], none⟩ =
      some (.normal, ⟨[v0, v1, .imm (.int .i64 i), v3, v4, .ptr 1 0, .ptr 2 0, .imm (.bool e), .imm (.int .i64 (spE e y c i)), v9, v10, v11, v12, v13, v14], [m, .box [.imm b0, .imm b1, .imm b2, .imm b3, .imm b4, .imm (.int .i64 y.va), .imm (.int .i64 y.bo), .imm (.int .i64 y.k0), .imm (.int .i64 y.k1)], .box [.imm (slD c.sn 2 (c.sp.map enS)), .imm d0, .imm d1, .imm d2]], none⟩) := by
  have h1 := ok58 n e 1
  have h2 := ok58 n (offB y.va 0 (sb c.sp.length 1)) 8
  have h3 := ok58 n (offB y.bo (-1048576) 1048576) 3
  have h4 := ok58 n (sp2 y i) 9
  have h57 := ok57_4 n (if e then 1 else 0) (if offB y.va 0 (sb c.sp.length 1) then 8 else 0) (if offB y.bo (-1048576) 1048576 then 3 else 0) (if sp2 y i then 9 else 0)
  have h5 := ok59 n y.k0 0 (sb i 1)
  have h6 := ok59 n y.k1 0 (sb i 1)
  have h7 := ok59 n y.va 0 (sb c.sp.length 1)
  have h8 := ok59 n y.bo (-1048576) 1048576
  have g1 : wrp .i64 (((c.sp.length : Nat) : Int) - 1) = sb c.sp.length 1 := rfl
  have g2 : wrp .i64 (i - 1) = sb i 1 := rfl
  have z0 : (0 : Int) < ((2 : Nat) : Int) := by decide
  have z1 : (1 : Int) < ((2 : Nat) : Int) := by decide
  have hs : sp2 y i = (offB y.k0 0 (sb i 1) || offB y.k1 0 (sb i 1)) := rfl
  unfold spE
  cases a0 : offB y.k0 0 (sb i 1) <;> rw [a0] at h5 hs
  · simp only [Bool.false_or] at hs
    rw [← hs] at h6
    simp only [go_sem, Nat.reduceAdd, Nat.reduceSub, Nat.reduceMul, Nat.reduceDiv, Nat.reduceMod, Nat.reduceLeDiff, Nat.reduceLT, Nat.reduceBEq, Int.reduceToNat, Int.reduceLT, Int.reduceLE, Int.reduceEq, g1, g2, z0, z1, h1, h2, h3, h4, h57, h5, h6, h7, h8]
  · simp only [Bool.true_or] at hs
    rw [hs] at h4 h57 ⊢
    simp only [if_true] at h4 h57
    simp only [go_sem, Nat.reduceAdd, Nat.reduceSub, Nat.reduceMul, Nat.reduceDiv, Nat.reduceMod, Nat.reduceLeDiff, Nat.reduceLT, Nat.reduceBEq, Int.reduceToNat, Int.reduceLT, Int.reduceLE, Int.reduceEq, g1, g2, z0, z1, h1, h2, h3, h4, h57, h5, h6, h7, h8]
end
def spl (y : Stp) (c : Cl) (i : Int) (ks : List Int) : Int × List Int :=
  if spE (sp1 y) y c i = 0 then
    if ks.contains y.k0 then (7, ks) else if (ks ++ [y.k0]).contains y.k1 then (7, ks ++ [y.k0]) else (0, ks ++ [y.k0] ++ [y.k1])
  else (spE (sp1 y) y c i, ks)
theorem ok76 (n : Nat) (y : Stp) (c : Cl) (i : Int) (ks : List Int) : callS (level E (n + 2)) 76 [.imm (.agg (enT y)), .imm (.agg (enC c)), .imm (.int .i64 i), .map 0] [.imap (mk ks)] = some (.imm (.int .i64 (spl y c i ks).1), [.imap (mk (spl y c i ks).2)]) := by
  rw [callS_go (n := n + 1) (fn := ir76) (c := c76) (r := [.v 4]) rfl rfl rfl rfl rfl]
  have u := rnd_eq (aCode (level E (n + 1)) ⟨1, false⟩ b76_0)
  have z0 : (0 : Int) < ((2 : Nat) : Int) := by decide
  have z1 : (1 : Int) < ((2 : Nat) : Int) := by decide
  unfold spl
  by_cases h0 : spE (sp1 y) y c i = 0
  · cases a0 : ks.contains y.k0
    · cases a1 : (ks ++ [y.k0]).contains y.k1
      · simp only [go_sem, Nat.reduceAdd, Nat.reduceSub, Nat.reduceMul, Nat.reduceDiv, Nat.reduceMod, Nat.reduceLeDiff, Nat.reduceLT, Nat.reduceBEq, Int.reduceToNat, Int.reduceLT, Int.reduceLE, Int.reduceEq, ir76, sg_slD, h0, u, z0, z1, a0, a1, ne_eq, not_true_eq_false]
        trace_state
      · simp only [go_sem, Nat.reduceAdd, Nat.reduceSub, Nat.reduceMul, Nat.reduceDiv, Nat.reduceMod, Nat.reduceLeDiff, Nat.reduceLT, Nat.reduceBEq, Int.reduceToNat, Int.reduceLT, Int.reduceLE, Int.reduceEq, ir76, sg_slD, h0, u, z0, z1, a0, a1, ne_eq, not_true_eq_false]
        trace_state
    · simp only [go_sem, Nat.reduceAdd, Nat.reduceSub, Nat.reduceMul, Nat.reduceDiv, Nat.reduceMod, Nat.reduceLeDiff, Nat.reduceLT, Nat.reduceBEq, Int.reduceToNat, Int.reduceLT, Int.reduceLE, Int.reduceEq, ir76, sg_slD, h0, u, z0, z1, a0, ne_eq, not_true_eq_false]
      trace_state
  · simp only [go_sem, Nat.reduceAdd, Nat.reduceSub, Nat.reduceMul, Nat.reduceDiv, Nat.reduceMod, Nat.reduceLeDiff, Nat.reduceLT, Nat.reduceBEq, Int.reduceToNat, Int.reduceLT, Int.reduceLE, Int.reduceEq, ir76, sg_slD, h0, ne_eq, not_false_eq_true]
    trace_state
end Go.Vm.P12

/- Chapter 12, functions: the form of a proof, end. -/
set_option maxRecDepth 100000
namespace Go.Vm.P12
open Go Go.Vm
def cf (c : Cl) : List Stp → Nat → List Int → Int × List Int
  | [], _, ks => (0, ks)
  | s :: r, i, ks => if s.leaf then (if lfErr s c = 0 then cf c r (i + 1) ks else (lfErr s c, ks)) else
    if (spl s c i ks).1 = 0 then cf c r (i + 1) (spl s c i ks).2 else spl s c i ks
def x29 (b : Bool) (l : List Stp) (r : Int × List Int) : AExit × S := if r.1 = 0 then
    (.exit 0, ⟨[.junk, .junk, .junk, .junk, .ptr 0 0, .junk, .map 1, .junk, .junk, .junk, .junk, .junk, .junk, .junk, .junk, .junk, .junk], [.box [.imm (slD b 9 (l.map enT))], .imap (mk r.2)], none⟩)
  else (.ret, ⟨[.junk, .junk, .imm (.int .i64 r.1), .junk, .ptr 0 0, .junk, .map 1, .junk, .junk, .junk, .junk, .junk, .junk, .junk, .junk, .junk, .junk], [.box [.imm (slD b 9 (l.map enT))], .imap (mk r.2)], none⟩)
theorem l29 {n : Nat} {c : Cl} {b : Bool} {l : List Stp} (hl : l.length < 1000000000) (hf : ∀ s ∈ l, s.Fits) : ∀ (r : List Stp) (i : Nat) (ks : List Int), l.drop i = r →
    outC ⟨0, false⟩ [0, 0, 1, 0, 1, 0, 1, 0, 0, 0, 0, 0, 0, 0, 0, 0, 0] (rnd (aCode (level E (n + 5)) ⟨0, false⟩ b29_0) (head ⟨0, false⟩ [0, 0, 0, 1, 1, 0, 1, 0, 0, 0, 0, 1, 1, 1, 0, 0, 0])
      ⟨[.junk, .junk, .junk, .ptr 0 0, .ptr 1 0, .junk, .map 2, .junk, .junk, .junk, .junk, .imm (slD b 9 (l.map enT)), .imm (.int .i64 l.length), .imm (.int .i64 i), .junk, .junk, .junk],
       [.box ((enC c).map .imm), .box [.imm (slD b 9 (l.map enT))], .imap (mk ks)], none⟩) = some (x29 b l (cf c r i ks))
  | [], i, ks, h => by
    rw [rnd_eq]
    simp only [go_sem, Nat.reduceAdd, Nat.reduceSub, Nat.reduceMul, Nat.reduceDiv, Nat.reduceMod, Nat.reduceLeDiff, Nat.reduceLT, Nat.reduceBEq, Int.reduceToNat, Int.reduceLT, Int.reduceLE, Int.reduceEq, lt_f (drop_n h), cf, x29]
  | s :: r, i, ks, h => by
    obtain ⟨h1, h2, h3⟩ := drop_c h
    have h6 := wrpS (i := i) (by omega)
    have h75 := ok75 n s c (hf s (List.mem_of_getElem? h1))
    have h76 := ok76 (n + 3) s c i ks
    rw [rnd_eq]
    simp only [cf]
    cases hs : s.leaf
    · simp only [Bool.false_eq_true, if_false]
      generalize spl s c i ks = q at h76
      obtain ⟨e, ks'⟩ := q
      simp only [go_sem, Nat.reduceAdd, Nat.reduceSub, Nat.reduceMul, Nat.reduceDiv, Nat.reduceMod, Nat.reduceLeDiff, Nat.reduceLT, Nat.reduceBEq, Int.reduceToNat, Int.reduceLT, Int.reduceLE, Int.reduceEq, hs] at h76
      by_cases h0 : e = 0
      · have IH := l29 (n := n) (c := c) (b := b) hl hf r (i + 1) ks' h3
        simp only [h0, if_true]
        rw [h0] at h76
        simp only [go_sem, Nat.reduceAdd, Nat.reduceSub, Nat.reduceMul, Nat.reduceDiv, Nat.reduceMod, Nat.reduceLeDiff, Nat.reduceLT, Nat.reduceBEq, Int.reduceToNat, Int.reduceLT, Int.reduceLE, Int.reduceEq] at IH
        simp only [go_sem, Nat.reduceAdd, Nat.reduceSub, Nat.reduceMul, Nat.reduceDiv, Nat.reduceMod, Nat.reduceLeDiff, Nat.reduceLT, Nat.reduceBEq, Int.reduceToNat, Int.reduceLT, Int.reduceLE, Int.reduceEq, lt_t h2, h1, h6, hs, h76, ne_eq, not_true_eq_false]
        exact IH
      · simp only [h0, if_false, x29]
        simp only [go_sem, Nat.reduceAdd, Nat.reduceSub, Nat.reduceMul, Nat.reduceDiv, Nat.reduceMod, Nat.reduceLeDiff, Nat.reduceLT, Nat.reduceBEq, Int.reduceToNat, Int.reduceLT, Int.reduceLE, Int.reduceEq, lt_t h2, h1, h6, hs, h76, ne_eq, h0, not_false_eq_true]
    · simp only [if_true]
      simp only [go_sem, Nat.reduceAdd, Nat.reduceSub, Nat.reduceMul, Nat.reduceDiv, Nat.reduceMod, Nat.reduceLeDiff, Nat.reduceLT, Nat.reduceBEq, Int.reduceToNat, Int.reduceLT, Int.reduceLE, Int.reduceEq, hs] at h75
      by_cases h0 : lfErr s c = 0
      · have IH := l29 (n := n) (c := c) (b := b) hl hf r (i + 1) ks h3
        simp only [h0, if_true]
        rw [h0] at h75
        simp only [go_sem, Nat.reduceAdd, Nat.reduceSub, Nat.reduceMul, Nat.reduceDiv, Nat.reduceMod, Nat.reduceLeDiff, Nat.reduceLT, Nat.reduceBEq, Int.reduceToNat, Int.reduceLT, Int.reduceLE, Int.reduceEq] at IH
        simp only [go_sem, Nat.reduceAdd, Nat.reduceSub, Nat.reduceMul, Nat.reduceDiv, Nat.reduceMod, Nat.reduceLeDiff, Nat.reduceLT, Nat.reduceBEq, Int.reduceToNat, Int.reduceLT, Int.reduceLE, Int.reduceEq, lt_t h2, h1, h6, hs, h75, ne_eq, not_true_eq_false]
        exact IH
      · simp only [h0, if_false, x29]
        simp only [go_sem, Nat.reduceAdd, Nat.reduceSub, Nat.reduceMul, Nat.reduceDiv, Nat.reduceMod, Nat.reduceLeDiff, Nat.reduceLT, Nat.reduceBEq, Int.reduceToNat, Int.reduceLT, Int.reduceLE, Int.reduceEq, lt_t h2, h1, h6, hs, h75, ne_eq, h0, not_false_eq_true]
def cfE (c : Cl) (l : List Stp) : Int := fnz [clErr c, if decide ((l.length : Int) = 0) then 10 else 0, if decide ((400 : Int) < l.length) then 5 else 0]
def cform (c : Cl) (l : List Stp) : Int := if cfE c l = 0 then
    let r := cf c l 0 []
    if r.1 = 0 then (if decide (¬ (r.2.length : Int) = sb l.length 1) then 2 else 0) else r.1
  else cfE c l
theorem ok29 (n : Nat) (c : Cl) (b : Bool) (l : List Stp) (hc : c.Fit) (hl : l.length < 1000000000) (hf : ∀ s ∈ l, s.Fits) : callP (level E (n+9)) 29 [.agg (enC c), .agg [slD b 9 (l.map enT)]] = some (.int .i64 (cform c l)) := by
  have h28 := ok28 n c hc
  have h58a := ok58 (n + 7) (decide ((l.length : Int) = 0)) 10
  have h58b := ok58 (n + 7) (decide ((400 : Int) < l.length)) 5
  have h57 := ok57_3 (n + 7) (clErr c) (if decide ((l.length : Int) = 0) then 10 else 0) (if decide ((400 : Int) < l.length) then 5 else 0)
  have hE : fnz [clErr c, if decide ((l.length : Int) = 0) then 10 else 0, if decide ((400 : Int) < l.length) then 5 else 0] = cfE c l := rfl
  rw [hE] at h57
  rw [p29]
  simp only [go_sem, Nat.reduceAdd, Nat.reduceSub, Nat.reduceMul, Nat.reduceDiv, Nat.reduceMod, Nat.reduceLeDiff, Nat.reduceLT, Nat.reduceBEq, Int.reduceToNat, Int.reduceLT, Int.reduceLE, Int.reduceEq] at h28
  unfold cform
  by_cases h0 : cfE c l = 0
  · have h := l29 (n := n + 3) (c := c) (b := b) hl hf l 0 [] rfl
    rw [cast0] at h
    generalize cf c l 0 [] = r at h
    obtain ⟨e, ks⟩ := r
    have h58c := ok58 (n + 7) (decide (¬ (ks.length : Int) = sb l.length 1)) 2
    have g1 : wrp .i64 (((l.length : Nat) : Int) - 1) = sb l.length 1 := rfl
    have m0 : mk [] = [] := rfl
    rw [m0] at h
    by_cases h1 : e = 0
    · simp only [x29, h1, if_true] at h
      simp only [go_sem, Nat.reduceAdd, Nat.reduceSub, Nat.reduceMul, Nat.reduceDiv, Nat.reduceMod, Nat.reduceLeDiff, Nat.reduceLT, Nat.reduceBEq, Int.reduceToNat, Int.reduceLT, Int.reduceLE, Int.reduceEq] at h
      simp only [go_sem, Nat.reduceAdd, Nat.reduceSub, Nat.reduceMul, Nat.reduceDiv, Nat.reduceMod, Nat.reduceLeDiff, Nat.reduceLT, Nat.reduceBEq, Int.reduceToNat, Int.reduceLT, Int.reduceLE, Int.reduceEq, h28, h58a, h58b, h57, h0, h, ne_eq, not_true_eq_false, h1, g1, h58c]
    · simp only [x29, h1, if_false] at h
      simp only [go_sem, Nat.reduceAdd, Nat.reduceSub, Nat.reduceMul, Nat.reduceDiv, Nat.reduceMod, Nat.reduceLeDiff, Nat.reduceLT, Nat.reduceBEq, Int.reduceToNat, Int.reduceLT, Int.reduceLE, Int.reduceEq] at h
      simp only [go_sem, Nat.reduceAdd, Nat.reduceSub, Nat.reduceMul, Nat.reduceDiv, Nat.reduceMod, Nat.reduceLeDiff, Nat.reduceLT, Nat.reduceBEq, Int.reduceToNat, Int.reduceLT, Int.reduceLE, Int.reduceEq, h28, h58a, h58b, h57, h0, h, ne_eq, not_true_eq_false, h1]
  · simp only [go_sem, Nat.reduceAdd, Nat.reduceSub, Nat.reduceMul, Nat.reduceDiv, Nat.reduceMod, Nat.reduceLeDiff, Nat.reduceLT, Nat.reduceBEq, Int.reduceToNat, Int.reduceLT, Int.reduceLE, Int.reduceEq, h28, h58a, h58b, h57, h0, ne_eq, not_false_eq_true]
end Go.Vm.P12

/- Chapter 12, functions: the tasks of a check. -/
set_option maxRecDepth 100000
set_option maxHeartbeats 2000000
namespace Go.Vm.P12
open Go Go.Vm
theorem sl_ref {st : List AO} {id sz a n h : Nat} (hh : h ≤ n) : aSlice st none sz (.ref id sz a n) none (some h) none = some (.ref id sz a h) := by
  simp [aSlice, hh]
attribute [go_sem] sl_ref
structure Tk where
  y : Stp
  c : Cl
  k : Int
def enK (t : Tk) : List D := enT t.y ++ enC t.c ++ [.int .i64 t.k]
attribute [go_sem] enK
structure RdK (lo : Lower) (e1 : Ext) (eF : Int → Int → Ext) (I : Ext → Prop) : Prop where
  h1 : I e1
  hr : ∀ e t x, I e → lo.round e [.agg (enK t), .int .i64 x] = some (if x = 0 then (e1, true) else (eF t.k x, false))
def ck (l : List Stp) : Nat → Cl → Nat → Int × Int
  | 0, _, _ => (0, 0)
  | f + 1, c, k => match l[k]? with
    | none => (0, 0)
    | some y =>
      if y.leaf then (if prv y c then (0, 0) else ((k : Int), 29))
      else
        let s := c.sp.getD y.va.toNat ⟨0, 0⟩
        if offB y.bo s.lo (sb s.hi 1) then ((k : Int), 14)
        else
          let r := ck l f (nar c y.va.toNat ⟨s.lo, y.bo⟩) y.k0.toNat
          if r.2 = 0 then ck l f (nar c y.va.toNat ⟨ad y.bo 1, s.hi⟩) y.k1.toNat else r
structure Wf (l : List Stp) (sp gv : Nat) : Prop where
  leaf : ∀ (i : Nat) y, l[i]? = some y → y.leaf = true → y.gv.length = gv ∧ y.lw.length = sp ∧ y.hg.length = sp
  split : ∀ (i : Nat) y, l[i]? = some y → y.leaf = false → 0 ≤ y.va ∧ y.va < sp ∧ 0 ≤ y.k0 ∧ y.k0 < i ∧ 0 ≤ y.k1 ∧ y.k1 < i
def S93 (pr : D) (es : List (List D)) (m : Nat) (e : Ext) : S := ⟨[.yield, .imm (.ptr [pr]), .junk, .junk, .ref 0 14 0 m, .junk, .junk, .junk, .junk, .junk, .junk, .junk, .junk], [.arr 14 es], some e⟩
noncomputable def lp93 (n : Nat) (s : S) : Option (AExit × S) := outC ⟨0, false⟩ [0, 0, 0, 0, 0, 0, 0, 0, 0, 0, 0, 0, 0] (rnd (aCode (level E (n + 6)) ⟨0, false⟩ b93_0) (head ⟨0, false⟩ [1, 1, 0, 0, 1, 0, 0, 0, 0, 0, 0, 0, 0]) s)
def out93 (e : Ext) : AExit × S := (.exit 0, ⟨[.junk, .junk, .junk, .junk, .junk, .junk, .junk, .junk, .junk, .junk, .junk, .junk, .junk], [], some e⟩)
theorem l93_end {n : Nat} {pr : D} {es : List (List D)} {e : Ext} : lp93 n (S93 pr es 0 e) = some (out93 e) := by
  unfold lp93
  rw [rnd_eq]
  simp only [S93]
  simp only [go_sem, Nat.reduceAdd, Nat.reduceSub, Nat.reduceMul, Nat.reduceDiv, Nat.reduceMod, Nat.reduceLeDiff, Nat.reduceLT, Nat.reduceBEq, Int.reduceToNat, Int.reduceLT, Int.reduceLE, Int.reduceEq, out93]
section
variable {n m : Nat} {b : Bool} {l : List Stp} {e1 : Ext} {eF : Int → Int → Ext} {I : Ext → Prop} {es : List (List D)} {c : Cl} {y : Stp} {k : Int} {e : Ext}
theorem s93_a (R : RdK (level E (n + 6)) e1 eF I) (hI : I e) (hm0 : m < 1000000000) (hlast : es[m]? = some (enK ⟨y, c, k⟩)) (hc : c.Even) (hlf : y.leaf = true) (hg : y.gv.length = c.gv.length) (hlw : y.lw.length = c.sp.length) (hhg : y.hg.length = c.sp.length) :
    lp93 n (S93 (slD b 9 (l.map enT)) es (m + 1) e) = if prv y c then lp93 n (S93 (slD b 9 (l.map enT)) es m e1) else some (out93 (eF k 29)) := by
  have hm : (0 : Int) < ((m + 1 : Nat) : Int) := by omega
  have hm1 : wrp .i64 (((m + 1 : Nat) : Int) - 1) = (m : Int) := by rw [wrp_ok (by omega)]; omega
  have hrl : ((m : Nat) : Int) < ((m + 1 : Nat) : Int) := by omega
  have hh : m ≤ m + 1 := by omega
  have q1 : m * 14 / 14 = m := by omega
  have q2 : m * 14 % 14 = 0 := by omega
  have h83 := ok83 (n + 1) y c hc (by omega) hlw hhg
  have h58 := ok58 (n + 5) (!prv y c) 29
  have hr0 := R.hr e ⟨y, c, k⟩ 0 hI
  have hr1 := R.hr e ⟨y, c, k⟩ 29 hI
  unfold lp93
  rw [rnd_eq]
  simp only [S93]
  simp only [go_sem, Nat.reduceAdd, Nat.reduceSub, Nat.reduceMul, Nat.reduceDiv, Nat.reduceMod, Nat.reduceLeDiff, Nat.reduceLT, Nat.reduceBEq, Int.reduceToNat, Int.reduceLT, Int.reduceLE, Int.reduceEq] at hlast h83 hr0 hr1
  cases hp : prv y c <;> rw [hp] at h83 h58 <;> simp only [go_sem, Nat.reduceAdd, Nat.reduceSub, Nat.reduceMul, Nat.reduceDiv, Nat.reduceMod, Nat.reduceLeDiff, Nat.reduceLT, Nat.reduceBEq, Int.reduceToNat, Int.reduceLT, Int.reduceLE, Int.reduceEq, hlf] at h83 h58 hr0 hr1 hlast ⊢
  · simp only [go_sem, Nat.reduceAdd, Nat.reduceSub, Nat.reduceMul, Nat.reduceDiv, Nat.reduceMod, Nat.reduceLeDiff, Nat.reduceLT, Nat.reduceBEq, Int.reduceToNat, Int.reduceLT, Int.reduceLE, Int.reduceEq, hm, hm1, hrl, hlast, Int.natCast_nonneg, hlf, q1, q2, hh, h83, h58, hr0, hr1, ne_eq, not_true_eq_false]
    rfl
  · simp only [go_sem, Nat.reduceAdd, Nat.reduceSub, Nat.reduceMul, Nat.reduceDiv, Nat.reduceMod, Nat.reduceLeDiff, Nat.reduceLT, Nat.reduceBEq, Int.reduceToNat, Int.reduceLT, Int.reduceLE, Int.reduceEq, hm, hm1, hrl, hlast, Int.natCast_nonneg, hlf, q1, q2, hh, h83, h58, hr0, hr1, ne_eq, not_true_eq_false]
theorem s93_b (R : RdK (level E (n + 6)) e1 eF I) (hI : I e) (hm0 : m + 2 < 1000000000) (hlast : es[m]? = some (enK ⟨y, c, k⟩)) (hc : c.Even) (hlf : y.leaf = false) {v k0 k1 : Nat} {s : Sp} (hva : y.va = v) (hk0 : y.k0 = k0) (hk1 : y.k1 = k1) (hs : c.sp[v]? = some s)
    {y0 y1 : Stp} (h0 : l[k0]? = some y0) (h1 : l[k1]? = some y1) :
    lp93 n (S93 (slD b 9 (l.map enT)) es (m + 1) e) = if offB y.bo s.lo (sb s.hi 1) then some (out93 (eF k 14)) else
      lp93 n (S93 (slD b 9 (l.map enT)) (es.take m ++ [enK ⟨y1, nar c v ⟨ad y.bo 1, s.hi⟩, k1⟩, enK ⟨y0, nar c v ⟨s.lo, y.bo⟩, k0⟩]) (m + 2) e1) := by
  have hm : (0 : Int) < ((m + 1 : Nat) : Int) := by omega
  have hm1 : wrp .i64 (((m + 1 : Nat) : Int) - 1) = (m : Int) := by rw [wrp_ok (by omega)]; omega
  have hrl : ((m : Nat) : Int) < ((m + 1 : Nat) : Int) := by omega
  have hh : m ≤ m + 1 := by omega
  have q1 : m * 14 / 14 = m := by omega
  have q2 : m * 14 % 14 = 0 := by omega
  have hvl : (v : Int) < ((c.sp.length : Nat) : Int) := by
    have := (List.getElem?_eq_some_iff.1 hs).1; omega
  have h0l : (k0 : Int) < ((l.length : Nat) : Int) := by
    have := (List.getElem?_eq_some_iff.1 h0).1; omega
  have h1l : (k1 : Int) < ((l.length : Nat) : Int) := by
    have := (List.getElem?_eq_some_iff.1 h1).1; omega
  have g1 : wrp .i64 (s.hi - 1) = sb s.hi 1 := rfl
  have h59 := ok59 (n + 5) y.bo s.lo (sb s.hi 1)
  have h58 := ok58 (n + 5) (offB y.bo s.lo (sb s.hi 1)) 14
  have h87 := ok87 (n + 3) c v s y.bo hs hc.fit.sp
  have hr0 := R.hr e ⟨y, c, k⟩ 0 hI
  have hr1 := R.hr e ⟨y, c, k⟩ 14 hI
  have i0 : (0 : Int) < ((2 : Nat) : Int) := by decide
  have i1 : (1 : Int) < ((2 : Nat) : Int) := by decide
  have hml : m ≤ es.length := by
    have := (List.getElem?_eq_some_iff.1 hlast).1; omega
  have h5 : (m + 2) * 209 ≤ 70368744177664 := by omega
  unfold lp93
  rw [rnd_eq]
  simp only [S93]
  simp only [go_sem, Nat.reduceAdd, Nat.reduceSub, Nat.reduceMul, Nat.reduceDiv, Nat.reduceMod, Nat.reduceLeDiff, Nat.reduceLT, Nat.reduceBEq, Int.reduceToNat, Int.reduceLT, Int.reduceLE, Int.reduceEq, hlf, hva, hk0, hk1] at hlast hr0 hr1 h87
  cases hp : offB y.bo s.lo (sb s.hi 1) <;> rw [hp] at h59 h58 <;> simp only [go_sem, Nat.reduceAdd, Nat.reduceSub, Nat.reduceMul, Nat.reduceDiv, Nat.reduceMod, Nat.reduceLeDiff, Nat.reduceLT, Nat.reduceBEq, Int.reduceToNat, Int.reduceLT, Int.reduceLE, Int.reduceEq, hlf] at h58 hr0 hr1 hlast ⊢
  · simp only [go_sem, Nat.reduceAdd, Nat.reduceSub, Nat.reduceMul, Nat.reduceDiv, Nat.reduceMod, Nat.reduceLeDiff, Nat.reduceLT, Nat.reduceBEq, Int.reduceToNat, Int.reduceLT, Int.reduceLE, Int.reduceEq, hm, hm1, hrl, hlast, Int.natCast_nonneg, hlf, q1, q2, hh, h59, h58, hr0, hr1, hvl, hs, g1, h87, i0, i1, h0l, h1l, h0, h1, h5, hml, ne_eq, not_true_eq_false]
    trace_state
  · simp only [go_sem, Nat.reduceAdd, Nat.reduceSub, Nat.reduceMul, Nat.reduceDiv, Nat.reduceMod, Nat.reduceLeDiff, Nat.reduceLT, Nat.reduceBEq, Int.reduceToNat, Int.reduceLT, Int.reduceLE, Int.reduceEq, hm, hm1, hrl, hlast, Int.natCast_nonneg, hlf, q1, q2, hh, h59, h58, hr0, hr1, hvl, hs, g1, i0, i1, ne_eq, not_true_eq_false]
    rfl
end
theorem l93 {n : Nat} {b : Bool} {l : List Stp} {spn gvn : Nat} {e1 : Ext} {eF : Int → Int → Ext} {I : Ext → Prop} (R : RdK (level E (n + 6)) e1 eF I) (hw : Wf l spn gvn) : ∀ (f k : Nat) (c : Cl) (y : Stp) (rest : List Tk) (es : List (List D)) (e : Ext), k < f → c.Even → c.sp.length = spn → c.gv.length = gvn → l[k]? = some y → I e → rest.length + k + 2 < 1000000000 →
    es.take (rest.length + 1) = (rest ++ [Tk.mk y c k]).map enK →
    ((ck l f c k).2 = 0 → ∃ es', es'.take rest.length = rest.map enK ∧ lp93 n (S93 (slD b 9 (l.map enT)) es (rest.length + 1) e) = lp93 n (S93 (slD b 9 (l.map enT)) es' rest.length e1)) ∧
    ((ck l f c k).2 ≠ 0 → lp93 n (S93 (slD b 9 (l.map enT)) es (rest.length + 1) e) = some (out93 (eF (ck l f c k).1 (ck l f c k).2)))
  | 0, k, c, y, rest, es, e, hk, hc, hs, hg, hy, hI, hb, ht => by omega
  | f + 1, k, c, y, rest, es, e, hk, hc, hs, hg, hy, hI, hb, ht => by
    have hlen : rest.length + 1 ≤ es.length := by
      have := congrArg List.length ht
      simp at this; omega
    have hlast : es[rest.length]? = some (enK ⟨y, c, k⟩) := by
      have := congrArg (fun z => z[rest.length]?) ht
      simp only [List.getElem?_take] at this
      rw [if_pos (by omega)] at this
      rw [this]
      simp
    have htk : es.take rest.length = rest.map enK := by
      have := congrArg (List.take rest.length) ht
      rw [List.take_take, Nat.min_eq_left (by omega)] at this
      rw [this, List.map_append]
      exact List.take_left' (by simp)
    simp only [ck, hy]
    cases hlf : y.leaf
    · obtain ⟨w1, w2, w3, w4, w5, w6⟩ := hw.split k y hy hlf
      obtain ⟨v, hv⟩ : ∃ v : Nat, y.va = v := ⟨y.va.toNat, by omega⟩
      obtain ⟨k0, hk0⟩ : ∃ k0 : Nat, y.k0 = k0 := ⟨y.k0.toNat, by omega⟩
      obtain ⟨k1, hk1⟩ : ∃ k1 : Nat, y.k1 = k1 := ⟨y.k1.toNat, by omega⟩
      have hkl := (List.getElem?_eq_some_iff.1 hy).1
      have hvl : v < c.sp.length := by omega
      obtain ⟨s, hsv⟩ : ∃ s, c.sp[v]? = some s := ⟨_, List.getElem?_eq_getElem hvl⟩
      obtain ⟨y0, hy0⟩ : ∃ y0, l[k0]? = some y0 := ⟨_, List.getElem?_eq_getElem (show k0 < l.length by omega)⟩
      obtain ⟨y1, hy1⟩ : ∃ y1, l[k1]? = some y1 := ⟨_, List.getElem?_eq_getElem (show k1 < l.length by omega)⟩
      have hgd : c.sp.getD v ⟨0, 0⟩ = s := by rw [List.getD_eq_getElem?_getD, hsv]; rfl
      have hb1 := s93_b (b := b) R hI (by omega) hlast hc hlf hv hk0 hk1 hsv hy0 hy1
      simp only [Bool.false_eq_true, if_false]
      rw [hv, hk0, hk1, Int.toNat_natCast, Int.toNat_natCast, Int.toNat_natCast, hgd]
      cases ho : offB y.bo s.lo (sb s.hi 1)
      · rw [ho] at hb1
        simp only [Bool.false_eq_true, if_false] at hb1 ⊢
        obtain ⟨c0, hc0⟩ : ∃ c0, c0 = nar c v ⟨s.lo, y.bo⟩ := ⟨_, rfl⟩
        obtain ⟨c1, hc1⟩ : ∃ c1, c1 = nar c v ⟨ad y.bo 1, s.hi⟩ := ⟨_, rfl⟩
        have ev0 : c0.Even := hc0 ▸ nar_even hc _ _
        have ev1 : c1.Even := hc1 ▸ nar_even hc _ _
        have s0 : c0.sp.length = spn := by rw [hc0]; simpa [nar] using hs
        have s1 : c1.sp.length = spn := by rw [hc1]; simpa [nar] using hs
        have g0 : c0.gv.length = gvn := by rw [hc0]; exact hg
        have g1 : c1.gv.length = gvn := by rw [hc1]; exact hg
        rw [← hc0, ← hc1] at hb1 ⊢
        obtain ⟨IA, IB⟩ := l93 (b := b) R hw f k0 c0 y0 (rest ++ [Tk.mk y1 c1 k1]) (es.take rest.length ++ [enK ⟨y1, c1, k1⟩, enK ⟨y0, c0, k0⟩]) e1 (by omega) ev0 s0 g0 hy0 R.h1 (by simp; omega) (by
          rw [htk]
          simp [List.take_of_length_le])
        have el : (rest ++ [Tk.mk y1 c1 k1]).length = rest.length + 1 := by simp
        rw [el] at IA IB
        rw [hb1]
        by_cases h0 : (ck l f c0 k0).2 = 0
        · rw [if_pos h0]
          obtain ⟨es', e3, e4⟩ := IA h0
          have := l93 (b := b) R hw f k1 c1 y1 rest es' e1 (by omega) ev1 s1 g1 hy1 R.h1 (by omega) e3
          rw [e4]
          exact this
        · rw [if_neg h0]
          refine ⟨fun h => absurd h h0, fun _ => IB h0⟩
      · rw [ho] at hb1
        simp only [if_true] at hb1 ⊢
        exact ⟨fun h => absurd h (by decide), fun _ => hb1⟩
    · obtain ⟨w1, w2, w3⟩ := hw.leaf k y hy hlf
      have ha := s93_a (b := b) (l := l) R hI (by omega) hlast hc hlf (by omega) (by omega) (by omega)
      simp only [if_true]
      cases hp : prv y c
      · rw [hp] at ha
        simp only [Bool.false_eq_true, if_false] at ha ⊢
        exact ⟨fun h => absurd h (by decide), fun _ => ha⟩
      · rw [hp] at ha
        simp only [if_true] at ha ⊢
        exact ⟨fun _ => ⟨es, htk, ha⟩, fun h => absurd rfl h⟩
end Go.Vm.P12

/- Chapter 12, functions: Check. -/
set_option maxRecDepth 100000
set_option maxHeartbeats 2000000
namespace Go.Vm.P12
open Go Go.Vm
theorem call93 {n : Nat} {b : Bool} {l : List Stp} {spn gvn : Nat} {e1 : Ext} {eF : Int → Int → Ext} {I : Ext → Prop} (R : RdK (level E (n + 6)) e1 eF I) (hw : Wf l spn gvn) (k : Nat) (c : Cl) (y : Stp) (e : Ext) (hc : c.Even) (hs : c.sp.length = spn) (hg : c.gv.length = gvn) (hy : l[k]? = some y) (hI : I e) (hb : l.length < 1000) :
    (level E (n+7)).call 93 [.yield, .imm (.ptr [slD b 9 (l.map enT)]), .imm (.ptr [.int .i64 k]), .imm (.ptr (enC c))] [] (some e) = some (.imm (.tup []), [], some (if (ck l (k + 1) c k).2 = 0 then e1 else eF (ck l (k + 1) c k).1 (ck l (k + 1) c k).2)) := by
  have hkl := (List.getElem?_eq_some_iff.1 hy).1
  obtain ⟨hA, hB⟩ := l93 (b := b) R hw (k + 1) k c y [] [enK ⟨y, c, k⟩] e (by omega) hc hs hg hy hI (by simp; omega) rfl
  have h0l : (k : Int) < ((l.length : Nat) : Int) := by omega
  have key : lp93 n (S93 (slD b 9 (l.map enT)) [enK ⟨y, c, k⟩] 1 e) = some (out93 (if (ck l (k + 1) c k).2 = 0 then e1 else eF (ck l (k + 1) c k).1 (ck l (k + 1) c k).2)) := by
    by_cases h0 : (ck l (k + 1) c k).2 = 0
    · obtain ⟨es', e3, e4⟩ := hA h0
      rw [if_pos h0]
      exact e4.trans l93_end
    · rw [if_neg h0]
      exact hB h0
  generalize (if (ck l (k + 1) c k).2 = 0 then e1 else eF (ck l (k + 1) c k).1 (ck l (k + 1) c k).2) = eR at key
  rw [call_go (fn := ir93) (c := c93) (r := []) rfl rfl rfl rfl rfl]
  simp only [lp93, S93, out93] at key
  simp only [go_sem, Nat.reduceAdd, Nat.reduceSub, Nat.reduceMul, Nat.reduceDiv, Nat.reduceMod, Nat.reduceLeDiff, Nat.reduceLT, Nat.reduceBEq, Int.reduceToNat, Int.reduceLT, Int.reduceLE, Int.reduceEq] at key
  simp only [go_sem, Nat.reduceAdd, Nat.reduceSub, Nat.reduceMul, Nat.reduceDiv, Nat.reduceMod, Nat.reduceLeDiff, Nat.reduceLT, Nat.reduceBEq, Int.reduceToNat, Int.reduceLT, Int.reduceLE, Int.reduceEq, ir93, sg_slD, h0l, hy, Int.natCast_nonneg, key]
theorem ok69 (n : Nat) (b : Bool) (l : List Stp) (c : Cl) (k : Int) : callP (level E (n+1)) 69 [.agg [slD b 9 (l.map enT)], .agg (enC c), .int .i64 k] = some (.fn 93 [] [.ptr [slD b 9 (l.map enT)], .ptr [.int .i64 k], .ptr (enC c)]) := by
  rw [p69]; simp only [go_sem, Nat.reduceAdd, Nat.reduceSub, Nat.reduceMul, Nat.reduceDiv, Nat.reduceMod, Nat.reduceLeDiff, Nat.reduceLT, Nat.reduceBEq, Int.reduceToNat, Int.reduceLT, Int.reduceLE, Int.reduceEq, sg_slD]
def y0 (c : Cl) (b : Bool) (l : List Stp) (q : Int) : Ext := ⟨[11, 12], b26_0, b26_1, [.imm (.agg (enC c)), .imm (.agg [slD b 9 (l.map enT)]), .ptr 2 0, .ptr 3 0, .ptr 0 0, .ptr 1 0, .imm (.int .i64 0), .junk, .junk, .imm (.bool false), .imm (.fn 93 [] [.ptr [slD b 9 (l.map enT)], .ptr [.int .i64 q], .ptr (enC c)]), .junk, .junk, .junk],
  [.box ((enC c).map .imm), .box [.imm (slD b 9 (l.map enT))], .box [.imm (.int .i64 0)], .box [.imm (.int .i64 0)]], 0, none⟩
def y1 (c : Cl) (b : Bool) (l : List Stp) (q : Int) : Ext := ⟨[11, 12], b26_0, b26_1, [.imm (.agg (enC c)), .imm (.agg [slD b 9 (l.map enT)]), .ptr 0 0, .ptr 1 0, .ptr 2 0, .ptr 3 0, .imm (.int .i64 0), .junk, .junk, .imm (.bool false), .imm (.fn 93 [] [.ptr [slD b 9 (l.map enT)], .ptr [.int .i64 q], .ptr (enC c)]), .junk, .junk, .junk],
  [.box [.imm (.int .i64 0)], .box [.imm (.int .i64 0)], .box ((enC c).map .imm), .box [.imm (slD b 9 (l.map enT))]], 0, none⟩
def yF (c : Cl) (b : Bool) (l : List Stp) (q : Int) (k x : Int) : Ext := ⟨[11, 12], b26_0, b26_1, [.imm (.agg (enC c)), .imm (.agg [slD b 9 (l.map enT)]), .ptr 0 0, .ptr 1 0, .ptr 2 0, .ptr 3 0, .imm (.int .i64 0), .junk, .junk, .imm (.bool false), .imm (.fn 93 [] [.ptr [slD b 9 (l.map enT)], .ptr [.int .i64 q], .ptr (enC c)]), .junk, .junk, .junk],
  [.box [.imm (.int .i64 k)], .box [.imm (.int .i64 x)], .box ((enC c).map .imm), .box [.imm (slD b 9 (l.map enT))]], 0, some .ret⟩
theorem rd26 (n : Nat) (c : Cl) (b : Bool) (l : List Stp) (q : Int) : RdK (level E (n+6)) (y1 c b l q) (yF c b l q) (fun e => e = y0 c b l q ∨ e = y1 c b l q) := by
  refine ⟨.inr rfl, fun e t x he => ?_⟩
  rcases he with rfl | rfl <;> by_cases h0 : x = 0 <;> simp only [y0, y1, yF] <;> rw [round_go (by rfl)] <;> simp only [go_sem, Nat.reduceAdd, Nat.reduceSub, Nat.reduceMul, Nat.reduceDiv, Nat.reduceMod, Nat.reduceLeDiff, Nat.reduceLT, Nat.reduceBEq, Int.reduceToNat, Int.reduceLT, Int.reduceLE, Int.reduceEq, sg_slD, h0, ne_eq, not_true_eq_false, not_false_eq_true]
  all_goals trace_state
theorem fnz0 : ∀ l : List Int, fnz l = 0 → ∀ x ∈ l, x = 0 := by
  intro l
  induction l with
  | nil => intro _ x hx; cases hx
  | cons y l ih =>
    intro h x hx
    rw [fnz_cons] at h
    by_cases hy : y = 0
    · rw [if_pos hy] at h
      rcases List.mem_cons.1 hx with rfl | hx
      · exact hy
      · exact ih h x hx
    · rw [if_neg hy] at h; exact absurd h hy
theorem offB_f {a lo hi : Int} (h : offB a lo hi = false) : lo ≤ a ∧ a ≤ hi := by
  simp only [offB, Bool.or_eq_false_iff, decide_eq_false_iff_not] at h
  omega
def StepOk (c : Cl) (i : Nat) (y : Stp) : Prop := (y.leaf = true → lfErr y c = 0) ∧ (y.leaf = false → spE (sp1 y) y c i = 0)
theorem cf_ok (c : Cl) : ∀ (r : List Stp) (i : Nat) (ks : List Int), (cf c r i ks).1 = 0 → ∀ (j : Nat) (y : Stp), r[j]? = some y → StepOk c (i + j) y
  | [], i, ks, h, j, y, hj => by simp at hj
  | s :: r, i, ks, h, j, y, hj => by
    simp only [cf] at h
    have key : StepOk c i s ∧ ∃ ks', (cf c r (i + 1) ks').1 = 0 := by
      cases hs : s.leaf
      · rw [hs] at h
        simp only [Bool.false_eq_true, if_false] at h
        by_cases h1 : (spl s c i ks).1 = 0
        · rw [if_pos h1] at h
          refine ⟨⟨fun hh => (by rw [hs] at hh; cases hh), fun _ => ?_⟩, _, h⟩
          unfold spl at h1
          by_cases h2 : spE (sp1 s) s c i = 0
          · exact h2
          · rw [if_neg h2] at h1; exact h1
        · rw [if_neg h1] at h; exact absurd h h1
      · rw [hs] at h
        simp only [if_true] at h
        by_cases h1 : lfErr s c = 0
        · rw [if_pos h1] at h
          exact ⟨⟨fun _ => h1, fun hh => (by rw [hs] at hh; cases hh)⟩, _, h⟩
        · rw [if_neg h1] at h; exact absurd h h1
    obtain ⟨k1, ks', k2⟩ := key
    cases j with
    | zero => simp only [List.getElem?_cons_zero, Option.some.injEq] at hj; subst hj; exact k1
    | succ j =>
      simp only [List.getElem?_cons_succ] at hj
      have := cf_ok c r (i + 1) ks' k2 j y hj
      rw [show i + (j + 1) = i + 1 + j by omega]
      exact this
theorem lf1_f {y : Stp} {c : Cl} (h : lfErr y c = 0) : y.gv.length = c.gv.length ∧ y.lw.length = c.sp.length ∧ y.hg.length = c.sp.length := by
  have h1 := fnz0 _ h _ (List.mem_cons_self)
  have h2 : lf1 y c = false := by
    cases h3 : lf1 y c
    · rfl
    · rw [h3] at h1; simp at h1
  simp only [lf1, Bool.or_eq_false_iff, decide_eq_false_iff_not, Decidable.not_not] at h2
  omega
theorem sbn {m : Nat} (h : m < 1000000000) : sb m 1 = (m : Int) - 1 := by rw [sb, wrp_ok (by omega)]
theorem spE_f {y : Stp} {c : Cl} {i : Nat} (hi : i < 1000000000) (hs : c.sp.length < 1000000000) (h : spE (sp1 y) y c i = 0) : 0 ≤ y.va ∧ y.va < c.sp.length ∧ 0 ≤ y.k0 ∧ y.k0 < i ∧ 0 ≤ y.k1 ∧ y.k1 < i := by
  have g := fnz0 _ h
  have h1 := g (if offB y.va 0 (sb c.sp.length 1) then 8 else 0) (by simp)
  have h2 := g (if sp2 y i then 9 else 0) (by simp)
  have a1 : offB y.va 0 (sb c.sp.length 1) = false := by
    cases h3 : offB y.va 0 (sb c.sp.length 1)
    · rfl
    · rw [h3] at h1; simp at h1
  have a2 : sp2 y i = false := by
    cases h3 : sp2 y i
    · rfl
    · rw [h3] at h2; simp at h2
  simp only [sp2, Bool.or_eq_false_iff] at a2
  have b1 := offB_f a1
  have b2 := offB_f a2.1
  have b3 := offB_f a2.2
  rw [sbn hs] at b1
  rw [sbn hi] at b2 b3
  omega
theorem cfE_f {c : Cl} {l : List Stp} (h : cfE c l = 0) : clErr c = 0 ∧ 0 < l.length ∧ l.length ≤ 400 := by
  have g := fnz0 _ h
  have h0 := g (clErr c) (by simp)
  have h1 := g (if decide ((l.length : Int) = 0) then 10 else 0) (by simp)
  have h2 := g (if decide ((400 : Int) < l.length) then 5 else 0) (by simp)
  refine ⟨h0, ?_, ?_⟩
  · by_cases e : (l.length : Int) = 0
    · simp [e] at h1
    · omega
  · by_cases e : (400 : Int) < l.length
    · simp [e] at h2
    · omega
theorem cform_cf {c : Cl} {l : List Stp} (h : cform c l = 0) : cfE c l = 0 ∧ (cf c l 0 []).1 = 0 := by
  unfold cform at h
  by_cases h0 : cfE c l = 0
  · rw [if_pos h0] at h
    refine ⟨h0, ?_⟩
    by_cases h1 : (cf c l 0 []).1 = 0
    · exact h1
    · simp only [h1, if_false] at h
  · rw [if_neg h0] at h; exact absurd h h0
theorem cform_wf {c : Cl} {l : List Stp} (hc : c.Fit) (h : cform c l = 0) : Wf l c.sp.length c.gv.length := by
  obtain ⟨h0, h1⟩ := cform_cf h
  obtain ⟨_, _, h2⟩ := cfE_f h0
  constructor
  · intro i y hy hl
    have := cf_ok c l 0 [] h1 i y hy
    exact lf1_f (this.1 hl)
  · intro i y hy hl
    have := (cf_ok c l 0 [] h1 i y hy).2 hl
    rw [Nat.zero_add] at this
    have hi := (List.getElem?_eq_some_iff.1 hy).1
    exact spE_f (by omega) hc.sp this
def chkR (c : Cl) (l : List Stp) : Int × Int := ck l l.length c (l.length - 1)
def chk (c : Cl) (l : List Stp) : D := if cform c l = 0 then (if (chkR c l).2 = 0 then .tup [.int .i64 0, .int .i64 0] else .tup [.int .i64 (chkR c l).1, .int .i64 (chkR c l).2]) else .tup [.int .i64 0, .int .i64 (cform c l)]
theorem ok26 (n : Nat) (c : Cl) (b : Bool) (l : List Stp) (hc : c.Fit) (hl : l.length < 1000000000) (hf : ∀ s ∈ l, s.Fits) : callP (level E (n+10)) 26 [.agg (enC c), .agg [slD b 9 (l.map enT)]] = some (chk c l) := by
  have h29 := ok29 n c b l hc hl hf
  have h69 := ok69 (n+8) b l c (sb l.length 1)
  have g1 : wrp .i64 (((l.length : Nat) : Int) - 1) = sb l.length 1 := rfl
  rw [p26]
  simp only [go_sem, Nat.reduceAdd, Nat.reduceSub, Nat.reduceMul, Nat.reduceDiv, Nat.reduceMod, Nat.reduceLeDiff, Nat.reduceLT, Nat.reduceBEq, Int.reduceToNat, Int.reduceLT, Int.reduceLE, Int.reduceEq] at h29 h69
  unfold chk
  by_cases h0 : cform c l = 0
  · obtain ⟨c1, c2, c3⟩ := cfE_f (cform_cf h0).1
    obtain ⟨k, hk⟩ : ∃ k, l.length = k + 1 := ⟨l.length - 1, by omega⟩
    have hq : sb (l.length : Nat) 1 = (k : Int) := by rw [sbn hl]; omega
    obtain ⟨y, hy⟩ : ∃ y, l[k]? = some y := ⟨_, List.getElem?_eq_getElem (show k < l.length by omega)⟩
    have h93 := call93 (b := b) (rd26 (n+2) c b l k) (cform_wf hc h0) k c y (y0 c b l k) (clErr_even hc c1) rfl rfl hy (.inl rfl) (by omega)
    have hR : chkR c l = ck l (k + 1) c k := by rw [chkR, hk]; rfl
    rw [← hR] at h93
    rw [hq] at h69 g1
    by_cases h1 : (chkR c l).2 = 0
    · rw [if_pos h1] at h93
      simp only [y0, y1] at h93
      simp only [go_sem, Nat.reduceAdd, Nat.reduceSub, Nat.reduceMul, Nat.reduceDiv, Nat.reduceMod, Nat.reduceLeDiff, Nat.reduceLT, Nat.reduceBEq, Int.reduceToNat, Int.reduceLT, Int.reduceLE, Int.reduceEq] at h93
      simp only [go_sem, Nat.reduceAdd, Nat.reduceSub, Nat.reduceMul, Nat.reduceDiv, Nat.reduceMod, Nat.reduceLeDiff, Nat.reduceLT, Nat.reduceBEq, Int.reduceToNat, Int.reduceLT, Int.reduceLE, Int.reduceEq, sg_slD, h29, h69, g1, h0, ne_eq, not_true_eq_false, h93, h1]
    · rw [if_neg h1] at h93
      simp only [y0, yF] at h93
      simp only [go_sem, Nat.reduceAdd, Nat.reduceSub, Nat.reduceMul, Nat.reduceDiv, Nat.reduceMod, Nat.reduceLeDiff, Nat.reduceLT, Nat.reduceBEq, Int.reduceToNat, Int.reduceLT, Int.reduceLE, Int.reduceEq] at h93
      simp only [go_sem, Nat.reduceAdd, Nat.reduceSub, Nat.reduceMul, Nat.reduceDiv, Nat.reduceMod, Nat.reduceLeDiff, Nat.reduceLT, Nat.reduceBEq, Int.reduceToNat, Int.reduceLT, Int.reduceLE, Int.reduceEq, sg_slD, h29, h69, g1, h0, ne_eq, not_true_eq_false, h93, h1]
  · simp only [go_sem, Nat.reduceAdd, Nat.reduceSub, Nat.reduceMul, Nat.reduceDiv, Nat.reduceMod, Nat.reduceLeDiff, Nat.reduceLT, Nat.reduceBEq, Int.reduceToNat, Int.reduceLT, Int.reduceLE, Int.reduceEq, sg_slD, h29, h69, g1, h0, ne_eq, not_false_eq_true]
end Go.Vm.P12

/- Chapter 12, the laws: copies of proofs and claims. -/
set_option maxRecDepth 100000
set_option maxHeartbeats 2000000
namespace Go.Vm.P12
open Go Go.Vm
theorem src_0 {st : List AO} {b : Bool} {sz : Nat} : srcOf st (.imm (slD b sz [])) = some (if b then 0 else sz, []) := by cases b <;> rfl
theorem l70 {lo : Lower} {b : Bool} {l : List Stp} (hl : l.length < 1000000000) (hf : ∀ s ∈ l, s.Fits) : ∀ (r acc : List Stp) (i : Nat), l.drop i = r → acc.length = i →
    outC ⟨0, false⟩ [0, 1, 0, 1, 0, 0, 0] (rnd (aCode lo ⟨0, false⟩ b70_0) (head ⟨0, false⟩ [0, 1, 1, 1, 1, 0, 0])
      ⟨[.junk, .ptr 0 0, .ptr 1 0, .ptr 2 0, .imm (.int .i64 i), .junk, .junk],
       [.box [.imm .nil], .box [.imm (slD b 9 (l.map enT))], .box [vK 3 9 (acc.map enT)]] ++ oK 9 (acc.map enT), none⟩) =
      some (.exit 0, ⟨[.junk, .ptr 0 0, .junk, .ptr 1 0, .junk, .junk, .junk],
       [.box [.imm .nil], .box [vK 2 9 ((acc ++ r.map nz).map enT)]] ++ oK 9 ((acc ++ r.map nz).map enT), none⟩)
  | [], acc, i, h, ha => by
    rw [rnd_eq]
    cases acc <;> simp only [go_sem, Nat.reduceAdd, Nat.reduceSub, Nat.reduceMul, Nat.reduceDiv, Nat.reduceMod, Nat.reduceLeDiff, Nat.reduceLT, Nat.reduceBEq, Int.reduceToNat, Int.reduceLT, Int.reduceLE, Int.reduceEq, vK, oK, lt_f (drop_n h)]
  | s :: r, acc, i, h, ha => by
    obtain ⟨h1, h2, h3⟩ := drop_c h
    have h6 := wrpS (i := i) (by omega)
    have IH := l70 (lo := lo) (b := b) hl hf r (acc ++ [nz s]) (i + 1) h3 (by simp [ha])
    have hs := hf s (List.mem_of_getElem? h1)
    have f1 := hs.gv
    have f2 := hs.lw
    have f3 := hs.hg
    obtain ⟨t1, t2, b3, t3, b4, t4, b5, t5, t6, t7, t8, t9⟩ := s
    simp only at f1 f2 f3
    simp only [nz] at IH
    have g3 : (t3.length) * 9 ≤ 70368744177664 := by omega
    have g4 : (t4.length) * 9 ≤ 70368744177664 := by omega
    have g5 : (t5.length) * 9 ≤ 70368744177664 := by omega
    rw [rnd_eq]
    cases acc with
    | nil =>
      simp only [go_sem, Nat.reduceAdd, Nat.reduceSub, Nat.reduceMul, Nat.reduceDiv, Nat.reduceMod, Nat.reduceLeDiff, Nat.reduceLT, Nat.reduceBEq, Int.reduceToNat, Int.reduceLT, Int.reduceLE, Int.reduceEq, vK, oK] at IH
      rcases t3 with _ | ⟨y3, t3⟩ <;> rcases t4 with _ | ⟨y4, t4⟩ <;> rcases t5 with _ | ⟨y5, t5⟩ <;> (try simp only [List.length_cons] at g3 g4 g5) <;>
      simp only [go_sem, Nat.reduceAdd, Nat.reduceSub, Nat.reduceMul, Nat.reduceDiv, Nat.reduceMod, Nat.reduceLeDiff, Nat.reduceLT, Nat.reduceBEq, Int.reduceToNat, Int.reduceLT, Int.reduceLE, Int.reduceEq, vK, oK, lt_t h2, h1, h6, src_0, slD_cons, g3, g4, g5, nz] <;>
      exact IH
    | cons x acc =>
      have h5 : (acc.length + 1 + 1) * 121 ≤ 70368744177664 := by simp at ha; omega
      have e7 : acc.length + (r.length + 1) + 1 = acc.length + 1 + r.length + 1 := by omega
      have e8 : ∀ (L : List (List D)) (y : List D), List.map enT acc ++ y :: L = List.map enT acc ++ [y] ++ L := fun L y => by simp
      simp only [go_sem, Nat.reduceAdd, Nat.reduceSub, Nat.reduceMul, Nat.reduceDiv, Nat.reduceMod, Nat.reduceLeDiff, Nat.reduceLT, Nat.reduceBEq, Int.reduceToNat, Int.reduceLT, Int.reduceLE, Int.reduceEq, vK, oK] at IH
      rcases t3 with _ | ⟨y3, t3⟩ <;> rcases t4 with _ | ⟨y4, t4⟩ <;> rcases t5 with _ | ⟨y5, t5⟩ <;> (try simp only [List.length_cons] at g3 g4 g5) <;>
      simp only [go_sem, Nat.reduceAdd, Nat.reduceSub, Nat.reduceMul, Nat.reduceDiv, Nat.reduceMod, Nat.reduceLeDiff, Nat.reduceLT, Nat.reduceBEq, Int.reduceToNat, Int.reduceLT, Int.reduceLE, Int.reduceEq, vK, oK, lt_t h2, h1, h6, h5, e7, e8 (List.map enT (List.map nz r)), src_0, slD_cons, g3, g4, g5, nz] <;>
      exact IH
theorem ok70 (n : Nat) (b : Bool) (l : List Stp) (hl : l.length < 1000000000) (hf : ∀ s ∈ l, s.Fits) : callP (level E (n+1)) 70 [.agg [slD b 9 (l.map enT)]] = some (.agg [slD true 9 ((l.map nz).map enT)]) := by
  have h := l70 (lo := level E n) (b := b) hl hf l [] 0 rfl rfl
  rw [cast0] at h
  rw [p70]
  cases l with
  | nil =>
    simp only [go_sem, Nat.reduceAdd, Nat.reduceSub, Nat.reduceMul, Nat.reduceDiv, Nat.reduceMod, Nat.reduceLeDiff, Nat.reduceLT, Nat.reduceBEq, Int.reduceToNat, Int.reduceLT, Int.reduceLE, Int.reduceEq, vK, oK] at h
    simp only [go_sem, Nat.reduceAdd, Nat.reduceSub, Nat.reduceMul, Nat.reduceDiv, Nat.reduceMod, Nat.reduceLeDiff, Nat.reduceLT, Nat.reduceBEq, Int.reduceToNat, Int.reduceLT, Int.reduceLE, Int.reduceEq, h]
    rfl
  | cons x l =>
    simp only [go_sem, Nat.reduceAdd, Nat.reduceSub, Nat.reduceMul, Nat.reduceDiv, Nat.reduceMod, Nat.reduceLeDiff, Nat.reduceLT, Nat.reduceBEq, Int.reduceToNat, Int.reduceLT, Int.reduceLE, Int.reduceEq, vK, oK] at h
    simp only [go_sem, Nat.reduceAdd, Nat.reduceSub, Nat.reduceMul, Nat.reduceDiv, Nat.reduceMod, Nat.reduceLeDiff, Nat.reduceLT, Nat.reduceBEq, Int.reduceToNat, Int.reduceLT, Int.reduceLE, Int.reduceEq, h]
    rfl
theorem l27 {lo : Lower} {b : Bool} {l : List Stp} (hl : l.length < 1000000000) : ∀ (r acc : List Stp) (i : Nat), l.drop i = r → acc.length = i →
    outC ⟨0, false⟩ [0, 1, 0, 1, 0, 0, 0, 0, 0] (rnd (aCode lo ⟨0, false⟩ b27_0) (head ⟨0, false⟩ [0, 1, 0, 1, 0, 1, 1, 1, 0])
      ⟨[.junk, .ptr 0 0, .junk, .ptr 1 0, .junk, .imm (slD b 9 (l.map enT)), .imm (.int .i64 l.length), .imm (.int .i64 i), .junk],
       [.box [.imm .nil], .box [vK 2 9 (acc.map enT)]] ++ oK 9 (acc.map enT), none⟩) =
      some (.exit 0, ⟨[.junk, .ptr 0 0, .junk, .ptr 1 0, .junk, .junk, .junk, .junk, .junk],
       [.box [.imm .nil], .box [vK 2 9 ((acc ++ r).map enT)]] ++ oK 9 ((acc ++ r).map enT), none⟩)
  | [], acc, i, h, ha => by
    rw [rnd_eq]
    cases acc <;> simp only [go_sem, Nat.reduceAdd, Nat.reduceSub, Nat.reduceMul, Nat.reduceDiv, Nat.reduceMod, Nat.reduceLeDiff, Nat.reduceLT, Nat.reduceBEq, Int.reduceToNat, Int.reduceLT, Int.reduceLE, Int.reduceEq, vK, oK, lt_f (drop_n h)]
  | s :: r, acc, i, h, ha => by
    obtain ⟨h1, h2, h3⟩ := drop_c h
    have h6 := wrpS (i := i) (by omega)
    have IH := l27 (lo := lo) (b := b) hl r (acc ++ [s]) (i + 1) h3 (by simp [ha])
    rw [rnd_eq]
    cases acc with
    | nil =>
      simp only [go_sem, Nat.reduceAdd, Nat.reduceSub, Nat.reduceMul, Nat.reduceDiv, Nat.reduceMod, Nat.reduceLeDiff, Nat.reduceLT, Nat.reduceBEq, Int.reduceToNat, Int.reduceLT, Int.reduceLE, Int.reduceEq, vK, oK] at IH
      simp only [go_sem, Nat.reduceAdd, Nat.reduceSub, Nat.reduceMul, Nat.reduceDiv, Nat.reduceMod, Nat.reduceLeDiff, Nat.reduceLT, Nat.reduceBEq, Int.reduceToNat, Int.reduceLT, Int.reduceLE, Int.reduceEq, vK, oK, lt_t h2, h1, h6]
      exact IH
    | cons x acc =>
      have h5 : (acc.length + 1 + 1) * 121 ≤ 70368744177664 := by simp at ha; omega
      have e7 : acc.length + (r.length + 1) + 1 = acc.length + 1 + r.length + 1 := by omega
      have e8 : ∀ (L : List (List D)) (y : List D), List.map enT acc ++ y :: L = List.map enT acc ++ [y] ++ L := fun L y => by simp
      simp only [go_sem, Nat.reduceAdd, Nat.reduceSub, Nat.reduceMul, Nat.reduceDiv, Nat.reduceMod, Nat.reduceLeDiff, Nat.reduceLT, Nat.reduceBEq, Int.reduceToNat, Int.reduceLT, Int.reduceLE, Int.reduceEq, vK, oK] at IH
      simp only [go_sem, Nat.reduceAdd, Nat.reduceSub, Nat.reduceMul, Nat.reduceDiv, Nat.reduceMod, Nat.reduceLeDiff, Nat.reduceLT, Nat.reduceBEq, Int.reduceToNat, Int.reduceLT, Int.reduceLE, Int.reduceEq, vK, oK, lt_t h2, h1, h6, h5, e7, e8 (List.map enT r)]
      exact IH
theorem ok27 (n : Nat) (b : Bool) (l : List Stp) (hl : l.length < 1000000000) (hf : ∀ s ∈ l, s.Fits) : callP (level E (n+2)) 27 [.agg [slD b 9 (l.map enT)]] = some (.agg [slD true 9 ((l.map nz).map enT)]) := by
  have h70 := ok70 n b l hl hf
  have h := l27 (lo := level E (n + 1)) (b := true) (l := l.map nz) (by rw [List.length_map]; exact hl) (l.map nz) [] 0 rfl rfl
  rw [cast0] at h
  rw [p27]
  cases l with
  | nil =>
    simp only [go_sem, Nat.reduceAdd, Nat.reduceSub, Nat.reduceMul, Nat.reduceDiv, Nat.reduceMod, Nat.reduceLeDiff, Nat.reduceLT, Nat.reduceBEq, Int.reduceToNat, Int.reduceLT, Int.reduceLE, Int.reduceEq, vK, oK] at h h70
    simp only [go_sem, Nat.reduceAdd, Nat.reduceSub, Nat.reduceMul, Nat.reduceDiv, Nat.reduceMod, Nat.reduceLeDiff, Nat.reduceLT, Nat.reduceBEq, Int.reduceToNat, Int.reduceLT, Int.reduceLE, Int.reduceEq, h, h70]
    rfl
  | cons x l =>
    simp only [go_sem, Nat.reduceAdd, Nat.reduceSub, Nat.reduceMul, Nat.reduceDiv, Nat.reduceMod, Nat.reduceLeDiff, Nat.reduceLT, Nat.reduceBEq, Int.reduceToNat, Int.reduceLT, Int.reduceLE, Int.reduceEq, vK, oK] at h h70
    simp only [go_sem, Nat.reduceAdd, Nat.reduceSub, Nat.reduceMul, Nat.reduceDiv, Nat.reduceMod, Nat.reduceLeDiff, Nat.reduceLT, Nat.reduceBEq, Int.reduceToNat, Int.reduceLT, Int.reduceLE, Int.reduceEq, h, h70]
    rfl
end Go.Vm.P12

/- Evaluating: far places of a list. -/
namespace Go.Vm
section
universe u
variable {α : Type u} {d : α}
theorem gd64 {x0 x1 x2 x3 x4 x5 x6 x7 x8 x9 x10 x11 x12 x13 x14 x15 x16 x17 x18 x19 x20 x21 x22 x23 x24 x25 x26 x27 x28 x29 x30 x31 x32 x33 x34 x35 x36 x37 x38 x39 x40 x41 x42 x43 x44 x45 x46 x47 x48 x49 x50 x51 x52 x53 x54 x55 x56 x57 x58 x59 x60 x61 x62 x63 x64 : α} {r : List α} : List.getD (x0 :: x1 :: x2 :: x3 :: x4 :: x5 :: x6 :: x7 :: x8 :: x9 :: x10 :: x11 :: x12 :: x13 :: x14 :: x15 :: x16 :: x17 :: x18 :: x19 :: x20 :: x21 :: x22 :: x23 :: x24 :: x25 :: x26 :: x27 :: x28 :: x29 :: x30 :: x31 :: x32 :: x33 :: x34 :: x35 :: x36 :: x37 :: x38 :: x39 :: x40 :: x41 :: x42 :: x43 :: x44 :: x45 :: x46 :: x47 :: x48 :: x49 :: x50 :: x51 :: x52 :: x53 :: x54 :: x55 :: x56 :: x57 :: x58 :: x59 :: x60 :: x61 :: x62 :: x63 :: x64 :: r) 64 d = x64 := id rfl
theorem gd65 {x0 x1 x2 x3 x4 x5 x6 x7 x8 x9 x10 x11 x12 x13 x14 x15 x16 x17 x18 x19 x20 x21 x22 x23 x24 x25 x26 x27 x28 x29 x30 x31 x32 x33 x34 x35 x36 x37 x38 x39 x40 x41 x42 x43 x44 x45 x46 x47 x48 x49 x50 x51 x52 x53 x54 x55 x56 x57 x58 x59 x60 x61 x62 x63 x64 x65 : α} {r : List α} : List.getD (x0 :: x1 :: x2 :: x3 :: x4 :: x5 :: x6 :: x7 :: x8 :: x9 :: x10 :: x11 :: x12 :: x13 :: x14 :: x15 :: x16 :: x17 :: x18 :: x19 :: x20 :: x21 :: x22 :: x23 :: x24 :: x25 :: x26 :: x27 :: x28 :: x29 :: x30 :: x31 :: x32 :: x33 :: x34 :: x35 :: x36 :: x37 :: x38 :: x39 :: x40 :: x41 :: x42 :: x43 :: x44 :: x45 :: x46 :: x47 :: x48 :: x49 :: x50 :: x51 :: x52 :: x53 :: x54 :: x55 :: x56 :: x57 :: x58 :: x59 :: x60 :: x61 :: x62 :: x63 :: x64 :: x65 :: r) 65 d = x65 := id rfl
theorem gd66 {x0 x1 x2 x3 x4 x5 x6 x7 x8 x9 x10 x11 x12 x13 x14 x15 x16 x17 x18 x19 x20 x21 x22 x23 x24 x25 x26 x27 x28 x29 x30 x31 x32 x33 x34 x35 x36 x37 x38 x39 x40 x41 x42 x43 x44 x45 x46 x47 x48 x49 x50 x51 x52 x53 x54 x55 x56 x57 x58 x59 x60 x61 x62 x63 x64 x65 x66 : α} {r : List α} : List.getD (x0 :: x1 :: x2 :: x3 :: x4 :: x5 :: x6 :: x7 :: x8 :: x9 :: x10 :: x11 :: x12 :: x13 :: x14 :: x15 :: x16 :: x17 :: x18 :: x19 :: x20 :: x21 :: x22 :: x23 :: x24 :: x25 :: x26 :: x27 :: x28 :: x29 :: x30 :: x31 :: x32 :: x33 :: x34 :: x35 :: x36 :: x37 :: x38 :: x39 :: x40 :: x41 :: x42 :: x43 :: x44 :: x45 :: x46 :: x47 :: x48 :: x49 :: x50 :: x51 :: x52 :: x53 :: x54 :: x55 :: x56 :: x57 :: x58 :: x59 :: x60 :: x61 :: x62 :: x63 :: x64 :: x65 :: x66 :: r) 66 d = x66 := id rfl
theorem gd67 {x0 x1 x2 x3 x4 x5 x6 x7 x8 x9 x10 x11 x12 x13 x14 x15 x16 x17 x18 x19 x20 x21 x22 x23 x24 x25 x26 x27 x28 x29 x30 x31 x32 x33 x34 x35 x36 x37 x38 x39 x40 x41 x42 x43 x44 x45 x46 x47 x48 x49 x50 x51 x52 x53 x54 x55 x56 x57 x58 x59 x60 x61 x62 x63 x64 x65 x66 x67 : α} {r : List α} : List.getD (x0 :: x1 :: x2 :: x3 :: x4 :: x5 :: x6 :: x7 :: x8 :: x9 :: x10 :: x11 :: x12 :: x13 :: x14 :: x15 :: x16 :: x17 :: x18 :: x19 :: x20 :: x21 :: x22 :: x23 :: x24 :: x25 :: x26 :: x27 :: x28 :: x29 :: x30 :: x31 :: x32 :: x33 :: x34 :: x35 :: x36 :: x37 :: x38 :: x39 :: x40 :: x41 :: x42 :: x43 :: x44 :: x45 :: x46 :: x47 :: x48 :: x49 :: x50 :: x51 :: x52 :: x53 :: x54 :: x55 :: x56 :: x57 :: x58 :: x59 :: x60 :: x61 :: x62 :: x63 :: x64 :: x65 :: x66 :: x67 :: r) 67 d = x67 := id rfl
theorem gd68 {x0 x1 x2 x3 x4 x5 x6 x7 x8 x9 x10 x11 x12 x13 x14 x15 x16 x17 x18 x19 x20 x21 x22 x23 x24 x25 x26 x27 x28 x29 x30 x31 x32 x33 x34 x35 x36 x37 x38 x39 x40 x41 x42 x43 x44 x45 x46 x47 x48 x49 x50 x51 x52 x53 x54 x55 x56 x57 x58 x59 x60 x61 x62 x63 x64 x65 x66 x67 x68 : α} {r : List α} : List.getD (x0 :: x1 :: x2 :: x3 :: x4 :: x5 :: x6 :: x7 :: x8 :: x9 :: x10 :: x11 :: x12 :: x13 :: x14 :: x15 :: x16 :: x17 :: x18 :: x19 :: x20 :: x21 :: x22 :: x23 :: x24 :: x25 :: x26 :: x27 :: x28 :: x29 :: x30 :: x31 :: x32 :: x33 :: x34 :: x35 :: x36 :: x37 :: x38 :: x39 :: x40 :: x41 :: x42 :: x43 :: x44 :: x45 :: x46 :: x47 :: x48 :: x49 :: x50 :: x51 :: x52 :: x53 :: x54 :: x55 :: x56 :: x57 :: x58 :: x59 :: x60 :: x61 :: x62 :: x63 :: x64 :: x65 :: x66 :: x67 :: x68 :: r) 68 d = x68 := id rfl
theorem gd69 {x0 x1 x2 x3 x4 x5 x6 x7 x8 x9 x10 x11 x12 x13 x14 x15 x16 x17 x18 x19 x20 x21 x22 x23 x24 x25 x26 x27 x28 x29 x30 x31 x32 x33 x34 x35 x36 x37 x38 x39 x40 x41 x42 x43 x44 x45 x46 x47 x48 x49 x50 x51 x52 x53 x54 x55 x56 x57 x58 x59 x60 x61 x62 x63 x64 x65 x66 x67 x68 x69 : α} {r : List α} : List.getD (x0 :: x1 :: x2 :: x3 :: x4 :: x5 :: x6 :: x7 :: x8 :: x9 :: x10 :: x11 :: x12 :: x13 :: x14 :: x15 :: x16 :: x17 :: x18 :: x19 :: x20 :: x21 :: x22 :: x23 :: x24 :: x25 :: x26 :: x27 :: x28 :: x29 :: x30 :: x31 :: x32 :: x33 :: x34 :: x35 :: x36 :: x37 :: x38 :: x39 :: x40 :: x41 :: x42 :: x43 :: x44 :: x45 :: x46 :: x47 :: x48 :: x49 :: x50 :: x51 :: x52 :: x53 :: x54 :: x55 :: x56 :: x57 :: x58 :: x59 :: x60 :: x61 :: x62 :: x63 :: x64 :: x65 :: x66 :: x67 :: x68 :: x69 :: r) 69 d = x69 := id rfl
theorem gd70 {x0 x1 x2 x3 x4 x5 x6 x7 x8 x9 x10 x11 x12 x13 x14 x15 x16 x17 x18 x19 x20 x21 x22 x23 x24 x25 x26 x27 x28 x29 x30 x31 x32 x33 x34 x35 x36 x37 x38 x39 x40 x41 x42 x43 x44 x45 x46 x47 x48 x49 x50 x51 x52 x53 x54 x55 x56 x57 x58 x59 x60 x61 x62 x63 x64 x65 x66 x67 x68 x69 x70 : α} {r : List α} : List.getD (x0 :: x1 :: x2 :: x3 :: x4 :: x5 :: x6 :: x7 :: x8 :: x9 :: x10 :: x11 :: x12 :: x13 :: x14 :: x15 :: x16 :: x17 :: x18 :: x19 :: x20 :: x21 :: x22 :: x23 :: x24 :: x25 :: x26 :: x27 :: x28 :: x29 :: x30 :: x31 :: x32 :: x33 :: x34 :: x35 :: x36 :: x37 :: x38 :: x39 :: x40 :: x41 :: x42 :: x43 :: x44 :: x45 :: x46 :: x47 :: x48 :: x49 :: x50 :: x51 :: x52 :: x53 :: x54 :: x55 :: x56 :: x57 :: x58 :: x59 :: x60 :: x61 :: x62 :: x63 :: x64 :: x65 :: x66 :: x67 :: x68 :: x69 :: x70 :: r) 70 d = x70 := id rfl
theorem gd71 {x0 x1 x2 x3 x4 x5 x6 x7 x8 x9 x10 x11 x12 x13 x14 x15 x16 x17 x18 x19 x20 x21 x22 x23 x24 x25 x26 x27 x28 x29 x30 x31 x32 x33 x34 x35 x36 x37 x38 x39 x40 x41 x42 x43 x44 x45 x46 x47 x48 x49 x50 x51 x52 x53 x54 x55 x56 x57 x58 x59 x60 x61 x62 x63 x64 x65 x66 x67 x68 x69 x70 x71 : α} {r : List α} : List.getD (x0 :: x1 :: x2 :: x3 :: x4 :: x5 :: x6 :: x7 :: x8 :: x9 :: x10 :: x11 :: x12 :: x13 :: x14 :: x15 :: x16 :: x17 :: x18 :: x19 :: x20 :: x21 :: x22 :: x23 :: x24 :: x25 :: x26 :: x27 :: x28 :: x29 :: x30 :: x31 :: x32 :: x33 :: x34 :: x35 :: x36 :: x37 :: x38 :: x39 :: x40 :: x41 :: x42 :: x43 :: x44 :: x45 :: x46 :: x47 :: x48 :: x49 :: x50 :: x51 :: x52 :: x53 :: x54 :: x55 :: x56 :: x57 :: x58 :: x59 :: x60 :: x61 :: x62 :: x63 :: x64 :: x65 :: x66 :: x67 :: x68 :: x69 :: x70 :: x71 :: r) 71 d = x71 := id rfl
theorem gd72 {x0 x1 x2 x3 x4 x5 x6 x7 x8 x9 x10 x11 x12 x13 x14 x15 x16 x17 x18 x19 x20 x21 x22 x23 x24 x25 x26 x27 x28 x29 x30 x31 x32 x33 x34 x35 x36 x37 x38 x39 x40 x41 x42 x43 x44 x45 x46 x47 x48 x49 x50 x51 x52 x53 x54 x55 x56 x57 x58 x59 x60 x61 x62 x63 x64 x65 x66 x67 x68 x69 x70 x71 x72 : α} {r : List α} : List.getD (x0 :: x1 :: x2 :: x3 :: x4 :: x5 :: x6 :: x7 :: x8 :: x9 :: x10 :: x11 :: x12 :: x13 :: x14 :: x15 :: x16 :: x17 :: x18 :: x19 :: x20 :: x21 :: x22 :: x23 :: x24 :: x25 :: x26 :: x27 :: x28 :: x29 :: x30 :: x31 :: x32 :: x33 :: x34 :: x35 :: x36 :: x37 :: x38 :: x39 :: x40 :: x41 :: x42 :: x43 :: x44 :: x45 :: x46 :: x47 :: x48 :: x49 :: x50 :: x51 :: x52 :: x53 :: x54 :: x55 :: x56 :: x57 :: x58 :: x59 :: x60 :: x61 :: x62 :: x63 :: x64 :: x65 :: x66 :: x67 :: x68 :: x69 :: x70 :: x71 :: x72 :: r) 72 d = x72 := id rfl
theorem gd73 {x0 x1 x2 x3 x4 x5 x6 x7 x8 x9 x10 x11 x12 x13 x14 x15 x16 x17 x18 x19 x20 x21 x22 x23 x24 x25 x26 x27 x28 x29 x30 x31 x32 x33 x34 x35 x36 x37 x38 x39 x40 x41 x42 x43 x44 x45 x46 x47 x48 x49 x50 x51 x52 x53 x54 x55 x56 x57 x58 x59 x60 x61 x62 x63 x64 x65 x66 x67 x68 x69 x70 x71 x72 x73 : α} {r : List α} : List.getD (x0 :: x1 :: x2 :: x3 :: x4 :: x5 :: x6 :: x7 :: x8 :: x9 :: x10 :: x11 :: x12 :: x13 :: x14 :: x15 :: x16 :: x17 :: x18 :: x19 :: x20 :: x21 :: x22 :: x23 :: x24 :: x25 :: x26 :: x27 :: x28 :: x29 :: x30 :: x31 :: x32 :: x33 :: x34 :: x35 :: x36 :: x37 :: x38 :: x39 :: x40 :: x41 :: x42 :: x43 :: x44 :: x45 :: x46 :: x47 :: x48 :: x49 :: x50 :: x51 :: x52 :: x53 :: x54 :: x55 :: x56 :: x57 :: x58 :: x59 :: x60 :: x61 :: x62 :: x63 :: x64 :: x65 :: x66 :: x67 :: x68 :: x69 :: x70 :: x71 :: x72 :: x73 :: r) 73 d = x73 := id rfl
theorem gd74 {x0 x1 x2 x3 x4 x5 x6 x7 x8 x9 x10 x11 x12 x13 x14 x15 x16 x17 x18 x19 x20 x21 x22 x23 x24 x25 x26 x27 x28 x29 x30 x31 x32 x33 x34 x35 x36 x37 x38 x39 x40 x41 x42 x43 x44 x45 x46 x47 x48 x49 x50 x51 x52 x53 x54 x55 x56 x57 x58 x59 x60 x61 x62 x63 x64 x65 x66 x67 x68 x69 x70 x71 x72 x73 x74 : α} {r : List α} : List.getD (x0 :: x1 :: x2 :: x3 :: x4 :: x5 :: x6 :: x7 :: x8 :: x9 :: x10 :: x11 :: x12 :: x13 :: x14 :: x15 :: x16 :: x17 :: x18 :: x19 :: x20 :: x21 :: x22 :: x23 :: x24 :: x25 :: x26 :: x27 :: x28 :: x29 :: x30 :: x31 :: x32 :: x33 :: x34 :: x35 :: x36 :: x37 :: x38 :: x39 :: x40 :: x41 :: x42 :: x43 :: x44 :: x45 :: x46 :: x47 :: x48 :: x49 :: x50 :: x51 :: x52 :: x53 :: x54 :: x55 :: x56 :: x57 :: x58 :: x59 :: x60 :: x61 :: x62 :: x63 :: x64 :: x65 :: x66 :: x67 :: x68 :: x69 :: x70 :: x71 :: x72 :: x73 :: x74 :: r) 74 d = x74 := id rfl
theorem gd75 {x0 x1 x2 x3 x4 x5 x6 x7 x8 x9 x10 x11 x12 x13 x14 x15 x16 x17 x18 x19 x20 x21 x22 x23 x24 x25 x26 x27 x28 x29 x30 x31 x32 x33 x34 x35 x36 x37 x38 x39 x40 x41 x42 x43 x44 x45 x46 x47 x48 x49 x50 x51 x52 x53 x54 x55 x56 x57 x58 x59 x60 x61 x62 x63 x64 x65 x66 x67 x68 x69 x70 x71 x72 x73 x74 x75 : α} {r : List α} : List.getD (x0 :: x1 :: x2 :: x3 :: x4 :: x5 :: x6 :: x7 :: x8 :: x9 :: x10 :: x11 :: x12 :: x13 :: x14 :: x15 :: x16 :: x17 :: x18 :: x19 :: x20 :: x21 :: x22 :: x23 :: x24 :: x25 :: x26 :: x27 :: x28 :: x29 :: x30 :: x31 :: x32 :: x33 :: x34 :: x35 :: x36 :: x37 :: x38 :: x39 :: x40 :: x41 :: x42 :: x43 :: x44 :: x45 :: x46 :: x47 :: x48 :: x49 :: x50 :: x51 :: x52 :: x53 :: x54 :: x55 :: x56 :: x57 :: x58 :: x59 :: x60 :: x61 :: x62 :: x63 :: x64 :: x65 :: x66 :: x67 :: x68 :: x69 :: x70 :: x71 :: x72 :: x73 :: x74 :: x75 :: r) 75 d = x75 := id rfl
theorem gd76 {x0 x1 x2 x3 x4 x5 x6 x7 x8 x9 x10 x11 x12 x13 x14 x15 x16 x17 x18 x19 x20 x21 x22 x23 x24 x25 x26 x27 x28 x29 x30 x31 x32 x33 x34 x35 x36 x37 x38 x39 x40 x41 x42 x43 x44 x45 x46 x47 x48 x49 x50 x51 x52 x53 x54 x55 x56 x57 x58 x59 x60 x61 x62 x63 x64 x65 x66 x67 x68 x69 x70 x71 x72 x73 x74 x75 x76 : α} {r : List α} : List.getD (x0 :: x1 :: x2 :: x3 :: x4 :: x5 :: x6 :: x7 :: x8 :: x9 :: x10 :: x11 :: x12 :: x13 :: x14 :: x15 :: x16 :: x17 :: x18 :: x19 :: x20 :: x21 :: x22 :: x23 :: x24 :: x25 :: x26 :: x27 :: x28 :: x29 :: x30 :: x31 :: x32 :: x33 :: x34 :: x35 :: x36 :: x37 :: x38 :: x39 :: x40 :: x41 :: x42 :: x43 :: x44 :: x45 :: x46 :: x47 :: x48 :: x49 :: x50 :: x51 :: x52 :: x53 :: x54 :: x55 :: x56 :: x57 :: x58 :: x59 :: x60 :: x61 :: x62 :: x63 :: x64 :: x65 :: x66 :: x67 :: x68 :: x69 :: x70 :: x71 :: x72 :: x73 :: x74 :: x75 :: x76 :: r) 76 d = x76 := id rfl
theorem gd77 {x0 x1 x2 x3 x4 x5 x6 x7 x8 x9 x10 x11 x12 x13 x14 x15 x16 x17 x18 x19 x20 x21 x22 x23 x24 x25 x26 x27 x28 x29 x30 x31 x32 x33 x34 x35 x36 x37 x38 x39 x40 x41 x42 x43 x44 x45 x46 x47 x48 x49 x50 x51 x52 x53 x54 x55 x56 x57 x58 x59 x60 x61 x62 x63 x64 x65 x66 x67 x68 x69 x70 x71 x72 x73 x74 x75 x76 x77 : α} {r : List α} : List.getD (x0 :: x1 :: x2 :: x3 :: x4 :: x5 :: x6 :: x7 :: x8 :: x9 :: x10 :: x11 :: x12 :: x13 :: x14 :: x15 :: x16 :: x17 :: x18 :: x19 :: x20 :: x21 :: x22 :: x23 :: x24 :: x25 :: x26 :: x27 :: x28 :: x29 :: x30 :: x31 :: x32 :: x33 :: x34 :: x35 :: x36 :: x37 :: x38 :: x39 :: x40 :: x41 :: x42 :: x43 :: x44 :: x45 :: x46 :: x47 :: x48 :: x49 :: x50 :: x51 :: x52 :: x53 :: x54 :: x55 :: x56 :: x57 :: x58 :: x59 :: x60 :: x61 :: x62 :: x63 :: x64 :: x65 :: x66 :: x67 :: x68 :: x69 :: x70 :: x71 :: x72 :: x73 :: x74 :: x75 :: x76 :: x77 :: r) 77 d = x77 := id rfl
theorem gd78 {x0 x1 x2 x3 x4 x5 x6 x7 x8 x9 x10 x11 x12 x13 x14 x15 x16 x17 x18 x19 x20 x21 x22 x23 x24 x25 x26 x27 x28 x29 x30 x31 x32 x33 x34 x35 x36 x37 x38 x39 x40 x41 x42 x43 x44 x45 x46 x47 x48 x49 x50 x51 x52 x53 x54 x55 x56 x57 x58 x59 x60 x61 x62 x63 x64 x65 x66 x67 x68 x69 x70 x71 x72 x73 x74 x75 x76 x77 x78 : α} {r : List α} : List.getD (x0 :: x1 :: x2 :: x3 :: x4 :: x5 :: x6 :: x7 :: x8 :: x9 :: x10 :: x11 :: x12 :: x13 :: x14 :: x15 :: x16 :: x17 :: x18 :: x19 :: x20 :: x21 :: x22 :: x23 :: x24 :: x25 :: x26 :: x27 :: x28 :: x29 :: x30 :: x31 :: x32 :: x33 :: x34 :: x35 :: x36 :: x37 :: x38 :: x39 :: x40 :: x41 :: x42 :: x43 :: x44 :: x45 :: x46 :: x47 :: x48 :: x49 :: x50 :: x51 :: x52 :: x53 :: x54 :: x55 :: x56 :: x57 :: x58 :: x59 :: x60 :: x61 :: x62 :: x63 :: x64 :: x65 :: x66 :: x67 :: x68 :: x69 :: x70 :: x71 :: x72 :: x73 :: x74 :: x75 :: x76 :: x77 :: x78 :: r) 78 d = x78 := id rfl
theorem gd79 {x0 x1 x2 x3 x4 x5 x6 x7 x8 x9 x10 x11 x12 x13 x14 x15 x16 x17 x18 x19 x20 x21 x22 x23 x24 x25 x26 x27 x28 x29 x30 x31 x32 x33 x34 x35 x36 x37 x38 x39 x40 x41 x42 x43 x44 x45 x46 x47 x48 x49 x50 x51 x52 x53 x54 x55 x56 x57 x58 x59 x60 x61 x62 x63 x64 x65 x66 x67 x68 x69 x70 x71 x72 x73 x74 x75 x76 x77 x78 x79 : α} {r : List α} : List.getD (x0 :: x1 :: x2 :: x3 :: x4 :: x5 :: x6 :: x7 :: x8 :: x9 :: x10 :: x11 :: x12 :: x13 :: x14 :: x15 :: x16 :: x17 :: x18 :: x19 :: x20 :: x21 :: x22 :: x23 :: x24 :: x25 :: x26 :: x27 :: x28 :: x29 :: x30 :: x31 :: x32 :: x33 :: x34 :: x35 :: x36 :: x37 :: x38 :: x39 :: x40 :: x41 :: x42 :: x43 :: x44 :: x45 :: x46 :: x47 :: x48 :: x49 :: x50 :: x51 :: x52 :: x53 :: x54 :: x55 :: x56 :: x57 :: x58 :: x59 :: x60 :: x61 :: x62 :: x63 :: x64 :: x65 :: x66 :: x67 :: x68 :: x69 :: x70 :: x71 :: x72 :: x73 :: x74 :: x75 :: x76 :: x77 :: x78 :: x79 :: r) 79 d = x79 := id rfl
end
attribute [go_sem] gd64 gd65 gd66 gd67 gd68 gd69 gd70 gd71 gd72 gd73 gd74 gd75 gd76 gd77 gd78 gd79
end Go.Vm
