/- A part of the proof that the law answers true for every input; the conditions are those of the card: the listed variable reads as the program lays it. -/
import Derived.Test.YtfhjkkjaaeohhaaDoorV4
set_option linter.unusedSimpArgs false
set_option linter.unusedVariables false
/- Chapter 12, functions: sums of lines, leaves. -/
set_option maxRecDepth 100000
namespace Go.Vm.P12
open Go Go.Vm
def ad (a b : Int) : Int := wrp .i64 (a + b)
def sb (a b : Int) : Int := wrp .i64 (a - b)
def ml (a b : Int) : Int := wrp .i64 (a * b)
theorem getA {α : Type} {A R : List α} {e : α} {i : Nat} (h : A.length = i) : (A ++ e :: R)[i]? = some e := by
  subst h; simp
theorem setA {α : Type} {A R : List α} {e v : α} {i : Nat} (h : A.length = i) : (A ++ e :: R).set i v = A ++ v :: R := by
  subst h; simp
theorem repic (k : Nat) : List.replicate k [D.int .i64 0] = (List.replicate k (0 : Int)).map ic := by
  induction k with
  | zero => rfl
  | succ k ih => rw [List.replicate_succ, List.replicate_succ, ih]; rfl
theorem take_self {α : Type} {l : List α} {k : Nat} (h : l.length = k) : l.take k = l := by subst h; exact List.take_length
theorem ok102 (n k : Nat) (h : k < 1000000000) : callP (level E (n+1)) 102 [.int .i64 k] = some (.agg [slD false 1 ((List.replicate k (0 : Int)).map ic), .int .i64 0]) := by
  have h1 : ((8 : Nat) : Int) * (k : Int) ≤ 70368744177664 := by omega
  have h2 : (k : Int) ≤ 70368744177664 := by omega
  rw [p102]
  simp only [go_sem, Nat.reduceAdd, Nat.reduceSub, Nat.reduceMul, Nat.reduceDiv, Nat.reduceMod, Nat.reduceLeDiff, Nat.reduceBEq, Int.reduceToNat, Int.reduceLT, Int.reduceLE, Int.reduceEq, h1, h2, Int.natCast_nonneg, slD_f, repic, List.length_replicate]
theorem ok53 (n k : Nat) (h : k < 1000000000) : callP (level E (n+1)) 53 [.int .i64 k] = some (.agg [slD false 1 ((List.replicate k (0 : Int)).map ic), .int .i64 0]) := by
  have h1 : ((8 : Nat) : Int) * (k : Int) ≤ 70368744177664 := by omega
  have h2 : (k : Int) ≤ 70368744177664 := by omega
  rw [p53]
  simp only [go_sem, Nat.reduceAdd, Nat.reduceSub, Nat.reduceMul, Nat.reduceDiv, Nat.reduceMod, Nat.reduceLeDiff, Nat.reduceBEq, Int.reduceToNat, Int.reduceLT, Int.reduceLE, Int.reduceEq, h1, h2, Int.natCast_nonneg, slD_f, repic, List.length_replicate]
def pls (f : Int) (x o : Ln) : Ln := { nl := x.nl, co := List.zipWith (fun a b => ad a (ml f b)) x.co o.co, c := ad x.c (ml f o.c) }
theorem l103 {lo : Lower} {on : Bool} {oc : List Int} {f c d : Int} {N : Nat} (hN : N < 1000000000) : ∀ (r q A : List Int) (i : Nat), A.length = i → i + r.length = N → oc.drop i = q → r.length = q.length →
    outC ⟨0, false⟩ [0, 0, 0, 1, 0, 0, 1, 0, 0, 0, 0] (rnd (aCode lo ⟨0, false⟩ b103_0) (head ⟨0, false⟩ [0, 0, 1, 1, 0, 1, 1, 0, 1, 1, 0])
      ⟨[.junk, .junk, .imm (.int .i64 f), .ptr 0 0, .junk, .ptr 1 0, .ptr 2 0, .junk, .imm (.int .i64 N), .imm (.int .i64 i), .junk],
        [.box [.imm .nil, .imm (.int .i64 0)], .box [.imm (slD on 1 (oc.map ic)), .imm (.int .i64 d)], .box [.ref 3 1 0 N, .imm (.int .i64 c)], .arr 1 (A.map ic ++ r.map ic)], none⟩) =
      some (.exit 0, ⟨[.junk, .junk, .junk, .ptr 0 0, .junk, .junk, .ptr 1 0, .junk, .junk, .junk, .junk], [.box [.imm .nil, .imm (.int .i64 0)], .box [.ref 2 1 0 N, .imm (.int .i64 c)], .arr 1 (A.map ic ++ (List.zipWith (fun a b => ad a (ml f b)) r q).map ic)], none⟩)
  | [], q, A, i, hA, hi, hq, hl => by
    have : q = [] := by cases q <;> simp at hl ⊢
    subst this
    rw [rnd_eq]
    simp only [go_sem, Nat.reduceAdd, Nat.reduceSub, Nat.reduceMul, Nat.reduceDiv, Nat.reduceMod, Nat.reduceLeDiff, Nat.reduceBEq, Int.reduceToNat, Int.reduceLT, Int.reduceLE, Int.reduceEq, lt_f (show N ≤ i by simp at hi; omega), List.zipWith]
  | x :: r, [], A, i, hA, hi, hq, hl => by simp at hl
  | x :: r, y :: q, A, i, hA, hi, hq, hl => by
    obtain ⟨h1, h2, h3⟩ := drop_c hq
    have hlt : i < N := by simp at hi; omega
    have hlt' : (i : Int) < (N : Int) := by omega
    have IH := l103 (lo := lo) (on := on) (oc := oc) (f := f) (c := c) (d := d) hN r q (A ++ [ad x (ml f y)]) (i + 1) (by simp [hA]) (by simp at hi; omega) h3 (by simpa using hl)
    have h6 := wrpS (i := i) (by omega)
    have hA' : (A.map ic).length = i := by simpa using hA
    rw [rnd_eq]
    simp only [go_sem, Nat.reduceAdd, Nat.reduceSub, Nat.reduceMul, Nat.reduceDiv, Nat.reduceMod, Nat.reduceLeDiff, Nat.reduceBEq, Int.reduceToNat, Int.reduceLT, Int.reduceLE, Int.reduceEq, List.append_assoc] at IH
    simp only [go_sem, Nat.reduceAdd, Nat.reduceSub, Nat.reduceMul, Nat.reduceDiv, Nat.reduceMod, Nat.reduceLeDiff, Nat.reduceBEq, Int.reduceToNat, Int.reduceLT, Int.reduceLE, Int.reduceEq, lt_t hlt, h1, hlt', Int.natCast_nonneg, Nat.mul_one, Nat.div_one, Nat.mod_one, getA hA', setA hA', h6, List.zipWith]
    exact IH
def plV (x : Ln) : AV := match x.co, x.nl with
  | [], true => .imm (.agg [.nil, .int .i64 x.c])
  | [], false => .agg [.e0 1, .imm (.int .i64 x.c)]
  | _, _ => .agg [.ref 0 1 0 x.co.length, .imm (.int .i64 x.c)]
def plO (x : Ln) : List AO := match x.co with | [] => [] | _ => [.arr 1 (x.co.map ic)]
theorem ok103 (n : Nat) (x o : Ln) (f : Int) (h : x.co.length = o.co.length) (hx : x.co.length < 1000000000) : callI (level E (n+2)) 103 [.agg (enL x), .agg (enL o), .int .i64 f] = some (plV (pls f x o), plO (pls f x o)) := by
  obtain ⟨xn, xc, xd⟩ := x
  obtain ⟨on, oc, od⟩ := o
  simp only at h hx
  have h104 := ok104 n xn (xc.map ic) (by simpa using hx)
  rw [i103]
  cases xc with
  | nil =>
    have : oc = [] := by cases oc <;> simp at h ⊢
    subst this
    simp only [go_sem, Nat.reduceAdd, Nat.reduceSub, Nat.reduceMul, Nat.reduceDiv, Nat.reduceMod, Nat.reduceLeDiff, Nat.reduceBEq, Int.reduceToNat, Int.reduceLT, Int.reduceLE, Int.reduceEq] at h104
    cases xn <;> simp only [go_sem, Nat.reduceAdd, Nat.reduceSub, Nat.reduceMul, Nat.reduceDiv, Nat.reduceMod, Nat.reduceLeDiff, Nat.reduceBEq, Int.reduceToNat, Int.reduceLT, Int.reduceLE, Int.reduceEq, slD_nil, slD_f] at h104 <;> simp only [go_sem, Nat.reduceAdd, Nat.reduceSub, Nat.reduceMul, Nat.reduceDiv, Nat.reduceMod, Nat.reduceLeDiff, Nat.reduceBEq, Int.reduceToNat, Int.reduceLT, Int.reduceLE, Int.reduceEq, slD_nil, slD_f, h104, clV, clO, plV, plO, pls, List.zipWith, ad, ml, rnd_eq, Int.lt_irrefl]
  | cons y xc =>
    obtain ⟨N, hN⟩ : ∃ N, N = (y :: xc).length := ⟨_, rfl⟩
    have hl := l103 (lo := level E (n+1)) (on := on) (oc := oc) (f := f) (c := ad xd (ml f od)) (d := od) (N := N) (by omega) (y :: xc) oc [] 0 rfl (by simp [hN]) rfl h
    have hN' : xc.length + 1 = N := by simp [hN]
    have hz : (List.zipWith (fun a b => ad a (ml f b)) (y :: xc) oc).length = N := by rw [List.length_zipWith, ← h]; simp [hN]
    generalize hzz : List.zipWith (fun a b => ad a (ml f b)) (y :: xc) oc = z at hl hz
    have hr : (plV (pls f ⟨xn, y :: xc, xd⟩ ⟨on, oc, od⟩), plO (pls f ⟨xn, y :: xc, xd⟩ ⟨on, oc, od⟩)) = (AV.agg [.ref 0 1 0 N, .imm (.int .i64 (ad xd (ml f od)))], [AO.arr 1 (z.map ic)]) := by
      cases z with
      | nil => simp at hz; omega
      | cons a z => simp only [plV, plO, pls, hzz, hz]
    rw [hr]
    simp only [go_sem, Nat.reduceAdd, Nat.reduceSub, Nat.reduceMul, Nat.reduceDiv, Nat.reduceMod, Nat.reduceLeDiff, Nat.reduceBEq, Int.reduceToNat, Int.reduceLT, Int.reduceLE, Int.reduceEq, slD_cons] at h104
    simp only [go_sem, Nat.reduceAdd, Nat.reduceSub, Nat.reduceMul, Nat.reduceDiv, Nat.reduceMod, Nat.reduceLeDiff, Nat.reduceBEq, Int.reduceToNat, Int.reduceLT, Int.reduceLE, Int.reduceEq, ad, ml] at hl
    simp only [go_sem, Nat.reduceAdd, Nat.reduceSub, Nat.reduceMul, Nat.reduceDiv, Nat.reduceMod, Nat.reduceLeDiff, Nat.reduceBEq, Int.reduceToNat, Int.reduceLT, Int.reduceLE, Int.reduceEq, slD_cons, h104, clV, clO, hN', ad, ml]
    rw [hl]
    simp only [go_sem, Nat.reduceAdd, Nat.reduceSub, Nat.reduceMul, Nat.reduceDiv, Nat.reduceMod, Nat.reduceLeDiff, Nat.reduceBEq, Int.reduceToNat, Int.reduceLT, Int.reduceLE, Int.reduceEq]
theorem ok103_0 (n : Nat) (b : Bool) (c d : Int) (f : Int) : callI (level E (n+2)) 103 [.agg [.sl 1 [], .int .i64 c], .agg [slD b 1 [], .int .i64 d], .int .i64 f] = some (.agg [.e0 1, .imm (.int .i64 (ad c (ml f d)))], []) :=
  ok103 n ⟨false, [], c⟩ ⟨b, [], d⟩ f rfl (by simp)
theorem ok103_1 (n N : Nat) (xc : List Int) (c : Int) (o : Ln) (f : Int) (h1 : xc.length = N) (h2 : o.co.length = N) (h3 : 0 < N) (h4 : N < 1000000000) : callI (level E (n+2)) 103 [.agg [.sl 1 (xc.map ic), .int .i64 c], .agg (enL o), .int .i64 f] =
    some (.agg [.ref 0 1 0 N, .imm (.int .i64 (ad c (ml f o.c)))], [.arr 1 ((List.zipWith (fun a b => ad a (ml f b)) xc o.co).map ic)]) := by
  have h := ok103 n ⟨false, xc, c⟩ o f (by rw [h1, h2]) (by rw [h1]; exact h4)
  have hz : (List.zipWith (fun a b => ad a (ml f b)) xc o.co).length = N := by rw [List.length_zipWith, h1, h2]; simp
  rw [show [D.agg [.sl 1 (xc.map ic), .int .i64 c], .agg (enL o), .int .i64 f] = [.agg (enL ⟨false, xc, c⟩), .agg (enL o), .int .i64 f] from rfl, h]
  cases hzz : List.zipWith (fun a b => ad a (ml f b)) xc o.co with
  | nil => rw [hzz] at hz; simp at hz; omega
  | cons a z => rw [hzz] at hz; simp only [plV, plO, pls, hzz, hz]
theorem flic : ∀ l : List Int, flatDLL (l.map ic) = true
  | [] => by simp [flatDLL]
  | x :: l => by simp [flatDLL, flatDL, flatD, ic, flic l]
theorem fdl_c {e : List D} {es : List (List D)} : flatDLL (e :: es) = (flatDL e && flatDLL es) := by simp [flatDLL]
attribute [go_sem] flic fO_arr fdl_c
structure Stp where
  leaf : Bool
  goal : Int
  gn : Bool
  gv : List Int
  ln : Bool
  lw : List Int
  hn : Bool
  hg : List Int
  va : Int
  bo : Int
  k0 : Int
  k1 : Int
def enT (s : Stp) : List D := [.bool s.leaf, .int .i64 s.goal, slD s.gn 1 (s.gv.map ic), slD s.ln 1 (s.lw.map ic), slD s.hn 1 (s.hg.map ic), .int .i64 s.va, .int .i64 s.bo, .int .i64 s.k0, .int .i64 s.k1]
attribute [go_sem] enT
def ng (a : Int) : Int := wrp .i64 (0 - a)
def lft : Ln → List Ln → List Int → Ln
  | x, g :: gs, k :: ks => lft (pls (ng k) x g) gs ks
  | x, _, _ => x
theorem l99_0 {n : Nat} {gn : Bool} {gv : List Ln} {ks : List Int} {y : Stp} (hg : gv.length < 1000000000) (hco : ∀ g ∈ gv, g.co = []) (hy : y.gv = ks) : ∀ (r : List Ln) (q : List Int) (c : Int) (i : Nat), gv.drop i = r → ks.drop i = q → r.length ≤ q.length →
    outC ⟨0, false⟩ [0, 0, 1, 0, 0, 1, 0, 0, 0, 0, 0, 0] (rnd (aCode (level E (n+2)) ⟨0, false⟩ b99_0) (head ⟨0, false⟩ [0, 0, 1, 1, 0, 1, 0, 0, 1, 1, 1, 0])
      ⟨[.junk, .junk, .ptr 0 0, .ptr 1 0, .junk, .ptr 2 0, .junk, .junk, .imm (slD gn 2 (gv.map enL)), .imm (.int .i64 gv.length), .imm (.int .i64 i), .junk],
        [.box [.imm .nil, .imm (.int .i64 0)], .box ((enT y).map .imm), .box [.e0 1, .imm (.int .i64 c)]], none⟩) =
      some (.exit 0, ⟨[.junk, .junk, .ptr 0 0, .junk, .junk, .ptr 1 0, .junk, .junk, .junk, .junk, .junk, .junk], [.box [.imm .nil, .imm (.int .i64 0)], .box [.e0 1, .imm (.int .i64 (lft ⟨false, [], c⟩ r q).c)]], none⟩)
  | [], q, c, i, hr, hq, hl => by
    rw [rnd_eq]
    simp only [go_sem, Nat.reduceAdd, Nat.reduceSub, Nat.reduceMul, Nat.reduceDiv, Nat.reduceMod, Nat.reduceLeDiff, Nat.reduceBEq, Int.reduceToNat, Int.reduceLT, Int.reduceLE, Int.reduceEq, lt_f (drop_n hr), lft]
  | g :: r, [], c, i, hr, hq, hl => by simp at hl
  | g :: r, k :: q, c, i, hr, hq, hl => by
    obtain ⟨h1, h2, h3⟩ := drop_c hr
    obtain ⟨q1, q2, q3⟩ := drop_c hq
    have e0 := hco g (List.mem_of_getElem? h1)
    have IH := l99_0 (n := n) (gn := gn) (y := y) hg hco hy r q (ad c (ml (ng k) g.c)) (i + 1) h3 q3 (by simpa using hl)
    have h6 := wrpS (i := i) (by omega)
    rw [rnd_eq]
    subst hy
    have e1 : lft ⟨false, [], c⟩ (g :: r) (k :: q) = lft ⟨false, [], ad c (ml (ng k) g.c)⟩ r q := by simp [lft, pls, e0]
    rw [e1]
    simp only [go_sem, Nat.reduceAdd, Nat.reduceSub, Nat.reduceMul, Nat.reduceDiv, Nat.reduceMod, Nat.reduceLeDiff, Nat.reduceBEq, Int.reduceToNat, Int.reduceLT, Int.reduceLE, Int.reduceEq] at IH
    simp only [go_sem, Nat.reduceAdd, Nat.reduceSub, Nat.reduceMul, Nat.reduceDiv, Nat.reduceMod, Nat.reduceLeDiff, Nat.reduceBEq, Int.reduceToNat, Int.reduceLT, Int.reduceLE, Int.reduceEq, lt_t h2, h1, q1, e0, ok103_0, h6]
    exact IH
theorem l99_1 {n N : Nat} {gn : Bool} {gv : List Ln} {ks : List Int} {y : Stp} (h0 : 0 < N) (hN : N < 1000000000) (hg : gv.length < 1000000000) (hco : ∀ g ∈ gv, g.co.length = N) (hy : y.gv = ks) : ∀ (r : List Ln) (q : List Int) (x : List Int) (c : Int) (i : Nat), gv.drop i = r → ks.drop i = q → r.length ≤ q.length → x.length = N →
    outC ⟨0, false⟩ [0, 0, 1, 0, 0, 1, 0, 0, 0, 0, 0, 0] (rnd (aCode (level E (n+2)) ⟨0, false⟩ b99_0) (head ⟨0, false⟩ [0, 0, 1, 1, 0, 1, 0, 0, 1, 1, 1, 0])
      ⟨[.junk, .junk, .ptr 0 0, .ptr 1 0, .junk, .ptr 2 0, .junk, .junk, .imm (slD gn 2 (gv.map enL)), .imm (.int .i64 gv.length), .imm (.int .i64 i), .junk],
        [.box [.imm .nil, .imm (.int .i64 0)], .box ((enT y).map .imm), .box [.ref 3 1 0 N, .imm (.int .i64 c)], .arr 1 (x.map ic)], none⟩) =
      some (.exit 0, ⟨[.junk, .junk, .ptr 0 0, .junk, .junk, .ptr 1 0, .junk, .junk, .junk, .junk, .junk, .junk], [.box [.imm .nil, .imm (.int .i64 0)], .box [.ref 2 1 0 N, .imm (.int .i64 (lft ⟨false, x, c⟩ r q).c)], .arr 1 ((lft ⟨false, x, c⟩ r q).co.map ic)], none⟩)
  | [], q, x, c, i, hr, hq, hl, hx => by
    rw [rnd_eq]
    simp only [go_sem, Nat.reduceAdd, Nat.reduceSub, Nat.reduceMul, Nat.reduceDiv, Nat.reduceMod, Nat.reduceLeDiff, Nat.reduceBEq, Int.reduceToNat, Int.reduceLT, Int.reduceLE, Int.reduceEq, lt_f (drop_n hr), lft]
  | g :: r, [], x, c, i, hr, hq, hl, hx => by simp at hl
  | g :: r, k :: q, x, c, i, hr, hq, hl, hx => by
    obtain ⟨h1, h2, h3⟩ := drop_c hr
    obtain ⟨q1, q2, q3⟩ := drop_c hq
    have e0 := hco g (List.mem_of_getElem? h1)
    have h103 := ok103_1 n N x c g (ng k) hx e0 h0 hN
    have hz : (List.zipWith (fun a b => ad a (ml (ng k) b)) x g.co).length = N := by rw [List.length_zipWith, hx, e0]; simp
    have IH := l99_1 (n := n) (gn := gn) (y := y) h0 hN hg hco hy r q (List.zipWith (fun a b => ad a (ml (ng k) b)) x g.co) (ad c (ml (ng k) g.c)) (i + 1) h3 q3 (by simpa using hl) hz
    have h6 := wrpS (i := i) (by omega)
    have hx' : N ≤ x.length := by omega
    have hx2 : (x.map ic).take N = x.map ic := take_self (by simpa using hx)
    rw [rnd_eq]
    subst hy
    have e1 : lft ⟨false, x, c⟩ (g :: r) (k :: q) = lft ⟨false, List.zipWith (fun a b => ad a (ml (ng k) b)) x g.co, ad c (ml (ng k) g.c)⟩ r q := by simp [lft, pls]
    rw [e1]
    simp only [go_sem, Nat.reduceAdd, Nat.reduceSub, Nat.reduceMul, Nat.reduceDiv, Nat.reduceMod, Nat.reduceLeDiff, Nat.reduceBEq, Int.reduceToNat, Int.reduceLT, Int.reduceLE, Int.reduceEq, ng] at IH h103
    simp only [go_sem, Nat.reduceAdd, Nat.reduceSub, Nat.reduceMul, Nat.reduceDiv, Nat.reduceMod, Nat.reduceLeDiff, Nat.reduceBEq, Int.reduceToNat, Int.reduceLT, Int.reduceLE, Int.reduceEq, lt_t h2, h1, q1, hx', hx2, h103, h6]
    exact IH
theorem lft_len {N : Nat} : ∀ (gs : List Ln) (ks : List Int) (x : Ln), x.co.length = N → (∀ g ∈ gs, g.co.length = N) → (lft x gs ks).co.length = N
  | [], ks, x, hx, _ => by cases ks <;> simpa [lft] using hx
  | g :: gs, [], x, hx, _ => by simpa [lft] using hx
  | g :: gs, k :: ks, x, hx, hg => by
    simp only [lft]
    refine lft_len gs ks _ ?_ fun a ha => hg a (by simp [ha])
    simp only [pls, List.length_zipWith, hx, hg g (by simp)]; simp
theorem lft_nl : ∀ (gs : List Ln) (ks : List Int) (x : Ln), (lft x gs ks).nl = x.nl
  | [], ks, x => by cases ks <;> rfl
  | g :: gs, [], x => rfl
  | g :: gs, k :: ks, x => by simp only [lft]; rw [lft_nl gs ks]; rfl
def left (y : Stp) (c : Cl) : Ln := lft (pls y.goal ⟨false, List.replicate c.sp.length 0, 0⟩ c.go) c.gv y.gv
structure Cl.Even (c : Cl) : Prop where
  fit : c.Fit
  gv : ∀ g ∈ c.gv, g.co.length = c.sp.length
  go : c.go.co.length = c.sp.length
theorem run99 (n : Nat) (y : Stp) (c : Cl) (hc : c.Even) (hy : c.gv.length ≤ y.gv.length) :
    fin [.cell 2 true 2] (aCode (level E (n+3)) ⟨0, false⟩ c99 ⟨[.imm (.agg (enT y)), .imm (.agg (enC c)), .junk, .junk, .junk, .junk, .junk, .junk, .junk, .junk, .junk, .junk], [], none⟩) =
      (if c.sp.length = 0 then some (.agg [.e0 1, .imm (.int .i64 (left y c).c)], [.box [.e0 1, .imm (.int .i64 (left y c).c)], .box [.e0 1, .imm (.int .i64 (left y c).c)]], none)
       else some (.agg [.ref 2 1 0 c.sp.length, .imm (.int .i64 (left y c).c)], [.box [.ref 2 1 0 c.sp.length, .imm (.int .i64 (left y c).c)], .box [.ref 2 1 0 c.sp.length, .imm (.int .i64 (left y c).c)], .arr 1 ((left y c).co.map ic)], none)) := by
  obtain ⟨sn, sp, gn, gv, go⟩ := c
  obtain ⟨hf, hg, ho⟩ := hc
  simp only at hg ho hy
  by_cases h0 : sp.length = 0
  · have e1 : go.co = [] := by cases h : go.co <;> simp [h] at ho ⊢; omega
    have e2 : ∀ g ∈ gv, g.co = [] := fun g hgm => by have := hg g hgm; rw [h0] at this; exact List.eq_nil_of_length_eq_zero this
    have h102 := ok102 (n+2) 0 (by omega)
    have hl := l99_0 (n := n+1) (gn := gn) (gv := gv) (y := y) (by have := hf.gv; simp at this; omega) e2 rfl gv y.gv (ad 0 (ml y.goal go.c)) 0 rfl rfl hy
    have e3 : sp = [] := List.eq_nil_of_length_eq_zero h0
    subst e3
    have e4 : left y ⟨sn, [], gn, gv, go⟩ = lft ⟨false, [], ad 0 (ml y.goal go.c)⟩ gv y.gv := by simp [left, pls, e1]
    rw [e4]
    simp only [go_sem, Nat.reduceAdd, Nat.reduceSub, Nat.reduceMul, Nat.reduceDiv, Nat.reduceMod, Nat.reduceLeDiff, Nat.reduceBEq, Int.reduceToNat, Int.reduceLT, Int.reduceLE, Int.reduceEq, slD_f, List.replicate] at h102
    simp only [go_sem, Nat.reduceAdd, Nat.reduceSub, Nat.reduceMul, Nat.reduceDiv, Nat.reduceMod, Nat.reduceLeDiff, Nat.reduceBEq, Int.reduceToNat, Int.reduceLT, Int.reduceLE, Int.reduceEq] at hl
    simp only [go_sem, Nat.reduceAdd, Nat.reduceSub, Nat.reduceMul, Nat.reduceDiv, Nat.reduceMod, Nat.reduceLeDiff, Nat.reduceBEq, Int.reduceToNat, Int.reduceLT, Int.reduceLE, Int.reduceEq, h102, e1, ok103_0, hl]
  · obtain ⟨N, hN⟩ : ∃ N, N = sp.length := ⟨_, rfl⟩
    have hb := hf.sp
    simp only at hb
    have h102 := ok102 (n+2) N (by omega)
    have h103 := ok103_1 (n+1) N (List.replicate N 0) 0 go y.goal (by simp) (by rw [ho, hN]) (by omega) (by omega)
    have hz : (List.zipWith (fun a b => ad a (ml y.goal b)) (List.replicate N 0) go.co).length = N := by rw [List.length_zipWith, ho]; simp [hN]
    have hl := l99_1 (n := n+1) (N := N) (gn := gn) (gv := gv) (y := y) (by omega) (by omega) (by have := hf.gv; simp at this; omega) (fun g hgm => by rw [hg g hgm, hN]) rfl gv y.gv (List.zipWith (fun a b => ad a (ml y.goal b)) (List.replicate N 0) go.co) (ad 0 (ml y.goal go.c)) 0 rfl rfl hy hz
    have e4 : left y ⟨sn, sp, gn, gv, go⟩ = lft ⟨false, List.zipWith (fun a b => ad a (ml y.goal b)) (List.replicate N 0) go.co, ad 0 (ml y.goal go.c)⟩ gv y.gv := by simp [left, pls, hN]
    have hll : (lft ⟨false, List.zipWith (fun a b => ad a (ml y.goal b)) (List.replicate N 0) go.co, ad 0 (ml y.goal go.c)⟩ gv y.gv).co.length = N := lft_len gv y.gv _ hz fun g hgm => by rw [hg g hgm, hN]
    rw [e4]
    rw [← hN] at h0
    simp only [go_sem, Nat.reduceAdd, Nat.reduceSub, Nat.reduceMul, Nat.reduceDiv, Nat.reduceMod, Nat.reduceLeDiff, Nat.reduceBEq, Int.reduceToNat, Int.reduceLT, Int.reduceLE, Int.reduceEq, slD_f] at h102
    simp only [go_sem, Nat.reduceAdd, Nat.reduceSub, Nat.reduceMul, Nat.reduceDiv, Nat.reduceMod, Nat.reduceLeDiff, Nat.reduceBEq, Int.reduceToNat, Int.reduceLT, Int.reduceLE, Int.reduceEq] at hl h103
    simp only [go_sem, Nat.reduceAdd, Nat.reduceSub, Nat.reduceMul, Nat.reduceDiv, Nat.reduceMod, Nat.reduceLeDiff, Nat.reduceBEq, Int.reduceToNat, Int.reduceLT, Int.reduceLE, Int.reduceEq, ← hN, h102, h103, hl, h0]
theorem ok99P (n : Nat) (y : Stp) (c : Cl) (hc : c.Even) (hy : c.gv.length ≤ y.gv.length) : callP (level E (n+4)) 99 [.agg (enT y), .agg (enC c)] = some (.agg [slD false 1 ((left y c).co.map ic), .int .i64 (left y c).c]) := by
  rw [p99, run99 n y c hc hy]
  have hl : (left y c).co.length = c.sp.length := lft_len c.gv y.gv _ (by simp [pls, hc.go]) hc.gv
  by_cases h0 : c.sp.length = 0
  · have e : (left y c).co = [] := List.eq_nil_of_length_eq_zero (by omega)
    simp only [go_sem, Nat.reduceAdd, Nat.reduceSub, Nat.reduceMul, Nat.reduceDiv, Nat.reduceMod, Nat.reduceLeDiff, Nat.reduceBEq, Int.reduceToNat, Int.reduceLT, Int.reduceLE, Int.reduceEq, h0, e, slD_f]
  · rw [if_neg h0]
    have e : ((left y c).co.map ic).take c.sp.length = (left y c).co.map ic := take_self (by simpa using hl)
    have e2 : c.sp.length ≤ (left y c).co.length := by omega
    simp only [go_sem, Nat.reduceAdd, Nat.reduceSub, Nat.reduceMul, Nat.reduceDiv, Nat.reduceMod, Nat.reduceLeDiff, Nat.reduceBEq, Int.reduceToNat, Int.reduceLT, Int.reduceLE, Int.reduceEq, e, e2, slD_f]
theorem ok99I_0 (n : Nat) (y : Stp) (c : Cl) (hc : c.Even) (hy : c.gv.length ≤ y.gv.length) (h0 : c.sp.length = 0) : callI (level E (n+4)) 99 [.agg (enT y), .agg (enC c)] = some (.agg [.e0 1, .imm (.int .i64 (left y c).c)], []) := by
  rw [i99, run99 n y c hc hy, if_pos h0]
  simp only [go_sem, Nat.reduceAdd, Nat.reduceSub, Nat.reduceMul, Nat.reduceDiv, Nat.reduceMod, Nat.reduceLeDiff, Nat.reduceBEq, Int.reduceToNat, Int.reduceLT, Int.reduceLE, Int.reduceEq]
theorem ok99I_1 (n : Nat) (y : Stp) (c : Cl) (hc : c.Even) (hy : c.gv.length ≤ y.gv.length) (h0 : ¬ c.sp.length = 0) : callI (level E (n+4)) 99 [.agg (enT y), .agg (enC c)] = some (.agg [.ref 0 1 0 c.sp.length, .imm (.int .i64 (left y c).c)], [.arr 1 ((left y c).co.map ic)]) := by
  rw [i99, run99 n y c hc hy, if_neg h0]
  simp only [go_sem, Nat.reduceAdd, Nat.reduceSub, Nat.reduceMul, Nat.reduceDiv, Nat.reduceMod, Nat.reduceLeDiff, Nat.reduceBEq, Int.reduceToNat, Int.reduceLT, Int.reduceLE, Int.reduceEq]
end Go.Vm.P12

/- Chapter 12, functions: whether a leaf proves a claim. -/
set_option maxRecDepth 100000
namespace Go.Vm.P12
open Go Go.Vm
def prX : List Int → List Int → List Int → List Int
  | x :: xs, l :: ls, h :: hs => ad x (sb h l) :: prX xs ls hs
  | _, _, _ => []
def prC : Int → List Int → List Int → List Sp → Int
  | c, l :: ls, h :: hs, s :: ss => prC (ad c (sb (ml l s.lo) (ml h s.hi))) ls hs ss
  | c, _, _, _ => c
theorem l83 {n N : Nat} {sn : Bool} {sp : List Sp} {y : Stp} (hN : sp.length = N) (hb : N < 1000000000) : ∀ (r : List Sp) (x lw hg A : List Int) (c : Int) (i : Nat), A.length = i → sp.drop i = r → x.length = r.length → y.lw.drop i = lw → y.hg.drop i = hg → lw.length = r.length → hg.length = r.length →
    outC ⟨0, false⟩ [0, 0, 0, 1, 0, 1, 0, 0, 0, 0, 0, 0] (rnd (aCode (level E n) ⟨0, false⟩ b83_0) (head ⟨0, false⟩ [0, 0, 0, 1, 0, 1, 0, 0, 1, 1, 1, 0])
      ⟨[.junk, .junk, .junk, .ptr 0 0, .junk, .ptr 1 0, .junk, .junk, .imm (slD sn 2 (sp.map enS)), .imm (.int .i64 N), .imm (.int .i64 i), .junk],
        [.box ((enT y).map .imm), .box [.ref 2 1 0 N, .imm (.int .i64 c)], .arr 1 (A.map ic ++ x.map ic)], none⟩) =
      some (.exit 0, ⟨[.junk, .junk, .junk, .ptr 0 0, .junk, .ptr 1 0, .junk, .junk, .junk, .junk, .junk, .junk], [.box ((enT y).map .imm), .box [.ref 2 1 0 N, .imm (.int .i64 (prC c lw hg r))], .arr 1 (A.map ic ++ (prX x lw hg).map ic)], none⟩)
  | [], x, lw, hg, A, c, i, hA, hs, hx, hlw, hhg, el, eh => by
    have : x = [] := List.eq_nil_of_length_eq_zero (by simpa using hx)
    subst this
    have e1 : lw = [] := List.eq_nil_of_length_eq_zero (by simpa using el)
    have hd := drop_n hs
    rw [rnd_eq]
    subst e1
    simp only [go_sem, Nat.reduceAdd, Nat.reduceSub, Nat.reduceMul, Nat.reduceDiv, Nat.reduceMod, Nat.reduceLeDiff, Nat.reduceBEq, Int.reduceToNat, Int.reduceLT, Int.reduceLE, Int.reduceEq, lt_f (show N ≤ i by omega), prC, prX]
  | s :: r, x, lw, hg, A, c, i, hA, hs, hx, hlw, hhg, el, eh => by
    obtain ⟨h1, h2, h3⟩ := drop_c hs
    have h6 := wrpS (i := i) (by omega)
    have hlt : i < N := by omega
    have hlt' : (i : Int) < (N : Int) := by omega
    have hA' : (A.map ic).length = i := by simpa using hA
    match x, lw, hg, hx, el, eh, hlw, hhg with
    | x0 :: x, l0 :: lw, g0 :: hg, hx, el, eh, hlw, hhg =>
      obtain ⟨l1, l2, l3⟩ := drop_c hlw
      obtain ⟨g1, g2, g3⟩ := drop_c hhg
      have IH := l83 (n := n) (sn := sn) (y := y) hN hb r x lw hg (A ++ [ad x0 (sb g0 l0)]) (ad c (sb (ml l0 s.lo) (ml g0 s.hi))) (i + 1) (by simp [hA]) h3 (by simpa using hx) l3 g3 (by simpa using el) (by simpa using eh)
      rw [rnd_eq]
      simp only [go_sem, Nat.reduceAdd, Nat.reduceSub, Nat.reduceMul, Nat.reduceDiv, Nat.reduceMod, Nat.reduceLeDiff, Nat.reduceBEq, Int.reduceToNat, Int.reduceLT, Int.reduceLE, Int.reduceEq, List.append_assoc, ad, sb, ml] at IH
      simp only [go_sem, Nat.reduceAdd, Nat.reduceSub, Nat.reduceMul, Nat.reduceDiv, Nat.reduceMod, Nat.reduceLeDiff, Nat.reduceBEq, Int.reduceToNat, Int.reduceLT, Int.reduceLE, Int.reduceEq, lt_t hlt, h1, l1, g1, hlt', Int.natCast_nonneg, Nat.mul_one, Nat.div_one, Nat.mod_one, getA hA', setA hA', h6, prC, prX, ad, sb, ml]
      exact IH
theorem prX_len : ∀ (x l h : List Int), x.length = l.length → x.length = h.length → (prX x l h).length = x.length
  | [], l, h, _, _ => by simp [prX]
  | x :: xs, l :: ls, h :: hs, e1, e2 => by simp [prX, prX_len xs ls hs (by simpa using e1) (by simpa using e2)]
  | x :: xs, [], h, e1, _ => by simp at e1
  | x :: xs, l :: ls, [], _, e2 => by simp at e2
def prv (y : Stp) (c : Cl) : Bool :=
  !(prX (left y c).co y.lw y.hg).any (fun n => decide (n ≠ 0)) && decide (ng y.goal < prC (left y c).c y.lw y.hg c.sp)
theorem ok83 (n : Nat) (y : Stp) (c : Cl) (hc : c.Even) (hy : c.gv.length ≤ y.gv.length) (hl : y.lw.length = c.sp.length) (hh : y.hg.length = c.sp.length) : callP (level E (n+5)) 83 [.agg (enT y), .agg (enC c)] = some (.bool (prv y c)) := by
  have hb := hc.fit.sp
  have hll : (left y c).co.length = c.sp.length := lft_len c.gv y.gv _ (by simp [pls, hc.go]) hc.gv
  rw [p83]
  by_cases h0 : c.sp.length = 0
  · have h99 := ok99I_0 n y c hc hy h0
    have e1 : y.lw = [] := List.eq_nil_of_length_eq_zero (by omega)
    have e2 : (left y c).co = [] := List.eq_nil_of_length_eq_zero (by omega)
    have e3 : c.sp = [] := List.eq_nil_of_length_eq_zero h0
    have h67 := ok67 (n+2) false [] 100 [] _ (fun x _ => ok100 (n+1) x) (by simp)
    simp only [go_sem, Nat.reduceAdd, Nat.reduceSub, Nat.reduceMul, Nat.reduceDiv, Nat.reduceMod, Nat.reduceLeDiff, Nat.reduceBEq, Int.reduceToNat, Int.reduceLT, Int.reduceLE, Int.reduceEq, slD_f] at h67
    simp only [go_sem, Nat.reduceAdd, Nat.reduceSub, Nat.reduceMul, Nat.reduceDiv, Nat.reduceMod, Nat.reduceLeDiff, Nat.reduceBEq, Int.reduceToNat, Int.reduceLT, Int.reduceLE, Int.reduceEq, e1, e3] at h99
    simp only [go_sem, Nat.reduceAdd, Nat.reduceSub, Nat.reduceMul, Nat.reduceDiv, Nat.reduceMod, Nat.reduceLeDiff, Nat.reduceBEq, Int.reduceToNat, Int.reduceLT, Int.reduceLE, Int.reduceEq, h99, e3, rnd_eq, Int.lt_irrefl, h67, List.any_nil, prv, e1, e2, prX, prC, ng]
  · obtain ⟨N, hN⟩ : ∃ N, N = c.sp.length := ⟨_, rfl⟩
    have h99 := ok99I_1 n y c hc hy h0
    have hz : (prX (left y c).co y.lw y.hg).length = N := by rw [prX_len _ _ _ (by omega) (by omega)]; omega
    have h67 := ok67 (n+2) false (prX (left y c).co y.lw y.hg) 100 [] _ (fun x _ => ok100 (n+1) x) (by omega)
    have hlp := l83 (n := n+4) (N := N) (sn := c.sn) (y := y) hN.symm (by omega) c.sp (left y c).co y.lw y.hg [] (left y c).c 0 rfl rfl hll rfl rfl hl hh
    have e : ((prX (left y c).co y.lw y.hg).map ic).take N = (prX (left y c).co y.lw y.hg).map ic := take_self (by simpa using hz)
    have e2 : N ≤ (prX (left y c).co y.lw y.hg).length := by omega
    rw [← hN] at h99
    simp only [go_sem, Nat.reduceAdd, Nat.reduceSub, Nat.reduceMul, Nat.reduceDiv, Nat.reduceMod, Nat.reduceLeDiff, Nat.reduceBEq, Int.reduceToNat, Int.reduceLT, Int.reduceLE, Int.reduceEq, slD_f] at h67 h99 hlp
    simp only [go_sem, Nat.reduceAdd, Nat.reduceSub, Nat.reduceMul, Nat.reduceDiv, Nat.reduceMod, Nat.reduceLeDiff, Nat.reduceBEq, Int.reduceToNat, Int.reduceLT, Int.reduceLE, Int.reduceEq, ← hN, h99, hlp, h67, e, e2, prv]
    cases h9 : (prX (left y c).co y.lw y.hg).any (fun n => decide (n ≠ 0))
    · simp only [go_sem, Nat.reduceAdd, Nat.reduceSub, Nat.reduceMul, Nat.reduceDiv, Nat.reduceMod, Nat.reduceLeDiff, Nat.reduceBEq, Int.reduceToNat, Int.reduceLT, Int.reduceLE, Int.reduceEq, h9, ng]; rfl
    · simp only [go_sem, Nat.reduceAdd, Nat.reduceSub, Nat.reduceMul, Nat.reduceDiv, Nat.reduceMod, Nat.reduceLeDiff, Nat.reduceBEq, Int.reduceToNat, Int.reduceLT, Int.reduceLE, Int.reduceEq, h9, ng]
end Go.Vm.P12

/- Chapter 12, functions: the leaves that are tried. -/
set_option maxRecDepth 100000
namespace Go.Vm.P12
open Go Go.Vm
def leafOf (c : Cl) (goal : Int) (g : List Int) : Stp :=
  let l := left ⟨true, goal, false, g, true, [], true, [], 0, 0, 0, 0⟩ c
  ⟨true, goal, false, g, true, l.co.map (fun n => max n 0), true, l.co.map (fun n => max (ng n) 0), 0, 0, 0, 0⟩
theorem left_gv (y z : Stp) (c : Cl) (h1 : y.goal = z.goal) (h2 : y.gv = z.gv) : left y c = left z c := by simp [left, h1, h2]
theorem ok122 (n : Nat) (c : Cl) (hc : c.Even) (goal : Int) (ln m : Int) (g : List Int) (hg : (ln = -1 ∧ g = List.replicate c.gv.length 0) ∨ ∃ k : Nat, ln = k ∧ k < c.gv.length ∧ g = (List.replicate c.gv.length 0).set k m) :
    callP (level E (n+5)) 122 [.agg (enC c), .int .i64 goal, .int .i64 ln, .int .i64 m] = some (.agg (enT (leafOf c goal g))) := by
  obtain ⟨N, hN⟩ : ∃ N, N = c.gv.length := ⟨_, rfl⟩
  have hb : N < 1000000000 := by have := hc.fit.gv; omega
  have hgl : g.length = N := by
    rcases hg with ⟨_, h⟩ | ⟨k, _, _, h⟩
    · rw [h]; simp [hN]
    · rw [h]; simp [hN]
  have h99 := ok99P n ⟨true, goal, false, g, true, [], true, [], 0, 0, 0, 0⟩ c hc (by simp only; omega)
  have hll : (left ⟨true, goal, false, g, true, [], true, [], 0, 0, 0, 0⟩ c).co.length = c.sp.length := lft_len c.gv _ _ (by simp [pls, hc.go]) hc.gv
  have hsp := hc.fit.sp
  have h1 := ok123 (n+3) false (left ⟨true, goal, false, g, true, [], true, [], 0, 0, 0, 0⟩ c).co 124 [] _ (fun x _ => ok124 (n+2) x) (by omega)
  have h2 := ok123 (n+3) false (left ⟨true, goal, false, g, true, [], true, [], 0, 0, 0, 0⟩ c).co 125 [] _ (fun x _ => ok125 (n+2) x) (by omega)
  have b1 : ((8 : Nat) : Int) * (N : Int) ≤ 70368744177664 := by omega
  have b2 : (N : Int) ≤ 70368744177664 := by omega
  have e1 : (g.map ic).take N = g.map ic := take_self (by simpa using hgl)
  have e2 : N ≤ g.length := by omega
  rw [p122]
  generalize hl : left ⟨true, goal, false, g, true, [], true, [], 0, 0, 0, 0⟩ c = l at h99 h1 h2 hll
  have hleaf : leafOf c goal g = ⟨true, goal, false, g, true, l.co.map (fun n => max n 0), true, l.co.map (fun n => max (ng n) 0), 0, 0, 0, 0⟩ := by simp [leafOf, hl]
  rw [hleaf]
  rcases hg with ⟨rfl, hg⟩ | ⟨k, rfl, hk, hg⟩
  · have n1 : ¬ (0 : Int) ≤ -1 := by decide
    simp only [go_sem, Nat.reduceAdd, Nat.reduceSub, Nat.reduceMul, Nat.reduceDiv, Nat.reduceMod, Nat.reduceLeDiff, Nat.reduceBEq, Int.reduceToNat, Int.reduceLT, Int.reduceLE, Int.reduceEq, slD_f, slD_nil] at h99 h1 h2
    rw [← hN] at hg
    have e0 : List.replicate N [D.int .i64 0] = g.map ic := by rw [hg, repic]
    simp only [go_sem, Nat.reduceAdd, Nat.reduceSub, Nat.reduceMul, Nat.reduceDiv, Nat.reduceMod, Nat.reduceLeDiff, Nat.reduceBEq, Int.reduceToNat, Int.reduceLT, Int.reduceLE, Int.reduceEq, ← hN, b1, b2, Int.natCast_nonneg, e0, n1, e1, e2, slD_f, slD_nil, h99, h1, h2]
    rfl
  · have n1 : (0 : Int) ≤ (k : Int) := Int.natCast_nonneg k
    have n2 : (k : Int) < (N : Int) := by omega
    simp only [go_sem, Nat.reduceAdd, Nat.reduceSub, Nat.reduceMul, Nat.reduceDiv, Nat.reduceMod, Nat.reduceLeDiff, Nat.reduceBEq, Int.reduceToNat, Int.reduceLT, Int.reduceLE, Int.reduceEq, slD_f, slD_nil] at h99 h1 h2
    rw [← hN] at hg
    have e3 : (List.replicate N [D.int .i64 0])[k]? = some [.int .i64 0] := by rw [List.getElem?_replicate, if_pos (by omega)]
    have e4 : (List.replicate N [D.int .i64 0]).set k [.int .i64 m] = g.map ic := by rw [hg, repic, List.map_set]; rfl
    simp only [go_sem, Nat.reduceAdd, Nat.reduceSub, Nat.reduceMul, Nat.reduceDiv, Nat.reduceMod, Nat.reduceLeDiff, Nat.reduceBEq, Int.reduceToNat, Int.reduceLT, Int.reduceLE, Int.reduceEq, ← hN, b1, b2, Int.natCast_nonneg, n1, n2, Nat.mul_one, Nat.div_one, Nat.mod_one, e3, e4, e1, e2, slD_f, slD_nil, h99, h1, h2]
    rfl
end Go.Vm.P12

/- Chapter 12, functions: the search for a direct leaf. -/
set_option maxRecDepth 100000
namespace Go.Vm.P12
open Go Go.Vm
structure Rd (lo : Lower) (Q p : Stp → Bool) (e1 : Ext) (eF : Stp → Ext) (I : Ext → Prop) : Prop where
  h1 : I e1
  hr : ∀ e s, I e → Q s = true → lo.round e [.agg (enT s)] = some (if p s then (eF s, false) else (e1, true))
def aft (p : Stp → Bool) (e1 : Ext) (e : Ext) (l : List Stp) : Ext := if l.isEmpty then e else e1
theorem aft_same {p : Stp → Bool} {e : Ext} {l : List Stp} : aft p e e l = e := by simp [aft]
theorem aft_cons {p : Stp → Bool} {e1 e : Ext} {x : Stp} {l : List Stp} : aft p e1 e (x :: l) = e1 := rfl
theorem aft_nil {p : Stp → Bool} {e1 e : Ext} : aft p e1 e [] = e := rfl
theorem aft_app {p : Stp → Bool} {e1 e : Ext} {l r : List Stp} : aft p e1 (aft p e1 e l) r = aft p e1 e (l ++ r) := by
  cases l <;> cases r <;> rfl
def lf (c : Cl) (goal : Int) (i : Nat) (m : Int) : Stp := leafOf c goal ((List.replicate c.gv.length 0).set i m)
def lf0 (c : Cl) (goal : Int) : Stp := leafOf c goal (List.replicate c.gv.length 0)
def lfs (c : Cl) (goal : Int) (i : Nat) (m : Nat) : Nat → List Stp
  | 0 => []
  | k + 1 => lf c goal i (m + 1 : Nat) :: lfs c goal i (m + 1) k
theorem l98_0 {n : Nat} {c : Cl} (hc : c.Even) {goal : Int} {M : Nat} {Q p : Stp → Bool} {e1 : Ext} {eF : Stp → Ext} {I : Ext → Prop} (R : Rd (level E (n+6)) Q p e1 eF I) (hQ : ∀ i m, i < c.gv.length → Q (lf c goal i m) = true) (hM : M < 1000000000) {i N : Nat} (hN : N = c.gv.length) (hi : i < N) {v5 : D} {k : Int} : ∀ (r : Nat) (m : Nat) (e : Ext), m + r = M → I e →
    outC ⟨0, false⟩ [1, 1, 1, 0, 0, 1, 1, 0, 0, 1, 1, 0, 0, 0, 0, 0] (rnd (aCode (level E (n+6)) ⟨0, false⟩ b98_0) (head ⟨0, false⟩ [1, 1, 1, 1, 0, 1, 1, 0, 0, 1, 1, 0, 1, 1, 0, 0])
      ⟨[.yield, .imm (.ptr (enC c)), .ptr 0 0, .imm (.int .i64 i), .junk, .imm v5, .imm (.int .i64 k), .junk, .junk, .imm (.int .i64 N), .imm (.int .i64 i), .junk, .imm (.int .i64 M), .imm (.int .i64 m), .junk, .junk],
        [.box [.imm (.int .i64 goal), .imm (.int .i64 M), .imm (.fn 122 [] [])]], some e⟩) =
      some (match (lfs c goal i m r).find? p with
        | some s => (.ret, ⟨[.yield, .imm (.ptr (enC c)), .ptr 0 0, .junk, .junk, .imm v5, .imm (.int .i64 k), .junk, .junk, .imm (.int .i64 N), .imm (.int .i64 i), .junk, .junk, .junk, .junk, .junk], [.box [.imm (.int .i64 goal), .imm (.int .i64 M), .imm (.fn 122 [] [])]], some (eF s)⟩)
        | none => (.exit 4, ⟨[.yield, .imm (.ptr (enC c)), .ptr 0 0, .junk, .junk, .imm v5, .imm (.int .i64 k), .junk, .junk, .imm (.int .i64 N), .imm (.int .i64 i), .junk, .junk, .junk, .junk, .junk], [.box [.imm (.int .i64 goal), .imm (.int .i64 M), .imm (.fn 122 [] [])]], some (aft p e1 e (lfs c goal i m r))⟩))
  | 0, m, e, hm, he => by
    rw [rnd_eq]
    simp only [go_sem, Nat.reduceAdd, Nat.reduceSub, Nat.reduceMul, Nat.reduceDiv, Nat.reduceMod, Nat.reduceLeDiff, Nat.reduceBEq, Int.reduceToNat, Int.reduceLT, Int.reduceLE, Int.reduceEq, lt_f (show M ≤ m by omega), lfs, List.find?_nil, aft]
  | r + 1, m, e, hm, he => by
    have h6 := wrpS (i := m) (by omega)
    have h122 := ok122 (n+1) c hc goal i (m + 1 : Nat) ((List.replicate c.gv.length 0).set i (m + 1 : Nat)) (.inr ⟨i, rfl, by omega, rfl⟩)
    have hr := R.hr e (lf c goal i (m + 1 : Nat)) he (hQ i _ (by omega))
    have IH := l98_0 (n := n) hc R hQ hM hN hi (v5 := v5) (k := k) r (m + 1) e1 (by omega) R.h1
    rw [← lf] at h122
    rw [rnd_eq]
    cases hp : p (lf c goal i (m + 1 : Nat))
    · rw [hp, if_neg (by simp)] at hr
      simp only [go_sem, Nat.reduceAdd, Nat.reduceSub, Nat.reduceMul, Nat.reduceDiv, Nat.reduceMod, Nat.reduceLeDiff, Nat.reduceBEq, Int.reduceToNat, Int.reduceLT, Int.reduceLE, Int.reduceEq] at h122 hr IH
      simp only [go_sem, Nat.reduceAdd, Nat.reduceSub, Nat.reduceMul, Nat.reduceDiv, Nat.reduceMod, Nat.reduceLeDiff, Nat.reduceBEq, Int.reduceToNat, Int.reduceLT, Int.reduceLE, Int.reduceEq, lt_t (show m < M by omega), h6, h122, hr]
      simp only [lfs, List.find?_cons, hp, aft_cons]
      simp only [aft_same] at IH
      exact IH
    · rw [hp, if_pos rfl] at hr
      simp only [go_sem, Nat.reduceAdd, Nat.reduceSub, Nat.reduceMul, Nat.reduceDiv, Nat.reduceMod, Nat.reduceLeDiff, Nat.reduceBEq, Int.reduceToNat, Int.reduceLT, Int.reduceLE, Int.reduceEq] at h122 hr
      simp only [go_sem, Nat.reduceAdd, Nat.reduceSub, Nat.reduceMul, Nat.reduceDiv, Nat.reduceMod, Nat.reduceLeDiff, Nat.reduceBEq, Int.reduceToNat, Int.reduceLT, Int.reduceLE, Int.reduceEq, lt_t (show m < M by omega), h6, h122, hr]
      simp only [lfs, List.find?_cons, hp]
theorem I_aft {lo : Lower} {Q p : Stp → Bool} {e1 e : Ext} {eF : Stp → Ext} {I : Ext → Prop} (R : Rd lo Q p e1 eF I) (he : I e) (l : List Stp) : I (aft p e1 e l) := by
  unfold aft; split
  · exact he
  · exact R.h1
def lfg (c : Cl) (goal : Int) (M : Nat) (i : Nat) : Nat → List Stp
  | 0 => []
  | r + 1 => lfs c goal i 0 M ++ lfg c goal M (i + 1) r
theorem find_app {α : Type} {p : α → Bool} {l r : List α} : (l ++ r).find? p = match l.find? p with | some x => some x | none => r.find? p := by
  rw [List.find?_append]; cases l.find? p <;> rfl
theorem l98_1 {n : Nat} {c : Cl} (hc : c.Even) {goal : Int} {M : Nat} {Q p : Stp → Bool} {e1 : Ext} {eF : Stp → Ext} {I : Ext → Prop} (R : Rd (level E (n+6)) Q p e1 eF I) (hQ : ∀ i m, i < c.gv.length → Q (lf c goal i m) = true) (hM : M < 1000000000) {N : Nat} (hN : N = c.gv.length) {v5 : D} {k : Int} : ∀ (r : Nat) (i : Nat) (e : Ext), i + r = N → I e →
    outC ⟨0, false⟩ [1, 1, 0, 0, 0, 1, 1, 0, 0, 0, 0, 0, 0, 0, 0, 0] (rnd (aCode (level E (n+6)) ⟨0, false⟩ b98_1) (head ⟨0, false⟩ [1, 1, 1, 0, 0, 1, 1, 0, 0, 1, 1, 0, 0, 0, 0, 0])
      ⟨[.yield, .imm (.ptr (enC c)), .ptr 0 0, .junk, .junk, .imm v5, .imm (.int .i64 k), .junk, .junk, .imm (.int .i64 N), .imm (.int .i64 i), .junk, .junk, .junk, .junk, .junk],
        [.box [.imm (.int .i64 goal), .imm (.int .i64 M), .imm (.fn 122 [] [])]], some e⟩) =
      some (match (lfg c goal M i r).find? p with
        | some s => (.ret, ⟨[.yield, .imm (.ptr (enC c)), .junk, .junk, .junk, .imm v5, .imm (.int .i64 k), .junk, .junk, .junk, .junk, .junk, .junk, .junk, .junk, .junk], [], some (eF s)⟩)
        | none => (.exit 2, ⟨[.yield, .imm (.ptr (enC c)), .junk, .junk, .junk, .imm v5, .imm (.int .i64 k), .junk, .junk, .junk, .junk, .junk, .junk, .junk, .junk, .junk], [], some (aft p e1 e (lfg c goal M i r))⟩))
  | 0, i, e, hi, he => by
    rw [rnd_eq]
    simp only [go_sem, Nat.reduceAdd, Nat.reduceSub, Nat.reduceMul, Nat.reduceDiv, Nat.reduceMod, Nat.reduceLeDiff, Nat.reduceBEq, Int.reduceToNat, Int.reduceLT, Int.reduceLE, Int.reduceEq, lt_f (show N ≤ i by omega), lfg, List.find?_nil, aft_nil]
  | r + 1, i, e, hi, he => by
    have h6 := wrpS (i := i) (by have := hc.fit.gv; omega)
    have hl := l98_0 (n := n) hc R hQ hM hN (show i < N by omega) (v5 := v5) (k := k) M 0 e (by omega) he
    have IH := l98_1 (n := n) hc R hQ hM hN (v5 := v5) (k := k) r (i + 1) (aft p e1 e (lfs c goal i 0 M)) (by omega) (I_aft R he _)
    rw [cast0] at hl
    rw [rnd_eq]
    simp only [go_sem, Nat.reduceAdd, Nat.reduceSub, Nat.reduceMul, Nat.reduceDiv, Nat.reduceMod, Nat.reduceLeDiff, Nat.reduceBEq, Int.reduceToNat, Int.reduceLT, Int.reduceLE, Int.reduceEq] at hl IH
    simp only [go_sem, Nat.reduceAdd, Nat.reduceSub, Nat.reduceMul, Nat.reduceDiv, Nat.reduceMod, Nat.reduceLeDiff, Nat.reduceBEq, Int.reduceToNat, Int.reduceLT, Int.reduceLE, Int.reduceEq, lt_t (show i < N by omega), hl, lfg, find_app]
    cases hf : (lfs c goal i 0 M).find? p
    · simp only [go_sem, Nat.reduceAdd, Nat.reduceSub, Nat.reduceMul, Nat.reduceDiv, Nat.reduceMod, Nat.reduceLeDiff, Nat.reduceBEq, Int.reduceToNat, Int.reduceLT, Int.reduceLE, Int.reduceEq, h6]
      rw [aft_app] at IH
      exact IH
    · simp only [go_sem, Nat.reduceAdd, Nat.reduceSub, Nat.reduceMul, Nat.reduceDiv, Nat.reduceMod, Nat.reduceLeDiff, Nat.reduceBEq, Int.reduceToNat, Int.reduceLT, Int.reduceLE, Int.reduceEq]
def leaves (c : Cl) : List Stp := lfg c 0 1 0 c.gv.length ++ (lf0 c 1 :: lfg c 1 4 0 c.gv.length)
theorem l98_2 {n : Nat} {c : Cl} (hc : c.Even) {Q p : Stp → Bool} {e1 : Ext} {eF : Stp → Ext} {I : Ext → Prop} (R : Rd (level E (n+6)) Q p e1 eF I) (hQ : ∀ g i m, i < c.gv.length → Q (lf c g i m) = true) (hQ0 : Q (lf0 c 1) = true) (e : Ext) (he : I e) :
    aCode (level E (n+6)) ⟨0, false⟩ c98 ⟨[.yield, .imm (.ptr (enC c)), .junk, .junk, .junk, .junk, .junk, .junk, .junk, .junk, .junk, .junk, .junk, .junk, .junk, .junk], [], some e⟩ =
      some (match (leaves c).find? p with
        | some s => (.ret, ⟨[.junk, .junk, .junk, .junk, .junk, .junk, .junk, .junk, .junk, .junk, .junk, .junk, .junk, .junk, .junk, .junk], [], some (eF s)⟩)
        | none => (.normal, ⟨[.junk, .junk, .junk, .junk, .junk, .junk, .junk, .junk, .junk, .junk, .junk, .junk, .junk, .junk, .junk, .junk], [], some e1⟩)) := by
  have hg := hc.fit.gv
  obtain ⟨N, hN⟩ : ∃ N, N = c.gv.length := ⟨_, rfl⟩
  obtain ⟨v5, hv5⟩ : ∃ v5 : D, v5 = .agg [.int .i64 0, .int .i64 1, .fn 122 [] [], .int .i64 1, .int .i64 0, .fn 122 [] [], .int .i64 1, .int .i64 4, .fn 122 [] []] := ⟨_, rfl⟩
  have h1 := l98_1 (n := n) hc (goal := 0) (M := 1) R (hQ 0) (by omega) hN (v5 := v5) (k := 0) N 0 e (by omega) he
  have i1 := I_aft R he (lfg c 0 1 0 N)
  have h0 := ok122 (n+1) c hc 1 (-1) 0 _ (.inl ⟨rfl, rfl⟩)
  rw [← lf0] at h0
  have hr := R.hr _ (lf0 c 1) i1 hQ0
  have h2 := l98_1 (n := n) hc (goal := 1) (M := 0) R (hQ 1) (by omega) hN (v5 := v5) (k := 1) N 0 e1 (by omega) R.h1
  have h3 := l98_1 (n := n) hc (goal := 1) (M := 4) R (hQ 1) (by omega) hN (v5 := v5) (k := 2) N 0 e1 (by omega) R.h1
  have e2 : ∀ (r i : Nat), lfg c 1 0 i r = [] := fun r => by induction r with | zero => intro i; rfl | succ r ih => intro i; simp [lfg, lfs, ih]
  rw [e2] at h2
  rw [cast0] at h1 h2 h3
  simp only [List.find?_nil, aft_same] at h2 h3
  simp only [go_sem, Nat.reduceAdd, Nat.reduceSub, Nat.reduceMul, Nat.reduceDiv, Nat.reduceMod, Nat.reduceLeDiff, Nat.reduceBEq, Int.reduceToNat, Int.reduceLT, Int.reduceLE, Int.reduceEq, hv5, show ((1 : Nat) : Int) = 1 from rfl, show ((4 : Nat) : Int) = 4 from rfl] at h0 h1 h2 h3
  have u := rnd_eq (aCode (level E (n+6)) ⟨0, false⟩ b98_2)
  have j0 : decide ((0 : Int) < ((3 : Nat) : Int)) = true := by decide
  have j1 : decide ((1 : Int) < ((3 : Nat) : Int)) = true := by decide
  have j2 : decide ((2 : Int) < ((3 : Nat) : Int)) = true := by decide
  have lv : leaves c = lfg c 0 1 0 N ++ (lf0 c 1 :: lfg c 1 4 0 N) := by rw [leaves, hN]
  rw [lv]
  simp only [go_sem, Nat.reduceAdd, Nat.reduceSub, Nat.reduceMul, Nat.reduceDiv, Nat.reduceMod, Nat.reduceLeDiff, Nat.reduceBEq, Int.reduceToNat, Int.reduceLT, Int.reduceLE, Int.reduceEq, u, ← hN, j0, h0, h1, find_app]
  cases hf : (lfg c 0 1 0 N).find? p with
  | some s => simp only [go_sem, Nat.reduceAdd, Nat.reduceSub, Nat.reduceMul, Nat.reduceDiv, Nat.reduceMod, Nat.reduceLeDiff, Nat.reduceBEq, Int.reduceToNat, Int.reduceLT, Int.reduceLE, Int.reduceEq]
  | none =>
    simp only [go_sem, Nat.reduceAdd, Nat.reduceSub, Nat.reduceMul, Nat.reduceDiv, Nat.reduceMod, Nat.reduceLeDiff, Nat.reduceBEq, Int.reduceToNat, Int.reduceLT, Int.reduceLE, Int.reduceEq, u, ← hN, j1, h0, List.find?_cons]
    cases hp : p (lf0 c 1)
    · rw [hp, if_neg (by simp)] at hr
      simp only [go_sem, Nat.reduceAdd, Nat.reduceSub, Nat.reduceMul, Nat.reduceDiv, Nat.reduceMod, Nat.reduceLeDiff, Nat.reduceBEq, Int.reduceToNat, Int.reduceLT, Int.reduceLE, Int.reduceEq] at hr
      simp only [go_sem, Nat.reduceAdd, Nat.reduceSub, Nat.reduceMul, Nat.reduceDiv, Nat.reduceMod, Nat.reduceLeDiff, Nat.reduceBEq, Int.reduceToNat, Int.reduceLT, Int.reduceLE, Int.reduceEq, u, ← hN, hr, h2, j2, h3]
      cases hf2 : (lfg c 1 4 0 N).find? p with
      | some s => simp only [go_sem, Nat.reduceAdd, Nat.reduceSub, Nat.reduceMul, Nat.reduceDiv, Nat.reduceMod, Nat.reduceLeDiff, Nat.reduceBEq, Int.reduceToNat, Int.reduceLT, Int.reduceLE, Int.reduceEq]
      | none => simp only [go_sem, Nat.reduceAdd, Nat.reduceSub, Nat.reduceMul, Nat.reduceDiv, Nat.reduceMod, Nat.reduceLeDiff, Nat.reduceBEq, Int.reduceToNat, Int.reduceLT, Int.reduceLE, Int.reduceEq, u]
    · rw [hp, if_pos rfl] at hr
      simp only [go_sem, Nat.reduceAdd, Nat.reduceSub, Nat.reduceMul, Nat.reduceDiv, Nat.reduceMod, Nat.reduceLeDiff, Nat.reduceBEq, Int.reduceToNat, Int.reduceLT, Int.reduceLE, Int.reduceEq] at hr
      simp only [go_sem, Nat.reduceAdd, Nat.reduceSub, Nat.reduceMul, Nat.reduceDiv, Nat.reduceMod, Nat.reduceLeDiff, Nat.reduceBEq, Int.reduceToNat, Int.reduceLT, Int.reduceLE, Int.reduceEq, hr]
end Go.Vm.P12

/- Chapter 12, functions: the direct leaf. -/
set_option maxRecDepth 100000
namespace Go.Vm.P12
open Go Go.Vm
theorem ok82 (n : Nat) (c : Cl) : callP (level E (n+1)) 82 [.agg (enC c)] = some (.fn 98 [] [.ptr (enC c)]) := by
  rw [p82]; simp only [go_sem, Nat.reduceAdd, Nat.reduceSub, Nat.reduceMul, Nat.reduceDiv, Nat.reduceMod, Nat.reduceLeDiff, Nat.reduceBEq, Int.reduceToNat, Int.reduceLT, Int.reduceLE, Int.reduceEq, sg_slD]
def sOk (c : Cl) (s : Stp) : Bool := decide (s.lw.length = c.sp.length) && decide (s.hg.length = c.sp.length) && decide (c.gv.length ≤ s.gv.length)
theorem leafOf_ok {c : Cl} (hc : c.Even) {goal : Int} {g : List Int} (hg : g.length = c.gv.length) : sOk c (leafOf c goal g) = true := by
  have hll : (left ⟨true, goal, false, g, true, [], true, [], 0, 0, 0, 0⟩ c).co.length = c.sp.length := lft_len c.gv _ _ (by simp [pls, hc.go]) hc.gv
  simp [sOk, leafOf, hll, hg]
def zSt : Stp := ⟨false, 0, true, [], true, [], true, [], 0, 0, 0, 0⟩
def x0 (c : Cl) : Ext := ⟨[6], b52_0, b52_1, [.imm (.agg (enC c)), .ptr 1 0, .ptr 2 0, .ptr 0 0, .junk, .imm (.fn 98 [] [.ptr (enC c)]), .junk, .junk], [.box ((enC c).map .imm), .box ((enT zSt).map .imm), .box [.imm (.bool false)]], 0, none⟩
def x1 (c : Cl) : Ext := ⟨[6], b52_0, b52_1, [.imm (.agg (enC c)), .ptr 0 0, .ptr 1 0, .ptr 2 0, .junk, .imm (.fn 98 [] [.ptr (enC c)]), .junk, .junk], [.box ((enT zSt).map .imm), .box [.imm (.bool false)], .box ((enC c).map .imm)], 0, none⟩
def xF (c : Cl) (s : Stp) : Ext := ⟨[6], b52_0, b52_1, [.imm (.agg (enC c)), .ptr 0 0, .ptr 1 0, .ptr 2 0, .junk, .imm (.fn 98 [] [.ptr (enC c)]), .junk, .junk], [.box ((enT s).map .imm), .box [.imm (.bool true)], .box ((enC c).map .imm)], 0, some .ret⟩
theorem rd52 (n : Nat) (c : Cl) (hc : c.Even) : Rd (level E (n+6)) (sOk c) (fun s => prv s c) (x1 c) (xF c) (fun e => e = x0 c ∨ e = x1 c) := by
  refine ⟨.inr rfl, fun e s he hs => ?_⟩
  simp only [sOk, Bool.and_eq_true, decide_eq_true_eq] at hs
  have h83 := ok83 n s c hc hs.2 hs.1.1 hs.1.2
  rcases he with rfl | rfl <;> cases hp : prv s c <;> rw [hp] at h83 <;> simp only [go_sem, Nat.reduceAdd, Nat.reduceSub, Nat.reduceMul, Nat.reduceDiv, Nat.reduceMod, Nat.reduceLeDiff, Nat.reduceBEq, Int.reduceToNat, Int.reduceLT, Int.reduceLE, Int.reduceEq] at h83 <;> simp only [x0, x1, xF] <;> rw [round_go (by rfl)] <;> simp only [go_sem, Nat.reduceAdd, Nat.reduceSub, Nat.reduceMul, Nat.reduceDiv, Nat.reduceMod, Nat.reduceLeDiff, Nat.reduceBEq, Int.reduceToNat, Int.reduceLT, Int.reduceLE, Int.reduceEq, sg_slD, zSt, slD_nil, h83]
def dir (c : Cl) : Option Stp := (leaves c).find? fun s => prv s c
theorem call98 (n : Nat) (c : Cl) (hc : c.Even) : (level E (n+7)).call 98 [.yield, .imm (.ptr (enC c))] [] (some (x0 c)) = some (.imm (.tup []), [], some (match dir c with | some s => xF c s | none => x1 c)) := by
  have hl := l98_2 (n := n) hc (rd52 n c hc) (fun g i m hi => leafOf_ok hc (by simp)) (leafOf_ok hc (by simp)) (x0 c) (.inl rfl)
  rw [call_go (fn := ir98) (c := c98) (r := []) rfl rfl rfl rfl rfl]
  rw [show (List.length ([] : List AO)) = 0 from rfl]
  rw [show [AV.yield, .imm (.ptr (enC c))] ++ List.replicate (ir98.nv - [AV.yield, .imm (.ptr (enC c))].length) .junk = [.yield, .imm (.ptr (enC c)), .junk, .junk, .junk, .junk, .junk, .junk, .junk, .junk, .junk, .junk, .junk, .junk, .junk, .junk] from rfl]
  rw [hl, ← dir]
  cases dir c <;> simp only [go_sem, Nat.reduceAdd, Nat.reduceSub, Nat.reduceMul, Nat.reduceDiv, Nat.reduceMod, Nat.reduceLeDiff, Nat.reduceBEq, Int.reduceToNat, Int.reduceLT, Int.reduceLE, Int.reduceEq]
def dirD (c : Cl) : D := match dir c with | some s => .tup [.agg (enT s), .bool true] | none => .tup [.agg (enT zSt), .bool false]
theorem ok52 (n : Nat) (c : Cl) (hc : c.Even) : callP (level E (n+8)) 52 [.agg (enC c)] = some (dirD c) := by
  have h98 := call98 n c hc
  have h82 := ok82 (n+6) c
  rw [p52]
  simp only [go_sem, Nat.reduceAdd, Nat.reduceSub, Nat.reduceMul, Nat.reduceDiv, Nat.reduceMod, Nat.reduceLeDiff, Nat.reduceBEq, Int.reduceToNat, Int.reduceLT, Int.reduceLE, Int.reduceEq] at h82
  simp only [x0, x1, xF, zSt] at h98
  unfold dirD
  cases hd : dir c with
  | none =>
    rw [hd] at h98
    simp only [go_sem, Nat.reduceAdd, Nat.reduceSub, Nat.reduceMul, Nat.reduceDiv, Nat.reduceMod, Nat.reduceLeDiff, Nat.reduceBEq, Int.reduceToNat, Int.reduceLT, Int.reduceLE, Int.reduceEq, slD_nil] at h98
    simp only [go_sem, Nat.reduceAdd, Nat.reduceSub, Nat.reduceMul, Nat.reduceDiv, Nat.reduceMod, Nat.reduceLeDiff, Nat.reduceBEq, Int.reduceToNat, Int.reduceLT, Int.reduceLE, Int.reduceEq, sg_slD, h82, h98, zSt, slD_nil]
  | some s =>
    rw [hd] at h98
    simp only [go_sem, Nat.reduceAdd, Nat.reduceSub, Nat.reduceMul, Nat.reduceDiv, Nat.reduceMod, Nat.reduceLeDiff, Nat.reduceBEq, Int.reduceToNat, Int.reduceLT, Int.reduceLE, Int.reduceEq, slD_nil] at h98
    simp only [go_sem, Nat.reduceAdd, Nat.reduceSub, Nat.reduceMul, Nat.reduceDiv, Nat.reduceMod, Nat.reduceLeDiff, Nat.reduceBEq, Int.reduceToNat, Int.reduceLT, Int.reduceLE, Int.reduceEq, sg_slD, h82, h98]
theorem clErr_even {c : Cl} (hf : c.Fit) (h : clErr c = 0) : c.Even := by
  have fn0 : ∀ l : List Int, fnz l = 0 → ∀ x ∈ l, x = 0 := by
    intro l
    induction l with
    | nil => intro _ x hx; cases hx
    | cons y l ih =>
      intro h x hx
      rw [fnz_cons] at h
      by_cases hy : y = 0
      · rw [if_pos hy] at h
        rcases List.mem_cons.1 hx with rfl | hx
        · exact hy
        · exact ih h x hx
      · rw [if_neg hy] at h; exact absurd h hy
  unfold clErr at h
  split at h
  · have key : ∀ l ∈ c.gv ++ [c.go], (l.co.length : Int) = c.sp.length := by
      intro l hl
      have h1 := fn0 _ h (lnErr l c.sp.length) (List.mem_map.2 ⟨l, hl, rfl⟩)
      have h2 := fn0 _ h1 _ (List.mem_cons_self)
      by_cases he : (l.co.length : Int) = c.sp.length
      · exact he
      · simp [he] at h2
    exact ⟨hf, fun g hg => by have := key g (List.mem_append_left _ hg); omega, by have := key c.go (by simp); omega⟩
  · rename_i h0; exact absurd h h0
def direct (c : Cl) : D := if clErr c = 0 then (match dir c with | some s => .tup [.agg (enT s), .bool true, .int .i64 0] | none => .tup [.agg (enT zSt), .bool false, .int .i64 0]) else .tup [.agg (enT zSt), .bool false, .int .i64 (clErr c)]
theorem ok10 (n : Nat) (c : Cl) (hf : c.Fit) : callP (level E (n+9)) 10 [.agg (enC c)] = some (direct c) := by
  have h28 := ok28 n c hf
  rw [p10]
  unfold direct
  by_cases h0 : clErr c = 0
  · have h52 := ok52 n c (clErr_even hf h0)
    rw [h0] at h28
    unfold dirD at h52
    cases hd : dir c with
    | none =>
      rw [hd] at h52
      simp only [go_sem, Nat.reduceAdd, Nat.reduceSub, Nat.reduceMul, Nat.reduceDiv, Nat.reduceMod, Nat.reduceLeDiff, Nat.reduceBEq, Int.reduceToNat, Int.reduceLT, Int.reduceLE, Int.reduceEq] at h28 h52
      simp only [go_sem, Nat.reduceAdd, Nat.reduceSub, Nat.reduceMul, Nat.reduceDiv, Nat.reduceMod, Nat.reduceLeDiff, Nat.reduceBEq, Int.reduceToNat, Int.reduceLT, Int.reduceLE, Int.reduceEq, sg_slD, h28, h52, h0, ne_eq, not_true_eq_false]
    | some s =>
      rw [hd] at h52
      simp only [go_sem, Nat.reduceAdd, Nat.reduceSub, Nat.reduceMul, Nat.reduceDiv, Nat.reduceMod, Nat.reduceLeDiff, Nat.reduceBEq, Int.reduceToNat, Int.reduceLT, Int.reduceLE, Int.reduceEq] at h28 h52
      simp only [go_sem, Nat.reduceAdd, Nat.reduceSub, Nat.reduceMul, Nat.reduceDiv, Nat.reduceMod, Nat.reduceLeDiff, Nat.reduceBEq, Int.reduceToNat, Int.reduceLT, Int.reduceLE, Int.reduceEq, sg_slD, h28, h52, h0, ne_eq, not_true_eq_false]
  · simp only [go_sem, Nat.reduceAdd, Nat.reduceSub, Nat.reduceMul, Nat.reduceDiv, Nat.reduceMod, Nat.reduceLeDiff, Nat.reduceBEq, Int.reduceToNat, Int.reduceLT, Int.reduceLE, Int.reduceEq] at h28
    simp only [go_sem, Nat.reduceAdd, Nat.reduceSub, Nat.reduceMul, Nat.reduceDiv, Nat.reduceMod, Nat.reduceLeDiff, Nat.reduceBEq, Int.reduceToNat, Int.reduceLT, Int.reduceLE, Int.reduceEq, sg_slD, h28, h0, ne_eq, not_false_eq_true, zSt, slD_nil]
end Go.Vm.P12

/- Chapter 12, functions: the widest span, halves. -/
set_option maxRecDepth 100000
namespace Go.Vm.P12
open Go Go.Vm
def wdt (s : Sp) : Int := sb s.hi s.lo
def wider (l : List Sp) (s : Sp) (st : Nat × Bool) : Bool := decide (s.lo < s.hi) && (!st.2 || decide (wdt (l.getD st.1 ⟨0, 0⟩) < wdt s))
def wids (l : List Sp) : List Sp → Nat → Nat × Bool → Nat × Bool
  | [], _, st => st
  | s :: r, i, st => wids l r (i + 1) (if wider l s st then (i, true) else st)
theorem l84 {lo : Lower} {b : Bool} {l : List Sp} (hl : l.length < 1000000000) : ∀ (r : List Sp) (i : Nat) (st : Nat × Bool), l.drop i = r → (st.2 = true → st.1 < l.length) →
    outC ⟨0, false⟩ [0, 0, 0, 1, 1, 0, 0, 0, 0, 0, 0, 0] (rnd (aCode lo ⟨0, false⟩ b84_0) (head ⟨0, false⟩ [1, 0, 0, 1, 1, 0, 0, 1, 1, 1, 0, 0])
      ⟨[.imm (slD b 2 (l.map enS)), .junk, .junk, .imm (.int .i64 st.1), .imm (.bool st.2), .junk, .junk, .imm (slD b 2 (l.map enS)), .imm (.int .i64 l.length), .imm (.int .i64 i), .junk, .junk], [], none⟩) =
      some (.exit 0, ⟨[.junk, .junk, .junk, .imm (.int .i64 (wids l r i st).1), .imm (.bool (wids l r i st).2), .junk, .junk, .junk, .junk, .junk, .junk, .junk], [], none⟩)
  | [], i, st, h, hst => by
    rw [rnd_eq]
    simp only [go_sem, Nat.reduceAdd, Nat.reduceSub, Nat.reduceMul, Nat.reduceDiv, Nat.reduceMod, Nat.reduceLeDiff, Nat.reduceBEq, Int.reduceToNat, Int.reduceLT, Int.reduceLE, Int.reduceEq, lt_f (drop_n h), wids]
  | s :: r, i, st, h, hst => by
    obtain ⟨h1, h2, h3⟩ := drop_c h
    have h6 := wrpS (i := i) (by omega)
    have IH := l84 (lo := lo) (b := b) hl r (i + 1) (if wider l s st then (i, true) else st) h3 (by split <;> simp_all)
    rw [rnd_eq]
    obtain ⟨k, fd⟩ := st
    have hw : wids l (s :: r) i (k, fd) = wids l r (i + 1) (if wider l s (k, fd) then (i, true) else (k, fd)) := rfl
    rw [hw]
    cases c1 : decide (s.lo < s.hi)
    · have e : wider l s (k, fd) = false := by simp only [wider, c1, Bool.false_and]
      rw [e] at IH ⊢
      simp only [go_sem, Nat.reduceAdd, Nat.reduceSub, Nat.reduceMul, Nat.reduceDiv, Nat.reduceMod, Nat.reduceLeDiff, Nat.reduceBEq, Int.reduceToNat, Int.reduceLT, Int.reduceLE, Int.reduceEq] at IH
      simp only [go_sem, Nat.reduceAdd, Nat.reduceSub, Nat.reduceMul, Nat.reduceDiv, Nat.reduceMod, Nat.reduceLeDiff, Nat.reduceBEq, Int.reduceToNat, Int.reduceLT, Int.reduceLE, Int.reduceEq, lt_t h2, h1, c1, h6]
      exact IH
    · cases fd
      · have e : wider l s (k, false) = true := by simp only [wider, c1]; rfl
        rw [e] at IH ⊢
        simp only [go_sem, Nat.reduceAdd, Nat.reduceSub, Nat.reduceMul, Nat.reduceDiv, Nat.reduceMod, Nat.reduceLeDiff, Nat.reduceBEq, Int.reduceToNat, Int.reduceLT, Int.reduceLE, Int.reduceEq] at IH
        simp only [go_sem, Nat.reduceAdd, Nat.reduceSub, Nat.reduceMul, Nat.reduceDiv, Nat.reduceMod, Nat.reduceLeDiff, Nat.reduceBEq, Int.reduceToNat, Int.reduceLT, Int.reduceLE, Int.reduceEq, lt_t h2, h1, c1, h6]
        exact IH
      · have hk := hst rfl
        obtain ⟨t, ht⟩ : ∃ t, l[k]? = some t := ⟨l[k], List.getElem?_eq_getElem hk⟩
        have hg : l.getD k ⟨0, 0⟩ = t := by rw [List.getD_eq_getElem?_getD, ht]; rfl
        cases c2 : decide (wrp .i64 (t.hi - t.lo) < wrp .i64 (s.hi - s.lo))
        · have e : wider l s (k, true) = false := by simp only [wider, c1, hg, wdt, sb, c2]; rfl
          rw [e] at IH ⊢
          simp only [go_sem, Nat.reduceAdd, Nat.reduceSub, Nat.reduceMul, Nat.reduceDiv, Nat.reduceMod, Nat.reduceLeDiff, Nat.reduceBEq, Int.reduceToNat, Int.reduceLT, Int.reduceLE, Int.reduceEq] at IH
          simp only [go_sem, Nat.reduceAdd, Nat.reduceSub, Nat.reduceMul, Nat.reduceDiv, Nat.reduceMod, Nat.reduceLeDiff, Nat.reduceBEq, Int.reduceToNat, Int.reduceLT, Int.reduceLE, Int.reduceEq, lt_t h2, h1, c1, h6, ht, c2]
          exact IH
        · have e : wider l s (k, true) = true := by simp only [wider, c1, hg, wdt, sb, c2]; rfl
          rw [e] at IH ⊢
          simp only [go_sem, Nat.reduceAdd, Nat.reduceSub, Nat.reduceMul, Nat.reduceDiv, Nat.reduceMod, Nat.reduceLeDiff, Nat.reduceBEq, Int.reduceToNat, Int.reduceLT, Int.reduceLE, Int.reduceEq] at IH
          simp only [go_sem, Nat.reduceAdd, Nat.reduceSub, Nat.reduceMul, Nat.reduceDiv, Nat.reduceMod, Nat.reduceLeDiff, Nat.reduceBEq, Int.reduceToNat, Int.reduceLT, Int.reduceLE, Int.reduceEq, lt_t h2, h1, c1, h6, ht, c2]
          exact IH
def wid (l : List Sp) : Nat × Bool := wids l l 0 (0, false)
theorem ok84 (n : Nat) (b : Bool) (l : List Sp) (hl : l.length < 1000000000) : callP (level E (n+1)) 84 [slD b 2 (l.map enS)] = some (.tup [.int .i64 (wid l).1, .bool (wid l).2]) := by
  have h := l84 (lo := level E n) (b := b) hl l 0 (0, false) rfl (by simp)
  rw [cast0] at h
  rw [p84]
  simp only [go_sem, Nat.reduceAdd, Nat.reduceSub, Nat.reduceMul, Nat.reduceDiv, Nat.reduceMod, Nat.reduceLeDiff, Nat.reduceBEq, Int.reduceToNat, Int.reduceLT, Int.reduceLE, Int.reduceEq, h, wid]
theorem ok86 (n : Nat) (s : Sp) : callP (level E (n+1)) 86 [.agg (enS s)] = some (.int .i64 s.lo) := by
  rw [p86]; simp only [go_sem, Nat.reduceAdd, Nat.reduceSub, Nat.reduceMul, Nat.reduceDiv, Nat.reduceMod, Nat.reduceLeDiff, Nat.reduceBEq, Int.reduceToNat, Int.reduceLT, Int.reduceLE, Int.reduceEq]
def nar (c : Cl) (v : Nat) (s : Sp) : Cl := { c with sn := false, sp := c.sp.set v s }
theorem ok87 (n : Nat) (c : Cl) (v : Nat) (s : Sp) (b : Int) (hv : c.sp[v]? = some s) (hb : c.sp.length < 1000000000) :
    callP (level E (n+3)) 87 [.agg (enC c), .int .i64 v, .int .i64 b] = some (.agg (enC (nar c v ⟨s.lo, b⟩) ++ enC (nar c v ⟨ad b 1, s.hi⟩))) := by
  obtain ⟨sn, sp, gn, gv, go⟩ := c
  simp only at hv hb
  have hvl : v < sp.length := (List.getElem?_eq_some_iff.1 hv).1
  cases sp with
  | nil => simp at hvl
  | cons x sp =>
    obtain ⟨N, hN⟩ : ∃ N, N = sp.length + 1 := ⟨_, rfl⟩
    have h101 := ok101 (n+1) sn ((x :: sp).map enS) (by simpa using hb)
    have u := rnd_eq (aCode (level E (n+2)) ⟨0, false⟩ b87_0)
    have i0 : (0 : Int) < ((2 : Nat) : Int) := by decide
    have i1 : (1 : Int) < ((2 : Nat) : Int) := by decide
    have hvN : (v : Int) < (N : Int) := by simp at hvl; omega
    have hm : ((x :: sp).map enS)[v]? = some (enS s) := by rw [List.getElem?_map, hv]; rfl
    have q1 : (v * 2 + 1) / 2 = v := by omega
    have q2 : (v * 2 + 1) % 2 = 1 := by omega
    have q3 : v * 2 / 2 = v := by omega
    have q4 : v * 2 % 2 = 0 := by omega
    have z1 : (List.map enS (x :: sp)).set v [.int .i64 s.lo, .int .i64 b] = ((x :: sp).set v ⟨s.lo, b⟩).map enS := by rw [List.map_set]; rfl
    have z2 : (List.map enS (x :: sp)).set v [.int .i64 (wrp .i64 (b + 1)), .int .i64 s.hi] = ((x :: sp).set v ⟨ad b 1, s.hi⟩).map enS := by rw [List.map_set]; rfl
    have g1 : ((x :: sp).set v ⟨s.lo, b⟩).length = N := by simp [hN]
    have g2 : ((x :: sp).set v ⟨ad b 1, s.hi⟩).length = N := by simp [hN]
    have r1 : nar ⟨sn, x :: sp, gn, gv, go⟩ v ⟨s.lo, b⟩ = ⟨false, (x :: sp).set v ⟨s.lo, b⟩, gn, gv, go⟩ := rfl
    have r2 : nar ⟨sn, x :: sp, gn, gv, go⟩ v ⟨ad b 1, s.hi⟩ = ⟨false, (x :: sp).set v ⟨ad b 1, s.hi⟩, gn, gv, go⟩ := rfl
    rw [r1, r2]
    generalize hZ1 : (x :: sp).set v ⟨s.lo, b⟩ = Z1 at z1 g1
    generalize hZ2 : (x :: sp).set v ⟨ad b 1, s.hi⟩ = Z2 at z2 g2
    have t1 : (Z1.map enS).take N = Z1.map enS := take_self (by simpa using g1)
    have t2 : (Z2.map enS).take N = Z2.map enS := take_self (by simpa using g2)
    have t3 : N ≤ Z1.length := by omega
    have t4 : N ≤ Z2.length := by omega
    rw [p87]
    simp only [go_sem, Nat.reduceAdd, Nat.reduceSub, Nat.reduceMul, Nat.reduceDiv, Nat.reduceMod, Nat.reduceLeDiff, Nat.reduceBEq, Int.reduceToNat, Int.reduceLT, Int.reduceLE, Int.reduceEq] at hm z1 z2
    simp only [go_sem, Nat.reduceAdd, Nat.reduceSub, Nat.reduceMul, Nat.reduceDiv, Nat.reduceMod, Nat.reduceLeDiff, Nat.reduceBEq, Int.reduceToNat, Int.reduceLT, Int.reduceLE, Int.reduceEq, slD_cons] at h101
    simp only [go_sem, Nat.reduceAdd, Nat.reduceSub, Nat.reduceMul, Nat.reduceDiv, Nat.reduceMod, Nat.reduceLeDiff, Nat.reduceBEq, Int.reduceToNat, Int.reduceLT, Int.reduceLE, Int.reduceEq, u, slD_cons, sg_slD, h101, clV, clO, i0, i1, ← hN, hvN, Int.natCast_nonneg, q1, q2, q3, q4, hm, z1, z2, t1, t2, t3, t4, slD_f]
end Go.Vm.P12

/- Chapter 12, the reference's functions: errors. -/
set_option maxRecDepth 100000
namespace Go.Vm.P12
open Go Go.Vm
def rSp1 (s : Sp) : Int := fnz [ckR s.lo (-1048576) 1048576, ckR s.hi (-1048576) 1048576, if decide (s.hi < s.lo) then 9 else 0]
def rSpErr (l : List Sp) : Int := if 6 < l.length then 5 else fnz (l.map rSp1)
theorem l39 {n : Nat} {b : Bool} {l : List Sp} (hl : l.length < 1000000000) : ∀ (r : List Sp) (i : Nat), l.drop i = r →
    outC ⟨0, false⟩ [0, 1, 0, 0, 0, 0, 0] (rnd (aCode (level E (n+2)) ⟨0, false⟩ b39_0) (head ⟨0, false⟩ [1, 0, 1, 0, 0, 0, 0]) ⟨[.imm (slD b 2 (l.map enS)), .junk, .imm (.int .i64 i), .junk, .junk, .junk, .junk], [], none⟩) =
      some (if fnz (r.map rSp1) = 0 then (.exit 0, ⟨[.junk, .junk, .junk, .junk, .junk, .junk, .junk], [], none⟩) else (.ret, ⟨[.junk, .imm (.int .i64 (fnz (r.map rSp1))), .junk, .junk, .junk, .junk, .junk], [], none⟩))
  | [], i, h => by
    rw [rnd_eq]
    simp only [go_sem, Nat.reduceAdd, Nat.reduceSub, Nat.reduceMul, Nat.reduceDiv, Nat.reduceMod, Nat.reduceLeDiff, Nat.reduceBEq, Int.reduceToNat, Int.reduceLT, Int.reduceLE, Int.reduceEq, lt_f (drop_n h), fnz]
  | x :: r, i, h => by
    obtain ⟨h1, h2, h3⟩ := drop_c h
    have IH := l39 (n := n) (b := b) hl r (i + 1) h3
    have h6 := wrpS (i := i) (by omega)
    have hs : fnz [ckR x.lo (-1048576) 1048576, ckR x.hi (-1048576) 1048576, if decide (x.hi < x.lo) then 9 else 0] = rSp1 x := rfl
    rw [rnd_eq, List.map_cons, fnz_cons]
    by_cases h0 : rSp1 x = 0 <;> simp only [go_sem, Nat.reduceAdd, Nat.reduceSub, Nat.reduceMul, Nat.reduceDiv, Nat.reduceMod, Nat.reduceLeDiff, Nat.reduceBEq, Int.reduceToNat, Int.reduceLT, Int.reduceLE, Int.reduceEq, lt_t h2, h1, ok17, ok42, ok16_3, hs, h0, ne_eq, not_true_eq_false, not_false_eq_true, h6]
    exact IH
theorem ok39 (n : Nat) (b : Bool) (l : List Sp) (hl : l.length < 1000000000) : callP (level E (n+3)) 39 [slD b 2 (l.map enS)] = some (.int .i64 (rSpErr l)) := by
  have h := l39 (n := n) (b := b) hl l 0 rfl
  rw [cast0] at h
  rw [p39]
  by_cases h5 : 6 < l.length
  · have h5' : (6 : Int) < l.length := by omega
    simp only [go_sem, Nat.reduceAdd, Nat.reduceSub, Nat.reduceMul, Nat.reduceDiv, Nat.reduceMod, Nat.reduceLeDiff, Nat.reduceBEq, Int.reduceToNat, Int.reduceLT, Int.reduceLE, Int.reduceEq, h5', rSpErr, h5]
  · have h5' : ¬ (6 : Int) < l.length := by omega
    simp only [go_sem, Nat.reduceAdd, Nat.reduceSub, Nat.reduceMul, Nat.reduceDiv, Nat.reduceMod, Nat.reduceLeDiff, Nat.reduceBEq, Int.reduceToNat, Int.reduceLT, Int.reduceLE, Int.reduceEq, h5', rSpErr, h5]
    rw [h]
    by_cases h0 : fnz (l.map rSp1) = 0 <;> simp only [go_sem, Nat.reduceAdd, Nat.reduceSub, Nat.reduceMul, Nat.reduceDiv, Nat.reduceMod, Nat.reduceLeDiff, Nat.reduceBEq, Int.reduceToNat, Int.reduceLT, Int.reduceLE, Int.reduceEq, h0]
def ckC (x : Int) : Int := ckR x (-1048576) 1048576
def rLnErr (x : Ln) (vars : Nat) : Int := if x.co.length ≠ vars then 2 else if fnz (x.co.map ckC) = 0 then ckR x.c (-1099511627776) 1099511627776 else fnz (x.co.map ckC)
theorem l38 {n : Nat} {b : Bool} {l : List Int} {c : Int} (hl : l.length < 1000000000) : ∀ (r : List Int) (i : Nat), l.drop i = r →
    outC ⟨0, false⟩ [0, 0, 1, 1, 0, 0, 0, 0, 0] (rnd (aCode (level E (n+2)) ⟨0, false⟩ b38_0) (head ⟨0, false⟩ [0, 1, 0, 1, 1, 0, 0, 0, 0]) ⟨[.junk, .imm (.int .i64 l.length), .junk, .ptr 0 0, .imm (.int .i64 i), .junk, .junk, .junk, .junk], [.box [.imm (slD b 1 (l.map ic)), .imm (.int .i64 c)]], none⟩) =
      some (if fnz (r.map ckC) = 0 then (.exit 0, ⟨[.junk, .junk, .junk, .ptr 0 0, .junk, .junk, .junk, .junk, .junk], [.box [.imm (slD b 1 (l.map ic)), .imm (.int .i64 c)]], none⟩) else (.ret, ⟨[.junk, .junk, .imm (.int .i64 (fnz (r.map ckC))), .ptr 0 0, .junk, .junk, .junk, .junk, .junk], [.box [.imm (slD b 1 (l.map ic)), .imm (.int .i64 c)]], none⟩))
  | [], i, h => by
    rw [rnd_eq]
    simp only [go_sem, Nat.reduceAdd, Nat.reduceSub, Nat.reduceMul, Nat.reduceDiv, Nat.reduceMod, Nat.reduceLeDiff, Nat.reduceBEq, Int.reduceToNat, Int.reduceLT, Int.reduceLE, Int.reduceEq, lt_f (drop_n h), fnz]
  | x :: r, i, h => by
    obtain ⟨h1, h2, h3⟩ := drop_c h
    have IH := l38 (n := n) (b := b) (c := c) hl r (i + 1) h3
    have h6 := wrpS (i := i) (by omega)
    have hs : ckR x (-1048576) 1048576 = ckC x := rfl
    rw [rnd_eq, List.map_cons, fnz_cons]
    by_cases h0 : ckC x = 0 <;> simp only [go_sem, Nat.reduceAdd, Nat.reduceSub, Nat.reduceMul, Nat.reduceDiv, Nat.reduceMod, Nat.reduceLeDiff, Nat.reduceBEq, Int.reduceToNat, Int.reduceLT, Int.reduceLE, Int.reduceEq, lt_t h2, h1, ok17, hs, h0, ne_eq, not_true_eq_false, not_false_eq_true, h6]
    exact IH
theorem ok38 (n : Nat) (x : Ln) (vars : Nat) (hl : x.co.length < 1000000000) : callP (level E (n+3)) 38 [.agg (enL x), .int .i64 vars] = some (.int .i64 (rLnErr x vars)) := by
  have h := l38 (n := n) (b := x.nl) (c := x.c) hl x.co 0 rfl
  rw [cast0] at h
  rw [p38]
  by_cases h5 : x.co.length = vars
  · subst h5
    by_cases h0 : fnz (x.co.map ckC) = 0 <;> simp only [go_sem, Nat.reduceAdd, Nat.reduceSub, Nat.reduceMul, Nat.reduceDiv, Nat.reduceMod, Nat.reduceLeDiff, Nat.reduceBEq, Int.reduceToNat, Int.reduceLT, Int.reduceLE, Int.reduceEq, sg_slD, ne_eq, not_true_eq_false, rLnErr, h, h0, ok17]
  · have h5' : ¬ (x.co.length : Int) = vars := by omega
    simp only [go_sem, Nat.reduceAdd, Nat.reduceSub, Nat.reduceMul, Nat.reduceDiv, Nat.reduceMod, Nat.reduceLeDiff, Nat.reduceBEq, Int.reduceToNat, Int.reduceLT, Int.reduceLE, Int.reduceEq, sg_slD, ne_eq, h5, h5', not_false_eq_true, rLnErr]
def rClErr (c : Cl) : Int := if rSpErr c.sp = 0 then (if (12 : Int) < c.gv.length then 5 else if fnz (c.gv.map fun l => rLnErr l c.sp.length) = 0 then rLnErr c.go c.sp.length else fnz (c.gv.map fun l => rLnErr l c.sp.length)) else rSpErr c.sp
theorem l12 {n : Nat} {c : Cl} (hf : c.Fit) : ∀ (r : List Ln) (i : Nat), c.gv.drop i = r →
    outC ⟨0, false⟩ [0, 1, 1, 0, 0, 0, 0, 0, 0, 0] (rnd (aCode (level E (n+3)) ⟨0, false⟩ b12_0) (head ⟨0, false⟩ [0, 0, 1, 0, 1, 0, 0, 0, 0, 0]) ⟨[.junk, .junk, .ptr 0 0, .junk, .imm (.int .i64 i), .junk, .junk, .junk, .junk, .junk], [.box ((enC c).map .imm)], none⟩) =
      some (if fnz (r.map fun l => rLnErr l c.sp.length) = 0 then (.exit 0, ⟨[.junk, .junk, .ptr 0 0, .junk, .junk, .junk, .junk, .junk, .junk, .junk], [.box ((enC c).map .imm)], none⟩) else (.ret, ⟨[.junk, .imm (.int .i64 (fnz (r.map fun l => rLnErr l c.sp.length))), .ptr 0 0, .junk, .junk, .junk, .junk, .junk, .junk, .junk], [.box ((enC c).map .imm)], none⟩))
  | [], i, h => by
    rw [rnd_eq]
    simp only [go_sem, Nat.reduceAdd, Nat.reduceSub, Nat.reduceMul, Nat.reduceDiv, Nat.reduceMod, Nat.reduceLeDiff, Nat.reduceBEq, Int.reduceToNat, Int.reduceLT, Int.reduceLE, Int.reduceEq, lt_f (drop_n h), fnz]
  | x :: r, i, h => by
    obtain ⟨h1, h2, h3⟩ := drop_c h
    have IH := l12 (n := n) hf r (i + 1) h3
    have hg := hf.gv
    have h6 := wrpS (i := i) (by omega)
    have h38 := ok38 n x c.sp.length (hf.ln x (List.mem_of_getElem? h1))
    rw [rnd_eq, List.map_cons, fnz_cons]
    simp only [go_sem, Nat.reduceAdd, Nat.reduceSub, Nat.reduceMul, Nat.reduceDiv, Nat.reduceMod, Nat.reduceLeDiff, Nat.reduceBEq, Int.reduceToNat, Int.reduceLT, Int.reduceLE, Int.reduceEq] at h38 IH
    by_cases h0 : rLnErr x c.sp.length = 0 <;> simp only [go_sem, Nat.reduceAdd, Nat.reduceSub, Nat.reduceMul, Nat.reduceDiv, Nat.reduceMod, Nat.reduceLeDiff, Nat.reduceBEq, Int.reduceToNat, Int.reduceLT, Int.reduceLE, Int.reduceEq, lt_t h2, h1, h38, h0, ne_eq, not_true_eq_false, not_false_eq_true, h6]
    exact IH
theorem ok12 (n : Nat) (c : Cl) (hf : c.Fit) : callP (level E (n+4)) 12 [.agg (enC c)] = some (.int .i64 (rClErr c)) := by
  have h39 := ok39 n c.sn c.sp hf.sp
  have hg := l12 (n := n) hf c.gv 0 rfl
  have h38 := ok38 n c.go c.sp.length hf.go
  rw [cast0] at hg
  rw [p12]
  simp only [go_sem, Nat.reduceAdd, Nat.reduceSub, Nat.reduceMul, Nat.reduceDiv, Nat.reduceMod, Nat.reduceLeDiff, Nat.reduceBEq, Int.reduceToNat, Int.reduceLT, Int.reduceLE, Int.reduceEq] at h38 hg
  by_cases h0 : rSpErr c.sp = 0
  · by_cases h1 : (12 : Int) < c.gv.length
    · simp only [go_sem, Nat.reduceAdd, Nat.reduceSub, Nat.reduceMul, Nat.reduceDiv, Nat.reduceMod, Nat.reduceLeDiff, Nat.reduceBEq, Int.reduceToNat, Int.reduceLT, Int.reduceLE, Int.reduceEq, sg_slD, h39, h0, ne_eq, not_true_eq_false, h1, rClErr]
    · by_cases h2 : fnz (c.gv.map fun l => rLnErr l c.sp.length) = 0 <;> simp only [go_sem, Nat.reduceAdd, Nat.reduceSub, Nat.reduceMul, Nat.reduceDiv, Nat.reduceMod, Nat.reduceLeDiff, Nat.reduceBEq, Int.reduceToNat, Int.reduceLT, Int.reduceLE, Int.reduceEq, sg_slD, h39, h0, ne_eq, not_true_eq_false, h1, hg, h2, h38, rClErr]
  · simp only [go_sem, Nat.reduceAdd, Nat.reduceSub, Nat.reduceMul, Nat.reduceDiv, Nat.reduceMod, Nat.reduceLeDiff, Nat.reduceBEq, Int.reduceToNat, Int.reduceLT, Int.reduceLE, Int.reduceEq, sg_slD, h39, h0, ne_eq, not_false_eq_true, rClErr]
end Go.Vm.P12

/- Chapter 12, the reference's functions: sums of lines, right leaves. -/
set_option maxRecDepth 100000
namespace Go.Vm.P12
open Go Go.Vm
def rpl (f : Int) (x o : Ln) : Ln := { nl := true, co := List.zipWith (fun a b => ad a (ml f b)) x.co o.co, c := ad x.c (ml f o.c) }
def vK (k sz : Nat) (acc : List (List D)) : AV := match acc with | [] => .imm .nil | _ => .ref k sz 0 acc.length
def oK (sz : Nat) (acc : List (List D)) : List AO := match acc with | [] => [] | _ => [.arr sz acc]
theorem l55 {lo : Lower} {xn on : Bool} {xc oc : List Int} {f c d e : Int} (hN : xc.length < 1000000000) : ∀ (r q : List Int) (A : List (List D)) (i : Nat), A.length = i → xc.drop i = r → oc.drop i = q → r.length = q.length →
    outC ⟨0, false⟩ [0, 0, 0, 1, 0, 0, 1, 0, 0] (rnd (aCode lo ⟨0, false⟩ b55_0) (head ⟨0, false⟩ [0, 0, 1, 1, 1, 1, 1, 1, 0])
      ⟨[.junk, .junk, .imm (.int .i64 f), .ptr 0 0, .ptr 1 0, .ptr 2 0, .ptr 3 0, .imm (.int .i64 i), .junk],
        [.box [.imm .nil, .imm (.int .i64 0)], .box [.imm (slD xn 1 (xc.map ic)), .imm (.int .i64 d)], .box [.imm (slD on 1 (oc.map ic)), .imm (.int .i64 e)], .box [vK 4 1 A, .imm (.int .i64 c)]] ++ oK 1 A, none⟩) =
      some (.exit 0, ⟨[.junk, .junk, .junk, .ptr 0 0, .junk, .junk, .ptr 1 0, .junk, .junk], [.box [.imm .nil, .imm (.int .i64 0)], .box [vK 2 1 (A ++ (List.zipWith (fun a b => ad a (ml f b)) r q).map ic), .imm (.int .i64 c)]] ++ oK 1 (A ++ (List.zipWith (fun a b => ad a (ml f b)) r q).map ic), none⟩)
  | [], q, A, i, hA, hx, hq, hl => by
    have : q = [] := by cases q <;> simp at hl ⊢
    subst this
    rw [rnd_eq]
    cases A <;> simp only [go_sem, Nat.reduceAdd, Nat.reduceSub, Nat.reduceMul, Nat.reduceDiv, Nat.reduceMod, Nat.reduceLeDiff, Nat.reduceBEq, Int.reduceToNat, Int.reduceLT, Int.reduceLE, Int.reduceEq, lt_f (drop_n hx), List.zipWith, vK, oK]
  | x :: r, [], A, i, hA, hx, hq, hl => by simp at hl
  | x :: r, y :: q, A, i, hA, hx, hq, hl => by
    obtain ⟨h1, h2, h3⟩ := drop_c hx
    obtain ⟨g1, g2, g3⟩ := drop_c hq
    have IH := l55 (lo := lo) (xn := xn) (on := on) (f := f) (c := c) (d := d) (e := e) hN r q (A ++ [ic (ad x (ml f y))]) (i + 1) (by simp [hA]) h3 g3 (by simpa using hl)
    have h6 := wrpS (i := i) (by omega)
    have h5 : (A.length + 1) * 9 ≤ 70368744177664 := by omega
    rw [rnd_eq]
    cases A with
    | nil =>
      simp only [go_sem, Nat.reduceAdd, Nat.reduceSub, Nat.reduceMul, Nat.reduceDiv, Nat.reduceMod, Nat.reduceLeDiff, Nat.reduceBEq, Int.reduceToNat, Int.reduceLT, Int.reduceLE, Int.reduceEq, vK, oK] at IH
      simp only [go_sem, Nat.reduceAdd, Nat.reduceSub, Nat.reduceMul, Nat.reduceDiv, Nat.reduceMod, Nat.reduceLeDiff, Nat.reduceBEq, Int.reduceToNat, Int.reduceLT, Int.reduceLE, Int.reduceEq, lt_t h2, h1, g1, h6, vK, oK, List.zipWith]
      exact IH
    | cons a A =>
      simp only [go_sem, Nat.reduceAdd, Nat.reduceSub, Nat.reduceMul, Nat.reduceDiv, Nat.reduceMod, Nat.reduceLeDiff, Nat.reduceBEq, Int.reduceToNat, Int.reduceLT, Int.reduceLE, Int.reduceEq] at h5
      simp only [go_sem, Nat.reduceAdd, Nat.reduceSub, Nat.reduceMul, Nat.reduceDiv, Nat.reduceMod, Nat.reduceLeDiff, Nat.reduceBEq, Int.reduceToNat, Int.reduceLT, Int.reduceLE, Int.reduceEq, vK, oK, List.append_assoc] at IH
      simp only [go_sem, Nat.reduceAdd, Nat.reduceSub, Nat.reduceMul, Nat.reduceDiv, Nat.reduceMod, Nat.reduceLeDiff, Nat.reduceBEq, Int.reduceToNat, Int.reduceLT, Int.reduceLE, Int.reduceEq, lt_t h2, h1, g1, h6, vK, oK, List.zipWith, h5]
      exact IH
theorem run55 (lo : Lower) (x o : Ln) (f : Int) (h : x.co.length = o.co.length) (hx : x.co.length < 1000000000) :
    fin [.cell 3 true 2] (aCode lo ⟨0, false⟩ c55 ⟨[.imm (.agg (enL x)), .imm (.agg (enL o)), .imm (.int .i64 f), .junk, .junk, .junk, .junk, .junk, .junk], [], none⟩) =
      some (mkAgg [vK 2 1 ((rpl f x o).co.map ic), .imm (.int .i64 (rpl f x o).c)], [.box [vK 2 1 ((rpl f x o).co.map ic), .imm (.int .i64 (rpl f x o).c)], .box [vK 2 1 ((rpl f x o).co.map ic), .imm (.int .i64 (rpl f x o).c)]] ++ oK 1 ((rpl f x o).co.map ic), none) := by
  have hl := l55 (lo := lo) (xn := x.nl) (on := o.nl) (f := f) (c := ad x.c (ml f o.c)) (d := x.c) (e := o.c) hx x.co o.co [] 0 rfl rfl rfl h
  rw [cast0] at hl
  generalize hz : (List.zipWith (fun a b => ad a (ml f b)) x.co o.co).map ic = z at hl
  have e1 : (rpl f x o).co.map ic = z := hz
  rw [e1]
  cases z with
  | nil =>
    simp only [go_sem, Nat.reduceAdd, Nat.reduceSub, Nat.reduceMul, Nat.reduceDiv, Nat.reduceMod, Nat.reduceLeDiff, Nat.reduceBEq, Int.reduceToNat, Int.reduceLT, Int.reduceLE, Int.reduceEq, vK, oK, ad, ml] at hl
    simp only [go_sem, Nat.reduceAdd, Nat.reduceSub, Nat.reduceMul, Nat.reduceDiv, Nat.reduceMod, Nat.reduceLeDiff, Nat.reduceBEq, Int.reduceToNat, Int.reduceLT, Int.reduceLE, Int.reduceEq, sg_slD, hl, vK, oK, rpl, ad, ml]
  | cons a z =>
    simp only [go_sem, Nat.reduceAdd, Nat.reduceSub, Nat.reduceMul, Nat.reduceDiv, Nat.reduceMod, Nat.reduceLeDiff, Nat.reduceBEq, Int.reduceToNat, Int.reduceLT, Int.reduceLE, Int.reduceEq, vK, oK, ad, ml] at hl
    simp only [go_sem, Nat.reduceAdd, Nat.reduceSub, Nat.reduceMul, Nat.reduceDiv, Nat.reduceMod, Nat.reduceLeDiff, Nat.reduceBEq, Int.reduceToNat, Int.reduceLT, Int.reduceLE, Int.reduceEq, sg_slD, hl, vK, oK, rpl, ad, ml]
theorem ok55 (n : Nat) (x o : Ln) (f : Int) (h : x.co.length = o.co.length) (hx : x.co.length < 1000000000) : callP (level E (n+1)) 55 [.agg (enL x), .agg (enL o), .int .i64 f] = some (.agg [slD true 1 ((rpl f x o).co.map ic), .int .i64 (rpl f x o).c]) := by
  rw [p55, run55 _ x o f h hx]
  cases hz : (rpl f x o).co with
  | nil => simp only [go_sem, Nat.reduceAdd, Nat.reduceSub, Nat.reduceMul, Nat.reduceDiv, Nat.reduceMod, Nat.reduceLeDiff, Nat.reduceBEq, Int.reduceToNat, Int.reduceLT, Int.reduceLE, Int.reduceEq, vK, oK, slD_nil]
  | cons a z => simp only [go_sem, Nat.reduceAdd, Nat.reduceSub, Nat.reduceMul, Nat.reduceDiv, Nat.reduceMod, Nat.reduceLeDiff, Nat.reduceBEq, Int.reduceToNat, Int.reduceLT, Int.reduceLE, Int.reduceEq, vK, oK, slD_cons]
theorem ok55I (n : Nat) (x o : Ln) (f : Int) (h : x.co.length = o.co.length) (hx : x.co.length < 1000000000) : callI (level E (n+1)) 55 [.agg (enL x), .agg (enL o), .int .i64 f] = some (mkAgg [vK 0 1 ((rpl f x o).co.map ic), .imm (.int .i64 (rpl f x o).c)], oK 1 ((rpl f x o).co.map ic)) := by
  rw [i55, run55 _ x o f h hx]
  cases hz : (rpl f x o).co with
  | nil => simp only [go_sem, Nat.reduceAdd, Nat.reduceSub, Nat.reduceMul, Nat.reduceDiv, Nat.reduceMod, Nat.reduceLeDiff, Nat.reduceBEq, Int.reduceToNat, Int.reduceLT, Int.reduceLE, Int.reduceEq, vK, oK]
  | cons a z => simp only [go_sem, Nat.reduceAdd, Nat.reduceSub, Nat.reduceMul, Nat.reduceDiv, Nat.reduceMod, Nat.reduceLeDiff, Nat.reduceBEq, Int.reduceToNat, Int.reduceLT, Int.reduceLE, Int.reduceEq, vK, oK]
def rlft : Ln → List Ln → List Int → Ln
  | x, g :: gs, k :: ks => rlft (rpl (sb 0 k) x g) gs ks
  | x, _, _ => x
theorem l56_0 {n : Nat} {c : Cl} {y : Stp} (hc : c.Even) : ∀ (r : List Ln) (q : List Int) (x : Ln) (i : Nat), c.gv.drop i = r → y.gv.drop i = q → r.length ≤ q.length → x.nl = true → x.co.length = c.sp.length →
    outC ⟨0, false⟩ [0, 0, 0, 1, 1, 1, 0, 0, 0, 0, 0] (rnd (aCode (level E (n+1)) ⟨0, false⟩ b56_0) (head ⟨0, false⟩ [0, 0, 0, 1, 1, 1, 1, 0, 0, 0, 0])
      ⟨[.junk, .junk, .junk, .ptr 0 0, .ptr 1 0, .ptr 2 0, .imm (.int .i64 i), .junk, .junk, .junk, .junk],
        [.box ((enC c).map .imm), .box ((enT y).map .imm), .box [vK 3 1 (x.co.map ic), .imm (.int .i64 x.c)]] ++ oK 1 (x.co.map ic), none⟩) =
      some (.exit 0, ⟨[.junk, .junk, .junk, .ptr 0 0, .ptr 1 0, .ptr 2 0, .junk, .junk, .junk, .junk, .junk], [.box ((enC c).map .imm), .box ((enT y).map .imm), .box [vK 3 1 ((rlft x r q).co.map ic), .imm (.int .i64 (rlft x r q).c)]] ++ oK 1 ((rlft x r q).co.map ic), none⟩)
  | [], q, x, i, hr, hq, hl, hn, hx => by
    rw [rnd_eq]
    obtain ⟨xn, xc, xd⟩ := x
    cases xc <;> simp only [go_sem, Nat.reduceAdd, Nat.reduceSub, Nat.reduceMul, Nat.reduceDiv, Nat.reduceMod, Nat.reduceLeDiff, Nat.reduceBEq, Int.reduceToNat, Int.reduceLT, Int.reduceLE, Int.reduceEq, lt_f (drop_n hr), rlft, vK, oK]
  | g :: r, [], x, i, hr, hq, hl, hn, hx => by simp at hl
  | g :: r, k :: q, x, i, hr, hq, hl, hn, hx => by
    obtain ⟨h1, h2, h3⟩ := drop_c hr
    obtain ⟨q1, q2, q3⟩ := drop_c hq
    have hg := hc.gv g (List.mem_of_getElem? h1)
    have hb := hc.fit.sp
    have hb2 := hc.fit.gv
    have h55 := ok55I n x g (sb 0 k) (by omega) (by omega)
    have hz : (rpl (sb 0 k) x g).co.length = c.sp.length := by simp only [rpl, List.length_zipWith, hx, hg]; simp
    have IH := l56_0 (n := n) (y := y) hc r q (rpl (sb 0 k) x g) (i + 1) h3 q3 (by simpa using hl) rfl hz
    have h6 := wrpS (i := i) (by omega)
    have e1 : rlft x (g :: r) (k :: q) = rlft (rpl (sb 0 k) x g) r q := rfl
    rw [rnd_eq, e1]
    generalize rpl (sb 0 k) x g = w at h55 hz IH
    obtain ⟨xn, xc, xd⟩ := x
    obtain ⟨wn, wc, wd⟩ := w
    simp only at hn
    subst hn
    cases xc with
    | nil =>
      have : wc = [] := List.eq_nil_of_length_eq_zero (by simp at hx hz; omega)
      subst this
      simp only [go_sem, Nat.reduceAdd, Nat.reduceSub, Nat.reduceMul, Nat.reduceDiv, Nat.reduceMod, Nat.reduceLeDiff, Nat.reduceBEq, Int.reduceToNat, Int.reduceLT, Int.reduceLE, Int.reduceEq, vK, oK, slD_nil, sb] at h55 IH
      simp only [go_sem, Nat.reduceAdd, Nat.reduceSub, Nat.reduceMul, Nat.reduceDiv, Nat.reduceMod, Nat.reduceLeDiff, Nat.reduceBEq, Int.reduceToNat, Int.reduceLT, Int.reduceLE, Int.reduceEq, lt_t h2, h1, q1, h6, vK, oK, h55]
      exact IH
    | cons a xc =>
      have hxl : xc.length + 1 = c.sp.length := by simpa using hx
      cases wc with
      | nil => simp at hz; omega
      | cons b wc =>
        simp only [go_sem, Nat.reduceAdd, Nat.reduceSub, Nat.reduceMul, Nat.reduceDiv, Nat.reduceMod, Nat.reduceLeDiff, Nat.reduceBEq, Int.reduceToNat, Int.reduceLT, Int.reduceLE, Int.reduceEq, vK, oK, slD_cons, sb] at h55 IH
        simp only [go_sem, Nat.reduceAdd, Nat.reduceSub, Nat.reduceMul, Nat.reduceDiv, Nat.reduceMod, Nat.reduceLeDiff, Nat.reduceBEq, Int.reduceToNat, Int.reduceLT, Int.reduceLE, Int.reduceEq, lt_t h2, h1, q1, h6, vK, oK, h55]
        exact IH
def rrX (x l h : Int) : Int := ad (sb x l) h
def rrC (c l h : Int) (s : Sp) : Int := sb (ad c (ml l s.lo)) (ml h s.hi)
def rrg : List Int → List Int → List Int → List Sp → Int → Option Int
  | x :: xs, l :: ls, h :: hs, s :: ss, c => if rrX x l h = 0 then rrg xs ls hs ss (rrC c l h s) else none
  | _, _, _, _, c => some c
theorem l56_1 {lo : Lower} {c : Cl} {y : Stp} {N : Nat} (hN : c.sp.length = N) (hb : N < 1000000000) : ∀ (r : List Sp) (x lw hg A : List Int) (d : Int) (i : Nat), A.length = i → c.sp.drop i = r → x.length = r.length → y.lw.drop i = lw → y.hg.drop i = hg → lw.length = r.length → hg.length = r.length →
    ∃ (st' : List (List D)) (d2 : Int), outC ⟨0, false⟩ [0, 0, 1, 0, 1, 1, 0, 0, 0, 0, 0] (rnd (aCode lo ⟨0, false⟩ b56_1) (head ⟨0, false⟩ [0, 0, 0, 1, 1, 1, 0, 1, 0, 0, 0])
      ⟨[.junk, .junk, .junk, .ptr 0 0, .ptr 1 0, .ptr 2 0, .junk, .imm (.int .i64 i), .junk, .junk, .junk],
        [.box ((enC c).map .imm), .box ((enT y).map .imm), .box [.ref 3 1 0 N, .imm (.int .i64 d)], .arr 1 (A.map ic ++ x.map ic)], none⟩) =
      some (match rrg x lw hg r d with
        | some d' => (.exit 2, ⟨[.junk, .junk, .junk, .junk, .ptr 0 0, .ptr 1 0, .junk, .junk, .junk, .junk, .junk], [.box ((enT y).map .imm), .box [.ref 2 1 0 N, .imm (.int .i64 d')], .arr 1 st'], none⟩)
        | none => (.ret, ⟨[.junk, .junk, .imm (.bool false), .junk, .ptr 0 0, .ptr 1 0, .junk, .junk, .junk, .junk, .junk], [.box ((enT y).map .imm), .box [.ref 2 1 0 N, .imm (.int .i64 d2)], .arr 1 st'], none⟩))
  | [], x, lw, hg, A, d, i, hA, hs, hx, hlw, hhg, el, eh => by
    have : x = [] := List.eq_nil_of_length_eq_zero (by simpa using hx)
    subst this
    have hd := drop_n hs
    refine ⟨A.map ic, 0, ?_⟩
    rw [rnd_eq]
    simp only [go_sem, Nat.reduceAdd, Nat.reduceSub, Nat.reduceMul, Nat.reduceDiv, Nat.reduceMod, Nat.reduceLeDiff, Nat.reduceBEq, Int.reduceToNat, Int.reduceLT, Int.reduceLE, Int.reduceEq, hN, lt_f (show N ≤ i by omega), rrg]
  | s :: r, x, lw, hg, A, d, i, hA, hs, hx, hlw, hhg, el, eh => by
    obtain ⟨h1, h2, h3⟩ := drop_c hs
    have h6 := wrpS (i := i) (by omega)
    have hlt : i < N := by omega
    have hlt' : (i : Int) < (N : Int) := by omega
    have hA' : (A.map ic).length = i := by simpa using hA
    match x, lw, hg, hx, el, eh, hlw, hhg with
    | x0 :: x, l0 :: lw, g0 :: hg, hx, el, eh, hlw, hhg =>
      obtain ⟨l1, l2, l3⟩ := drop_c hlw
      obtain ⟨g1, g2, g3⟩ := drop_c hhg
      by_cases h0 : rrX x0 l0 g0 = 0
      · obtain ⟨st', d2, IH⟩ := l56_1 (lo := lo) (y := y) hN hb r x lw hg (A ++ [rrX x0 l0 g0]) (rrC d l0 g0 s) (i + 1) (by simp [hA]) h3 (by simpa using hx) l3 g3 (by simpa using el) (by simpa using eh)
        refine ⟨st', d2, ?_⟩
        rw [rnd_eq]
        simp only [rrg, if_pos h0]
        simp only [rrX, rrC, ad, sb, ml] at IH h0 ⊢
        simp only [go_sem, Nat.reduceAdd, Nat.reduceSub, Nat.reduceMul, Nat.reduceDiv, Nat.reduceMod, Nat.reduceLeDiff, Nat.reduceBEq, Int.reduceToNat, Int.reduceLT, Int.reduceLE, Int.reduceEq, List.append_assoc] at IH
        simp only [go_sem, Nat.reduceAdd, Nat.reduceSub, Nat.reduceMul, Nat.reduceDiv, Nat.reduceMod, Nat.reduceLeDiff, Nat.reduceBEq, Int.reduceToNat, Int.reduceLT, Int.reduceLE, Int.reduceEq, hN, lt_t hlt, h1, l1, g1, hlt', Int.natCast_nonneg, Nat.mul_one, Nat.div_one, Nat.mod_one, getA hA', setA hA', h6, h0, ne_eq, not_true_eq_false]
        simp only [h0] at IH
        exact IH
      · refine ⟨A.map ic ++ (rrX x0 l0 g0 :: x).map ic, rrC d l0 g0 s, ?_⟩
        rw [rnd_eq]
        simp only [rrg, if_neg h0]
        simp only [rrX, rrC, ad, sb, ml] at h0 ⊢
        simp only [go_sem, Nat.reduceAdd, Nat.reduceSub, Nat.reduceMul, Nat.reduceDiv, Nat.reduceMod, Nat.reduceLeDiff, Nat.reduceBEq, Int.reduceToNat, Int.reduceLT, Int.reduceLE, Int.reduceEq, hN, lt_t hlt, h1, l1, g1, hlt', Int.natCast_nonneg, Nat.mul_one, Nat.div_one, Nat.mod_one, getA hA', setA hA', h6, h0, ne_eq, not_false_eq_true]
def rleft (y : Stp) (c : Cl) : Ln := rlft (rpl y.goal ⟨false, List.replicate c.sp.length 0, 0⟩ c.go) c.gv y.gv
theorem rlft_len {N : Nat} : ∀ (gs : List Ln) (ks : List Int) (x : Ln), x.co.length = N → (∀ g ∈ gs, g.co.length = N) → (rlft x gs ks).co.length = N
  | [], ks, x, hx, _ => by cases ks <;> simpa [rlft] using hx
  | g :: gs, [], x, hx, _ => by simpa [rlft] using hx
  | g :: gs, k :: ks, x, hx, hg => by
    simp only [rlft]
    refine rlft_len gs ks _ ?_ fun a ha => hg a (by simp [ha])
    simp only [rpl, List.length_zipWith, hx, hg g (by simp)]; simp
def rright (y : Stp) (c : Cl) : Bool := match rrg (rleft y c).co y.lw y.hg c.sp (rleft y c).c with | some d => decide (sb 0 y.goal < d) | none => false
theorem ok56 (n : Nat) (y : Stp) (c : Cl) (hc : c.Even) (hy : c.gv.length ≤ y.gv.length) (hl : y.lw.length = c.sp.length) (hh : y.hg.length = c.sp.length) : callP (level E (n+2)) 56 [.agg (enC c), .agg (enT y)] = some (.bool (rright y c)) := by
  have hb := hc.fit.sp
  have hz0 : (rpl y.goal ⟨false, List.replicate c.sp.length 0, 0⟩ c.go).co.length = c.sp.length := by simp only [rpl, List.length_zipWith, hc.go]; simp
  have hll : (rleft y c).co.length = c.sp.length := rlft_len c.gv y.gv _ hz0 hc.gv
  obtain ⟨N, hN⟩ : ∃ N, N = c.sp.length := ⟨_, rfl⟩
  have h53 := ok53 n c.sp.length hb
  have h55 := ok55I n ⟨false, List.replicate c.sp.length 0, 0⟩ c.go y.goal (by simp [hc.go]) (by simpa using hb)
  have h0 := l56_0 (n := n) (c := c) (y := y) hc c.gv y.gv (rpl y.goal ⟨false, List.replicate c.sp.length 0, 0⟩ c.go) 0 rfl rfl hy rfl hz0
  obtain ⟨st', d2, h1⟩ := l56_1 (lo := level E (n+1)) (c := c) (y := y) hN.symm (by omega) c.sp (rleft y c).co y.lw y.hg [] (rleft y c).c 0 rfl rfl hll rfl rfl hl hh
  have er : rlft (rpl y.goal ⟨false, List.replicate c.sp.length 0, 0⟩ c.go) c.gv y.gv = rleft y c := rfl
  rw [er] at h0
  rw [cast0] at h0 h1
  rw [p56]
  unfold rright
  generalize rpl y.goal ⟨false, List.replicate c.sp.length 0, 0⟩ c.go = w at h55 hz0 h0
  generalize rleft y c = z at h0 h1 hll
  obtain ⟨wn, wc, wd⟩ := w
  obtain ⟨zn, zc, zd⟩ := z
  simp only at hz0 hll
  by_cases hsp : c.sp = []
  · rw [hsp] at hz0 hll
    have e1 : wc = [] := List.eq_nil_of_length_eq_zero hz0
    have e2 : zc = [] := List.eq_nil_of_length_eq_zero hll
    subst e1; subst e2
    simp only [go_sem, Nat.reduceAdd, Nat.reduceSub, Nat.reduceMul, Nat.reduceDiv, Nat.reduceMod, Nat.reduceLeDiff, Nat.reduceBEq, Int.reduceToNat, Int.reduceLT, Int.reduceLE, Int.reduceEq, hsp, vK, oK, slD_f, slD_nil] at h53 h55 h0
    have u := rnd_eq (aCode (level E (n+1)) ⟨0, false⟩ b56_1)
    simp only [go_sem, Nat.reduceAdd, Nat.reduceSub, Nat.reduceMul, Nat.reduceDiv, Nat.reduceMod, Nat.reduceLeDiff, Nat.reduceBEq, Int.reduceToNat, Int.reduceLT, Int.reduceLE, Int.reduceEq, sg_slD, hsp, h53, h55, h0, u, Int.lt_irrefl, rrg, sb] <;> rfl
  · have hpos : c.sp.length ≠ 0 := fun h => hsp (List.eq_nil_of_length_eq_zero h)
    cases wc with
    | nil => simp at hz0; omega
    | cons w1 wc =>
      cases zc with
      | nil => simp at hll; omega
      | cons z1 zc =>
        have e3 : wc.length + 1 = N := by simp at hz0; omega
        have e4 : zc.length + 1 = N := by simp at hll; omega
        simp only [go_sem, Nat.reduceAdd, Nat.reduceSub, Nat.reduceMul, Nat.reduceDiv, Nat.reduceMod, Nat.reduceLeDiff, Nat.reduceBEq, Int.reduceToNat, Int.reduceLT, Int.reduceLE, Int.reduceEq, ← hN, vK, oK, slD_f, e3, e4] at h53 h55 h0
        simp only [go_sem, Nat.reduceAdd, Nat.reduceSub, Nat.reduceMul, Nat.reduceDiv, Nat.reduceMod, Nat.reduceLeDiff, Nat.reduceBEq, Int.reduceToNat, Int.reduceLT, Int.reduceLE, Int.reduceEq] at h1
        cases hr : rrg (z1 :: zc) y.lw y.hg c.sp zd with
        | none =>
          simp only [hr] at h1
          simp only [go_sem, Nat.reduceAdd, Nat.reduceSub, Nat.reduceMul, Nat.reduceDiv, Nat.reduceMod, Nat.reduceLeDiff, Nat.reduceBEq, Int.reduceToNat, Int.reduceLT, Int.reduceLE, Int.reduceEq, sg_slD, ← hN, h53, h55, h0, h1] <;> rfl
        | some d =>
          simp only [hr] at h1
          simp only [go_sem, Nat.reduceAdd, Nat.reduceSub, Nat.reduceMul, Nat.reduceDiv, Nat.reduceMod, Nat.reduceLeDiff, Nat.reduceBEq, Int.reduceToNat, Int.reduceLT, Int.reduceLE, Int.reduceEq, sg_slD, ← hN, h53, h55, h0, h1, sb] <;> rfl
end Go.Vm.P12

/- Chapter 12, the reference's functions: the direct leaf. -/
set_option maxRecDepth 100000
namespace Go.Vm.P12
open Go Go.Vm
def mxl (n : Int) : Int := max n 0
def mxh (n : Int) : Int := max (sb 0 n) 0
theorem l54 {lo : Lower} {c : Cl} {l : Ln} {goal : Int} {G N : Nat} {gs : List (List D)} (hN : c.sp.length = N) (hb : N < 1000000000) : ∀ (r A : List Int) (i : Nat), A.length = i → l.co.drop i = r → i + r.length = N →
    outC ⟨0, false⟩ [0, 0, 0, 0, 0, 1, 0, 0, 1, 0, 0, 0] (rnd (aCode lo ⟨0, false⟩ b54_0) (head ⟨0, false⟩ [0, 0, 0, 0, 0, 1, 1, 1, 1, 1, 0, 0])
      ⟨[.junk, .junk, .junk, .junk, .junk, .ptr 0 0, .ptr 1 0, .ptr 2 0, .ptr 3 0, .imm (.int .i64 i), .junk, .junk],
        [.box [.imm (.bool false), .imm (.int .i64 0), .imm .nil, .imm .nil, .imm .nil, .imm (.int .i64 0), .imm (.int .i64 0), .imm (.int .i64 0), .imm (.int .i64 0)], .box ((enC c).map .imm), .box ((enL l).map .imm),
         .box [.imm (.bool true), .imm (.int .i64 goal), .ref 4 1 0 G, .ref 5 1 0 N, .ref 6 1 0 N, .imm (.int .i64 0), .imm (.int .i64 0), .imm (.int .i64 0), .imm (.int .i64 0)], .arr 1 gs,
         .arr 1 ((A.map mxl).map ic ++ r.map fun _ => ic 0), .arr 1 ((A.map mxh).map ic ++ r.map fun _ => ic 0)], none⟩) =
      some (.exit 0, ⟨[.junk, .junk, .junk, .junk, .junk, .ptr 0 0, .junk, .junk, .ptr 1 0, .junk, .junk, .junk],
        [.box [.imm (.bool false), .imm (.int .i64 0), .imm .nil, .imm .nil, .imm .nil, .imm (.int .i64 0), .imm (.int .i64 0), .imm (.int .i64 0), .imm (.int .i64 0)],
         .box [.imm (.bool true), .imm (.int .i64 goal), .ref 2 1 0 G, .ref 3 1 0 N, .ref 4 1 0 N, .imm (.int .i64 0), .imm (.int .i64 0), .imm (.int .i64 0), .imm (.int .i64 0)], .arr 1 gs,
         .arr 1 (((A ++ r).map mxl).map ic), .arr 1 (((A ++ r).map mxh).map ic)], none⟩)
  | [], A, i, hA, hr, hi => by
    rw [rnd_eq]
    simp only [go_sem, Nat.reduceAdd, Nat.reduceSub, Nat.reduceMul, Nat.reduceDiv, Nat.reduceMod, Nat.reduceLeDiff, Nat.reduceBEq, Int.reduceToNat, Int.reduceLT, Int.reduceLE, Int.reduceEq, hN, lt_f (show N ≤ i by simp at hi; omega)]
  | x :: r, A, i, hA, hr, hi => by
    obtain ⟨h1, h2, h3⟩ := drop_c hr
    have h6 := wrpS (i := i) (by simp at hi; omega)
    have hlt : i < N := by simp at hi; omega
    have hlt' : (i : Int) < (N : Int) := by omega
    have hA1 : ((A.map mxl).map ic).length = i := by simpa using hA
    have hA2 : ((A.map mxh).map ic).length = i := by simpa using hA
    have IH := l54 (lo := lo) (l := l) (goal := goal) (G := G) (gs := gs) hN hb r (A ++ [x]) (i + 1) (by simp [hA]) h3 (by simp at hi; omega)
    rw [rnd_eq]
    simp only [go_sem, Nat.reduceAdd, Nat.reduceSub, Nat.reduceMul, Nat.reduceDiv, Nat.reduceMod, Nat.reduceLeDiff, Nat.reduceBEq, Int.reduceToNat, Int.reduceLT, Int.reduceLE, Int.reduceEq, List.append_assoc, mxl, mxh, sb] at IH
    simp only [go_sem, Nat.reduceAdd, Nat.reduceSub, Nat.reduceMul, Nat.reduceDiv, Nat.reduceMod, Nat.reduceLeDiff, Nat.reduceBEq, Int.reduceToNat, Int.reduceLT, Int.reduceLE, Int.reduceEq, hN, lt_t hlt, h1, hlt', Int.natCast_nonneg, Nat.mul_one, Nat.div_one, Nat.mod_one, h6, getA hA1, getA hA2, setA hA1, setA hA2, mxl, mxh, sb]
    exact IH
def rleaf (goal : Int) (g : List Int) (l : Ln) : Stp := ⟨true, goal, false, g, false, l.co.map mxl, false, l.co.map mxh, 0, 0, 0, 0⟩
theorem ok54 (n : Nat) (c : Cl) (hf : c.Fit) (goal : Int) (ln m : Int) (g : List Int) (l : Ln) (hl : l.co.length = c.sp.length) (hg : (ln = -1 ∧ g = List.replicate c.gv.length 0) ∨ ∃ k : Nat, ln = k ∧ k < c.gv.length ∧ g = (List.replicate c.gv.length 0).set k m) :
    callP (level E (n+1)) 54 [.agg (enC c), .int .i64 goal, .int .i64 ln, .int .i64 m, .agg (enL l)] = some (.agg (enT (rleaf goal g l))) := by
  obtain ⟨N, hN⟩ : ∃ N, N = c.sp.length := ⟨_, rfl⟩
  obtain ⟨G, hG⟩ : ∃ G, G = c.gv.length := ⟨_, rfl⟩
  have hb : N < 1000000000 := by have := hf.sp; omega
  have hb2 : G < 1000000000 := by have := hf.gv; omega
  have hgl : g.length = G := by
    rcases hg with ⟨_, h⟩ | ⟨k, _, _, h⟩
    · rw [h]; simp [hG]
    · rw [h]; simp [hG]
  have hlp := l54 (lo := level E n) (c := c) (l := l) (goal := goal) (G := G) (N := N) (gs := g.map ic) hN.symm hb l.co [] 0 rfl rfl (by omega)
  rw [cast0] at hlp
  have b1 : ((8 : Nat) : Int) * (N : Int) ≤ 70368744177664 := by omega
  have b2 : (N : Int) ≤ 70368744177664 := by omega
  have b3 : ((8 : Nat) : Int) * (G : Int) ≤ 70368744177664 := by omega
  have b4 : (G : Int) ≤ 70368744177664 := by omega
  have e0 : (l.co.map fun _ => ic 0) = List.replicate N [.int .i64 0] := by
    rw [List.map_const', hl, hN]; rfl
  have e1 : (g.map ic).take G = g.map ic := take_self (by simpa using hgl)
  have e2 : G ≤ g.length := by omega
  have e3 : ((l.co.map mxl).map ic).take N = (l.co.map mxl).map ic := take_self (by simp; omega)
  have e4 : ((l.co.map mxh).map ic).take N = (l.co.map mxh).map ic := take_self (by simp; omega)
  have e5 : N ≤ l.co.length := by omega
  have e6 : List.replicate N [D.int .i64 0] = l.co.map fun _ => [D.int .i64 0] := e0.symm
  rw [p54]
  rcases hg with ⟨rfl, hg⟩ | ⟨k, rfl, hk, hg⟩
  · have n1 : ¬ (0 : Int) ≤ -1 := by decide
    rw [← hG] at hg
    have e7 : List.replicate G [D.int .i64 0] = g.map ic := by rw [hg, repic]
    simp only [go_sem, Nat.reduceAdd, Nat.reduceSub, Nat.reduceMul, Nat.reduceDiv, Nat.reduceMod, Nat.reduceLeDiff, Nat.reduceBEq, Int.reduceToNat, Int.reduceLT, Int.reduceLE, Int.reduceEq] at hlp
    simp only [go_sem, Nat.reduceAdd, Nat.reduceSub, Nat.reduceMul, Nat.reduceDiv, Nat.reduceMod, Nat.reduceLeDiff, Nat.reduceBEq, Int.reduceToNat, Int.reduceLT, Int.reduceLE, Int.reduceEq, sg_slD, ← hG, ← hN, b1, b2, b3, b4, Int.natCast_nonneg, e6, e7, n1, hlp, e1, e2, e3, e4, e5, rleaf, slD_f]
  · have n1 : (0 : Int) ≤ (k : Int) := Int.natCast_nonneg k
    have n2 : (k : Int) < (G : Int) := by omega
    rw [← hG] at hg
    have e7 : (List.replicate G [D.int .i64 0])[k]? = some [.int .i64 0] := by rw [List.getElem?_replicate, if_pos (by omega)]
    have e8 : (List.replicate G [D.int .i64 0]).set k [.int .i64 m] = g.map ic := by rw [hg, repic, List.map_set]; rfl
    simp only [go_sem, Nat.reduceAdd, Nat.reduceSub, Nat.reduceMul, Nat.reduceDiv, Nat.reduceMod, Nat.reduceLeDiff, Nat.reduceBEq, Int.reduceToNat, Int.reduceLT, Int.reduceLE, Int.reduceEq] at hlp
    simp only [go_sem, Nat.reduceAdd, Nat.reduceSub, Nat.reduceMul, Nat.reduceDiv, Nat.reduceMod, Nat.reduceLeDiff, Nat.reduceBEq, Int.reduceToNat, Int.reduceLT, Int.reduceLE, Int.reduceEq, sg_slD, ← hG, ← hN, b1, b2, b3, b4, Int.natCast_nonneg, Nat.mul_one, Nat.div_one, Nat.mod_one, e6, e7, e8, n1, n2, hlp, e1, e2, e3, e4, e5, rleaf, slD_f]
def zLn (c : Cl) : Ln := ⟨false, List.replicate c.sp.length 0, 0⟩
def rlA (c : Cl) (i : Nat) (g : Ln) : Stp := rleaf 0 ((List.replicate c.gv.length 0).set i 1) (rpl (-1) (zLn c) g)
def rlB (c : Cl) : Stp := rleaf 1 (List.replicate c.gv.length 0) c.go
def rlC (c : Cl) (i : Nat) (g : Ln) (m : Nat) : Stp := rleaf 1 ((List.replicate c.gv.length 0).set i (m : Int)) (rpl (sb 0 m) c.go g)
def rlAs (c : Cl) : Nat → List Ln → List Stp
  | _, [] => []
  | i, g :: gs => rlA c i g :: rlAs c (i + 1) gs
def rlCm (c : Cl) (i : Nat) (g : Ln) (m : Nat) : Nat → List Stp
  | 0 => []
  | k + 1 => rlC c i g m :: rlCm c i g (m + 1) k
def rlCs (c : Cl) : Nat → List Ln → List Stp
  | _, [] => []
  | i, g :: gs => rlCm c i g 1 4 ++ rlCs c (i + 1) gs
def zBox : AO := .box [.imm (.bool false), .imm (.int .i64 0), .imm .nil, .imm .nil, .imm .nil, .imm (.int .i64 0), .imm (.int .i64 0), .imm (.int .i64 0), .imm (.int .i64 0)]
attribute [go_sem] zBox
theorem right_leaf (n : Nat) {c : Cl} (hc : c.Even) {goal : Int} {g : List Int} {l : Ln} (hg : g.length = c.gv.length) (hl : l.co.length = c.sp.length) : callP (level E (n+2)) 56 [.agg (enC c), .agg (enT (rleaf goal g l))] = some (.bool (rright (rleaf goal g l) c)) :=
  ok56 n _ c hc (by simp [rleaf, hg]) (by simp [rleaf, hl]) (by simp [rleaf, hl])
theorem l13_0 {n : Nat} {c : Cl} (hc : c.Even) : ∀ (r : List Ln) (i : Nat), c.gv.drop i = r →
    outC ⟨0, false⟩ [0, 1, 1, 1, 0, 0, 0, 0, 0, 0, 0, 0, 0, 0, 0, 0, 0] (rnd (aCode (level E (n+2)) ⟨0, false⟩ b13_0) (head ⟨0, false⟩ [0, 1, 0, 1, 1, 1, 0, 0, 0, 0, 0, 0, 0, 0, 0, 0, 0])
      ⟨[.junk, .ptr 0 0, .junk, .ptr 1 0, .ptr 2 0, .imm (.int .i64 i), .junk, .junk, .junk, .junk, .junk, .junk, .junk, .junk, .junk, .junk, .junk], [zBox, .box ((enC c).map .imm), .box ((enL (zLn c)).map .imm)], none⟩) =
      some (match (rlAs c i r).find? (fun s => rright s c) with
        | some s => (.ret, ⟨[.junk, .ptr 0 0, .imm (.bool true), .ptr 1 0, .junk, .junk, .junk, .junk, .junk, .junk, .junk, .junk, .junk, .junk, .junk, .junk, .junk], [.box ((enT s).map .imm), .box ((enC c).map .imm)], none⟩)
        | none => (.exit 0, ⟨[.junk, .ptr 0 0, .junk, .ptr 1 0, .junk, .junk, .junk, .junk, .junk, .junk, .junk, .junk, .junk, .junk, .junk, .junk, .junk], [zBox, .box ((enC c).map .imm)], none⟩))
  | [], i, hr => by
    rw [rnd_eq]
    simp only [go_sem, Nat.reduceAdd, Nat.reduceSub, Nat.reduceMul, Nat.reduceDiv, Nat.reduceMod, Nat.reduceLeDiff, Nat.reduceBEq, Int.reduceToNat, Int.reduceLT, Int.reduceLE, Int.reduceEq, lt_f (drop_n hr), rlAs, List.find?_nil]
  | g :: r, i, hr => by
    obtain ⟨h1, h2, h3⟩ := drop_c hr
    have hg := hc.gv g (List.mem_of_getElem? h1)
    have hb := hc.fit.sp
    have hb2 := hc.fit.gv
    have h6 := wrpS (i := i) (by omega)
    have hz : (rpl (-1) (zLn c) g).co.length = c.sp.length := by simp only [rpl, zLn, List.length_zipWith, hg]; simp
    have h55 := ok55 (n+1) (zLn c) g (-1) (by simp [zLn, hg]) (by simpa [zLn] using hb)
    have h54 := ok54 (n+1) c hc.fit 0 i 1 _ (rpl (-1) (zLn c) g) hz (.inr ⟨i, rfl, h2, rfl⟩)
    have h56 := right_leaf n hc (goal := 0) (g := (List.replicate c.gv.length 0).set i 1) (l := rpl (-1) (zLn c) g) (by simp) hz
    have IH := l13_0 (n := n) hc r (i + 1) h3
    rw [← rlA] at h54 h56
    rw [rnd_eq]
    have e55 : callP (level E (n+2)) 55 [.agg (enL (zLn c)), .agg (enL g), .int .i64 (-1)] = some (.agg (enL (rpl (-1) (zLn c) g))) := h55
    simp only [go_sem, Nat.reduceAdd, Nat.reduceSub, Nat.reduceMul, Nat.reduceDiv, Nat.reduceMod, Nat.reduceLeDiff, Nat.reduceBEq, Int.reduceToNat, Int.reduceLT, Int.reduceLE, Int.reduceEq] at e55 h54 h56 IH
    cases hp : rright (rlA c i g) c <;> rw [hp] at h56 <;> simp only [go_sem, Nat.reduceAdd, Nat.reduceSub, Nat.reduceMul, Nat.reduceDiv, Nat.reduceMod, Nat.reduceLeDiff, Nat.reduceBEq, Int.reduceToNat, Int.reduceLT, Int.reduceLE, Int.reduceEq, lt_t h2, h1, e55, h54, h56, h6, rlAs, List.find?_cons, hp, sg_slD]
    exact IH
theorem l13_1 {n : Nat} {c : Cl} (hc : c.Even) {i : Nat} {g : Ln} (hi : c.gv[i]? = some g) : ∀ (k : Nat) (m : Nat), m + k = 5 →
    outC ⟨0, false⟩ [0, 1, 1, 1, 0, 0, 0, 0, 1, 0, 0, 0, 0, 0, 0, 0, 0] (rnd (aCode (level E (n+2)) ⟨0, false⟩ b13_1) (head ⟨0, false⟩ [0, 1, 0, 1, 0, 0, 0, 0, 1, 1, 0, 0, 0, 0, 0, 0, 0])
      ⟨[.junk, .ptr 0 0, .junk, .ptr 1 0, .junk, .junk, .junk, .junk, .imm (.int .i64 i), .imm (.int .i64 m), .junk, .junk, .junk, .junk, .junk, .junk, .junk], [zBox, .box ((enC c).map .imm)], none⟩) =
      some (match (rlCm c i g m k).find? (fun s => rright s c) with
        | some s => (.ret, ⟨[.junk, .ptr 0 0, .imm (.bool true), .ptr 1 0, .junk, .junk, .junk, .junk, .imm (.int .i64 i), .junk, .junk, .junk, .junk, .junk, .junk, .junk, .junk], [.box ((enT s).map .imm), .box ((enC c).map .imm)], none⟩)
        | none => (.exit 4, ⟨[.junk, .ptr 0 0, .junk, .ptr 1 0, .junk, .junk, .junk, .junk, .imm (.int .i64 i), .junk, .junk, .junk, .junk, .junk, .junk, .junk, .junk], [zBox, .box ((enC c).map .imm)], none⟩))
  | 0, m, hm => by
    have : ¬ (m : Int) ≤ 4 := by omega
    rw [rnd_eq]
    simp only [go_sem, Nat.reduceAdd, Nat.reduceSub, Nat.reduceMul, Nat.reduceDiv, Nat.reduceMod, Nat.reduceLeDiff, Nat.reduceBEq, Int.reduceToNat, Int.reduceLT, Int.reduceLE, Int.reduceEq, this, rlCm, List.find?_nil]
  | k + 1, m, hm => by
    have hle : (m : Int) ≤ 4 := by omega
    have h2 : i < c.gv.length := (List.getElem?_eq_some_iff.1 hi).1
    have hg := hc.gv g (List.mem_of_getElem? hi)
    have hb := hc.fit.sp
    have h6 := wrpS (i := m) (by omega)
    have hz : (rpl (sb 0 m) c.go g).co.length = c.sp.length := by simp only [rpl, List.length_zipWith, hg, hc.go]; simp
    have h55 := ok55 (n+1) c.go g (sb 0 m) (by rw [hc.go, hg]) (by rw [hc.go]; exact hb)
    have h54 := ok54 (n+1) c hc.fit 1 i m _ (rpl (sb 0 m) c.go g) hz (.inr ⟨i, rfl, h2, rfl⟩)
    have h56 := right_leaf n hc (goal := 1) (g := (List.replicate c.gv.length 0).set i (m : Int)) (l := rpl (sb 0 m) c.go g) (by simp) hz
    have IH := l13_1 (n := n) hc hi k (m + 1) (by omega)
    rw [← rlC] at h54 h56
    rw [rnd_eq]
    have e55 : callP (level E (n+2)) 55 [.agg (enL c.go), .agg (enL g), .int .i64 (sb 0 m)] = some (.agg (enL (rpl (sb 0 m) c.go g))) := h55
    simp only [go_sem, Nat.reduceAdd, Nat.reduceSub, Nat.reduceMul, Nat.reduceDiv, Nat.reduceMod, Nat.reduceLeDiff, Nat.reduceBEq, Int.reduceToNat, Int.reduceLT, Int.reduceLE, Int.reduceEq] at e55 h54 h56 IH
    have esb : wrp .i64 (0 - (m : Int)) = sb 0 m := rfl
    cases hp : rright (rlC c i g m) c <;> rw [hp] at h56 <;> simp only [go_sem, Nat.reduceAdd, Nat.reduceSub, Nat.reduceMul, Nat.reduceDiv, Nat.reduceMod, Nat.reduceLeDiff, Nat.reduceBEq, Int.reduceToNat, Int.reduceLT, Int.reduceLE, Int.reduceEq, hle, hi, esb, e55, h54, h56, h6, rlCm, List.find?_cons, hp, sg_slD]
    exact IH
theorem l13_2 {n : Nat} {c : Cl} (hc : c.Even) : ∀ (r : List Ln) (i : Nat), c.gv.drop i = r →
    outC ⟨0, false⟩ [0, 1, 1, 0, 0, 0, 0, 0, 0, 0, 0, 0, 0, 0, 0, 0, 0] (rnd (aCode (level E (n+2)) ⟨0, false⟩ b13_2) (head ⟨0, false⟩ [0, 1, 0, 1, 0, 0, 0, 0, 1, 0, 0, 0, 0, 0, 0, 0, 0])
      ⟨[.junk, .ptr 0 0, .junk, .ptr 1 0, .junk, .junk, .junk, .junk, .imm (.int .i64 i), .junk, .junk, .junk, .junk, .junk, .junk, .junk, .junk], [zBox, .box ((enC c).map .imm)], none⟩) =
      some (match (rlCs c i r).find? (fun s => rright s c) with
        | some s => (.ret, ⟨[.junk, .ptr 0 0, .imm (.bool true), .junk, .junk, .junk, .junk, .junk, .junk, .junk, .junk, .junk, .junk, .junk, .junk, .junk, .junk], [.box ((enT s).map .imm)], none⟩)
        | none => (.exit 2, ⟨[.junk, .ptr 0 0, .junk, .junk, .junk, .junk, .junk, .junk, .junk, .junk, .junk, .junk, .junk, .junk, .junk, .junk, .junk], [zBox], none⟩))
  | [], i, hr => by
    rw [rnd_eq]
    simp only [go_sem, Nat.reduceAdd, Nat.reduceSub, Nat.reduceMul, Nat.reduceDiv, Nat.reduceMod, Nat.reduceLeDiff, Nat.reduceBEq, Int.reduceToNat, Int.reduceLT, Int.reduceLE, Int.reduceEq, lt_f (drop_n hr), rlCs, List.find?_nil]
  | g :: r, i, hr => by
    obtain ⟨h1, h2, h3⟩ := drop_c hr
    have hb2 := hc.fit.gv
    have h6 := wrpS (i := i) (by omega)
    have hm := l13_1 (n := n) hc h1 4 1 rfl
    have IH := l13_2 (n := n) hc r (i + 1) h3
    rw [rnd_eq]
    simp only [go_sem, Nat.reduceAdd, Nat.reduceSub, Nat.reduceMul, Nat.reduceDiv, Nat.reduceMod, Nat.reduceLeDiff, Nat.reduceBEq, Int.reduceToNat, Int.reduceLT, Int.reduceLE, Int.reduceEq, show ((1 : Nat) : Int) = 1 from rfl] at hm IH
    simp only [go_sem, Nat.reduceAdd, Nat.reduceSub, Nat.reduceMul, Nat.reduceDiv, Nat.reduceMod, Nat.reduceLeDiff, Nat.reduceBEq, Int.reduceToNat, Int.reduceLT, Int.reduceLE, Int.reduceEq, lt_t h2, hm, rlCs, find_app]
    cases hf : (rlCm c i g 1 4).find? (fun s => rright s c)
    · simp only [go_sem, Nat.reduceAdd, Nat.reduceSub, Nat.reduceMul, Nat.reduceDiv, Nat.reduceMod, Nat.reduceLeDiff, Nat.reduceBEq, Int.reduceToNat, Int.reduceLT, Int.reduceLE, Int.reduceEq, h6]
      exact IH
    · simp only [go_sem, Nat.reduceAdd, Nat.reduceSub, Nat.reduceMul, Nat.reduceDiv, Nat.reduceMod, Nat.reduceLeDiff, Nat.reduceBEq, Int.reduceToNat, Int.reduceLT, Int.reduceLE, Int.reduceEq]
def rleaves (c : Cl) : List Stp := rlAs c 0 c.gv ++ (rlB c :: rlCs c 0 c.gv)
def rdir (c : Cl) : Option Stp := (rleaves c).find? fun s => rright s c
def rdirD (c : Cl) : D := match rdir c with | some s => .tup [.agg (enT s), .bool true] | none => .tup [.agg (enT zSt), .bool false]
theorem ok13 (n : Nat) (c : Cl) (hc : c.Even) : callP (level E (n+3)) 13 [.agg (enC c)] = some (rdirD c) := by
  have hb := hc.fit.sp
  have h53 := ok53 (n+1) c.sp.length hb
  have h0 := l13_0 (n := n) hc c.gv 0 rfl
  have h54 := ok54 (n+1) c hc.fit 1 (-1) 0 _ c.go hc.go (.inl ⟨rfl, rfl⟩)
  have h56 := right_leaf n hc (goal := 1) (g := List.replicate c.gv.length 0) (l := c.go) (by simp) hc.go
  have h2 := l13_2 (n := n) hc c.gv 0 rfl
  rw [← rlB] at h54 h56
  rw [cast0] at h0 h2
  rw [p13]
  unfold rdirD rdir rleaves
  rw [find_app]
  simp only [go_sem, Nat.reduceAdd, Nat.reduceSub, Nat.reduceMul, Nat.reduceDiv, Nat.reduceMod, Nat.reduceLeDiff, Nat.reduceBEq, Int.reduceToNat, Int.reduceLT, Int.reduceLE, Int.reduceEq, zLn] at h0
  simp only [go_sem, Nat.reduceAdd, Nat.reduceSub, Nat.reduceMul, Nat.reduceDiv, Nat.reduceMod, Nat.reduceLeDiff, Nat.reduceBEq, Int.reduceToNat, Int.reduceLT, Int.reduceLE, Int.reduceEq] at h54 h56 h2
  simp only [go_sem, Nat.reduceAdd, Nat.reduceSub, Nat.reduceMul, Nat.reduceDiv, Nat.reduceMod, Nat.reduceLeDiff, Nat.reduceBEq, Int.reduceToNat, Int.reduceLT, Int.reduceLE, Int.reduceEq, sg_slD, h53, h0]
  cases hf : (rlAs c 0 c.gv).find? (fun s => rright s c) with
  | some s => simp only [go_sem, Nat.reduceAdd, Nat.reduceSub, Nat.reduceMul, Nat.reduceDiv, Nat.reduceMod, Nat.reduceLeDiff, Nat.reduceBEq, Int.reduceToNat, Int.reduceLT, Int.reduceLE, Int.reduceEq]
  | none =>
    simp only [List.find?_cons]
    cases hp : rright (rlB c) c <;> rw [hp] at h56 <;> simp only [go_sem, Nat.reduceAdd, Nat.reduceSub, Nat.reduceMul, Nat.reduceDiv, Nat.reduceMod, Nat.reduceLeDiff, Nat.reduceBEq, Int.reduceToNat, Int.reduceLT, Int.reduceLE, Int.reduceEq, sg_slD, h54, h56, h2]
    cases hf2 : (rlCs c 0 c.gv).find? (fun s => rright s c) <;> simp only [go_sem, Nat.reduceAdd, Nat.reduceSub, Nat.reduceMul, Nat.reduceDiv, Nat.reduceMod, Nat.reduceLeDiff, Nat.reduceBEq, Int.reduceToNat, Int.reduceLT, Int.reduceLE, Int.reduceEq, zSt, slD_nil]
end Go.Vm.P12

/- Evaluating: calls that share blocks; copies. -/
namespace Go.Vm
open Go
section
variable {lo : Lower} {env vars vs : List AV} {st st2 : List AO} {ext : Option Ext} {f : FuncId} {l : List Nat} {n i j m : Nat} {v : AV} {p q : List AV}
def bkM (l : List Nat) (n : Nat) (j : Nat) : Option Nat := if j < l.length then l[j]? else some (n + (j - l.length))
def bk2 (l : List Nat) (n j : Nat) (b : Bool) : Option Nat := match b with | true => l[j]? | false => some (n + (j - l.length))
theorem bk_eq : bkM l n j = bk2 l n j (decide (j < l.length)) := by
  simp only [bkM, bk2]
  by_cases h : j < l.length <;> simp [h]
theorem bk_t : bk2 l n j true = l[j]? := id rfl
theorem bk_f : bk2 l n j false = some (n + (j - l.length)) := id rfl
def siC (m : Nat → Option Nat) (st2 st : List AO) (i : Nat) (o : Option Nat) : AO := match o with | some j => renO m (st2.getD j .dead) | none => st.getD i .dead
theorem si_some {m : Nat → Option Nat} : siC m st2 st i (some j) = renO m (st2.getD j .dead) := id rfl
theorem si_none {m : Nat → Option Nat} : siC m st2 st i none = st.getD i .dead := id rfl
def cuC (vars : List AV) (st : List AO) (l : List Nat) (r : Option (AV × List AO)) : Option (AV × S) := match r with
  | some (v, st2) => some (ren (bkM l st.length) v, ⟨vars, (List.range st.length).map (fun i => siC (bkM l st.length) st2 st i (idx l i)) ++ (st2.drop l.length).map (renO (bkM l st.length)), none⟩)
  | none => none
theorem cu_some : cuC vars st l (some (v, st2)) = some (ren (bkM l st.length) v, ⟨vars, (List.range st.length).map (fun i => siC (bkM l st.length) st2 st i (idx l i)) ++ (st2.drop l.length).map (renO (bkM l st.length)), none⟩) := id rfl
def csC (lo : Lower) (f : FuncId) (vars : List AV) (st : List AO) (all : List AV) (l : List Nat) (ok : Bool) : Option (AV × S) := match ok with
  | true => cuC vars st l (callS lo f (renL (idx l) all) (pickSt (idx l) l st))
  | false => none
theorem cs_true {all : List AV} : csC lo f vars st all l true = cuC vars st l (callS lo f (renL (idx l) all) (pickSt (idx l) l st)) := id rfl
def crC (lo : Lower) (vars : List AV) (st : List AO) (f : FuncId) (all : List AV) (l : List Nat) : Option (AV × S) := csC lo f vars st all l (l.all fun i => decide (i < st.length))
theorem cr_eq {all : List AV} : crC lo vars st f all l = csC lo f vars st all l (l.all fun i => decide (i < st.length)) := id rfl
def cwC (lo : Lower) (vars : List AV) (st : List AO) (vs : List AV) (r : Option (FuncId × List AV × List AV)) : Option (AV × S) := match r with
  | none => none
  | some (f, a, b) => crC lo vars st f (a ++ vs ++ b) (reach st 1000 [] (idsL (a ++ vs ++ b)))
theorem cw_some : cwC lo vars st vs (some (f, p, q)) = crC lo vars st f (p ++ vs ++ q) (reach st 1000 [] (idsL (p ++ vs ++ q))) := id rfl
theorem op_callS {fo : Opnd} {args : List Opnd} (h : (fnOf (opnd vars env fo)).isSome = true) : aOp lo vars env ⟨vars, st, none⟩ (.call .sh fo args) = cwC lo vars st (opnds vars env args) (fnOf (opnd vars env fo)) := by
  simp only [aOp, aCall]
  split
  · rename_i e; rw [e] at h; cases h
  · simp only [cwC]
    rcases fnOf (opnd vars env fo) with _ | ⟨f, a, b⟩
    · rfl
    · simp only [crC, Option.isSome_none, Bool.false_or]
      cases ha : (reach st 1000 [] (idsL (a ++ opnds vars env args ++ b))).all (fun i => decide (i < st.length))
      · simp only [Bool.not_false, if_true, csC]
      · simp only [Bool.not_true, Bool.false_eq_true, if_false, csC, cuC]
        rcases callS lo f (renL (idx (reach st 1000 [] (idsL (a ++ opnds vars env args ++ b)))) (a ++ opnds vars env args ++ b)) (pickSt (idx (reach st 1000 [] (idsL (a ++ opnds vars env args ++ b)))) (reach st 1000 [] (idsL (a ++ opnds vars env args ++ b))) st) with _ | ⟨v, st2⟩
        · rfl
        · rfl
theorem callS_go {E : Env} {n : Nat} {f : FuncId} {fn : IFn} {c : IR} {r : List RV} {vars : List AV} (h : E.fn f = some fn) (h1 : fn.body = c) (h2 : fn.res = r) (h3 : decide (fn.np < vs.length) = false) (h4 : vs ++ List.replicate (fn.nv - vs.length) .junk = vars) :
    callS (level E (n + 1)) f vs st = psC st.length (fin r (aCode (level E n) ⟨st.length, false⟩ c ⟨vars, st, none⟩)) := by
  rw [callS_eq h, run_eq h3, h1, h2, h4]
def coK (st : List AO) (vars : List AV) (ext : Option Ext) (id sz a n : Nat) (es : List (List D)) (o : Option AO) : Option (AV × S) := match o with
  | some (.arr sz1 old) => if sz1 = sz ∧ a + n ≤ old.length then some (.imm (.int .i64 (min es.length n : Nat)), ⟨vars, st.set id (.arr sz (Vm.setRange old a (es.take (min es.length n)))), ext⟩) else none
  | some (.box cs) => if (a + n) * sz ≤ cs.length ∧ (es.take (min es.length n)).flatten.length = (min es.length n) * sz then some (.imm (.int .i64 (min es.length n : Nat)), ⟨vars, st.set id (.box (Vm.setRange cs (a * sz) ((es.take (min es.length n)).flatten.map .imm))), ext⟩) else none
  | _ => none
def coC (st : List AO) (vars : List AV) (ext : Option Ext) (sz : Nat) (d : AV) (r : Option (Nat × List (List D))) : Option (AV × S) := match d, r with
  | .ref id sz1 a n, some (sz2, es) => if sz1 = sz ∧ (es = [] ∨ sz2 = sz) then coK st vars ext id sz a n es st[id]? else none
  | .imm .nil, some _ => some (.imm (.int .i64 0), ⟨vars, st, ext⟩)
  | .e0 _, some _ => some (.imm (.int .i64 0), ⟨vars, st, ext⟩)
  | _, _ => none
theorem op_copy {sz : Nat} {d x : Opnd} : aOp lo vars env ⟨vars, st, ext⟩ (.copy sz d x) = coC st vars ext sz (opnd vars env d) (srcOf st (opnd vars env x)) := by
  simp only [aOp, coC]
  cases opnd vars env d with
  | ref id sz1 a n =>
    rcases srcOf st (opnd vars env x) with _ | ⟨sz2, es⟩
    · rfl
    · simp only
      by_cases h : sz1 = sz ∧ (es = [] ∨ sz2 = sz)
      · simp only [h, and_self, if_true, coK]
        rcases st[id]? with _ | o
        · rfl
        · cases o <;> rfl
      · simp only [h, if_false]
  | imm d => cases d <;> rcases srcOf st (opnd vars env x) with _ | ⟨sz2, es⟩ <;> rfl
  | _ => rcases srcOf st (opnd vars env x) with _ | ⟨sz2, es⟩ <;> rfl
theorem co_ref {id sz a : Nat} {es : List (List D)} : coC st vars ext sz (.ref id sz a n) (some (sz, es)) = coK st vars ext id sz a n es st[id]? := by simp [coC]
theorem co_ref0 {id sz a : Nat} : coC st vars ext sz (.ref id sz a n) (some (m, [])) = coK st vars ext id sz a n [] st[id]? := by simp [coC]
theorem ck_arr {id sz a : Nat} {es old : List (List D)} (h : a + n ≤ old.length) : coK st vars ext id sz a n es (some (.arr sz old)) = some (.imm (.int .i64 (min es.length n : Nat)), ⟨vars, st.set id (.arr sz (Vm.setRange old a (es.take (min es.length n)))), ext⟩) := by simp [coK, h]
theorem mf_none' {f : FuncId} {x y : List AV} {p : Option (List D)} : mfC f x y none p = .clo f x y := id rfl
end
attribute [go_sem] mf_none' bk_eq bk_t bk_f si_some si_none cu_some cs_true cr_eq cw_some op_callS op_copy co_ref co_ref0 ck_arr ps_some
end Go.Vm

/- Chapter 12, functions: the decision. -/
set_option maxRecDepth 100000
namespace Go.Vm.P12
open Go Go.Vm
structure DR where
  t : Nat
  st : List Stp
  ok : Bool
  pt : List Int
  e : Int
def shr1 (a : Int) : Int := a.fdiv 2
def splitOf (v : Nat) (b k0 k1 : Int) : Stp := ⟨false, 0, true, [], true, [], true, [], v, b, k0, k1⟩
def dec : Nat → Nat → Cl → List Stp → DR
  | 0, t, _, st => ⟨t, st, false, [], 30⟩
  | _ + 1, 0, _, st => ⟨0, st, false, [], 30⟩
  | f + 1, t + 1, c, st => match dir c with
    | some s => ⟨t, st ++ [s], true, [], 0⟩
    | none => match (wid c.sp).2 with
      | false => ⟨t, st, false, c.sp.map (·.lo), 0⟩
      | true =>
        let v := (wid c.sp).1
        let s := c.sp.getD v ⟨0, 0⟩
        let b := shr1 (ad s.lo s.hi)
        let r1 := dec f t (nar c v ⟨s.lo, b⟩) st
        match r1.ok with
        | false => ⟨r1.t, r1.st, false, r1.pt, r1.e⟩
        | true =>
          let r2 := dec f r1.t (nar c v ⟨ad b 1, s.hi⟩) r1.st
          match r2.ok with
          | false => ⟨r2.t, r2.st, false, r2.pt, r2.e⟩
          | true => ⟨r2.t, r2.st ++ [splitOf v b (sb r1.st.length 1) (sb r2.st.length 1)], true, [], 0⟩
theorem dec_inv : ∀ (f t : Nat) (c : Cl) (st : List Stp), (dec f t c st).t ≤ t ∧ (dec f t c st).st.length + (dec f t c st).t ≤ st.length + t ∧ (∃ z, (dec f t c st).st = st ++ z) ∧ ((dec f t c st).ok = true → st.length < (dec f t c st).st.length)
  | 0, t, c, st => by simp [dec]
  | f + 1, 0, c, st => by simp [dec]
  | f + 1, t + 1, c, st => by
    simp only [dec]
    cases dir c with
    | some s => simp <;> omega
    | none =>
      simp only
      cases (wid c.sp).2
      · simp <;> omega
      · simp only
        obtain ⟨a1, a2, ⟨z1, a3⟩, a4⟩ := dec_inv f t (nar c (wid c.sp).1 ⟨(c.sp.getD (wid c.sp).1 ⟨0, 0⟩).lo, shr1 (ad (c.sp.getD (wid c.sp).1 ⟨0, 0⟩).lo (c.sp.getD (wid c.sp).1 ⟨0, 0⟩).hi)⟩) st
        generalize dec f t (nar c (wid c.sp).1 ⟨(c.sp.getD (wid c.sp).1 ⟨0, 0⟩).lo, shr1 (ad (c.sp.getD (wid c.sp).1 ⟨0, 0⟩).lo (c.sp.getD (wid c.sp).1 ⟨0, 0⟩).hi)⟩) st = r1 at a1 a2 a3 a4
        cases h1 : r1.ok
        · simp only
          exact ⟨by omega, by omega, ⟨z1, a3⟩, fun h => by cases h⟩
        · simp only
          obtain ⟨b1, b2, ⟨z2, b3⟩, b4⟩ := dec_inv f r1.t (nar c (wid c.sp).1 ⟨ad (shr1 (ad (c.sp.getD (wid c.sp).1 ⟨0, 0⟩).lo (c.sp.getD (wid c.sp).1 ⟨0, 0⟩).hi)) 1, (c.sp.getD (wid c.sp).1 ⟨0, 0⟩).hi⟩) r1.st
          generalize dec f r1.t (nar c (wid c.sp).1 ⟨ad (shr1 (ad (c.sp.getD (wid c.sp).1 ⟨0, 0⟩).lo (c.sp.getD (wid c.sp).1 ⟨0, 0⟩).hi)) 1, (c.sp.getD (wid c.sp).1 ⟨0, 0⟩).hi⟩) r1.st = r2 at b1 b2 b3 b4
          cases h2 : r2.ok
          · simp only
            exact ⟨by omega, by omega, ⟨z1 ++ z2, by rw [b3, a3]; simp⟩, fun h => by cases h⟩
          · simp only [List.length_append, List.length_singleton]
            have := a4 h1
            have := b4 h2
            exact ⟨by omega, by omega, ⟨_, by rw [b3, a3, List.append_assoc, List.append_assoc]⟩, fun _ => by omega⟩
theorem wids_lt (l : List Sp) : ∀ (r : List Sp) (i : Nat) (st : Nat × Bool), l.drop i = r → (st.2 = true → st.1 < l.length) → (wids l r i st).2 = true → (wids l r i st).1 < l.length
  | [], i, st, h, hst, hw => hst hw
  | s :: r, i, st, h, hst, hw => by
    obtain ⟨h1, h2, h3⟩ := drop_c h
    refine wids_lt l r (i + 1) _ h3 ?_ hw
    split
    · intro _; exact h2
    · exact hst
theorem wid_lt {l : List Sp} (h : (wid l).2 = true) : (wid l).1 < l.length := wids_lt l l 0 _ rfl (by simp) h
theorem nar_even {c : Cl} (hc : c.Even) (v : Nat) (s : Sp) : (nar c v s).Even :=
  ⟨⟨by simpa [nar] using hc.fit.sp, hc.fit.gv, hc.fit.ln, hc.fit.go⟩, fun g hg => by rw [hc.gv g hg]; simp [nar], by rw [show (nar c v s).go = c.go from rfl, hc.go]; simp [nar]⟩
def stD (t : Nat) (st : List Stp) : List AO := match st with
  | [] => [.box [.imm (.int .i64 t), .imm .nil]]
  | _ => [.box [.imm (.int .i64 t), .ref 1 9 0 st.length], .arr 9 (st.map enT)]
def rsD (st : List Stp) (r : DR) : List AO := match st with
  | [] => stD r.t r.st
  | _ => if r.st.length = st.length then stD r.t st else [.box [.imm (.int .i64 r.t), .ref 2 9 0 r.st.length], .dead, .arr 9 (r.st.map enT)]
def rsV (r : DR) : AV := .imm (.tup [.bool r.ok, slD true 1 (r.pt.map ic), .int .i64 r.e])
theorem ok60 (n : Nat) : ∀ (f t : Nat) (c : Cl) (st : List Stp), c.Even → st.length + t < 1000000000 → t ≤ f →
    callS (level E (n + f + 9)) 60 [.ptr 0 0, .imm (.agg (enC c))] (stD t st) = some (rsV (dec f t c st), rsD st (dec f t c st))
  | 0, t, c, st, hc, hb, ht => by
    have : t = 0 := by omega
    subst this
    rw [callS_go (n := n + 0 + 8) (fn := ir60) (c := c60) (r := [.v 2, .v 3, .v 4]) rfl rfl rfl rfl rfl]
    cases st <;> simp only [go_sem, Nat.reduceAdd, Nat.reduceSub, Nat.reduceMul, Nat.reduceDiv, Nat.reduceMod, Nat.reduceLeDiff, Nat.reduceLT, Nat.reduceBEq, Int.reduceToNat, Int.reduceLT, Int.reduceLE, Int.reduceEq, stD, ir60, sg_slD, dec, rsV, rsD, slD_nil]
  | f + 1, 0, c, st, hc, hb, ht => by
    rw [callS_go (n := n + (f + 1) + 8) (fn := ir60) (c := c60) (r := [.v 2, .v 3, .v 4]) rfl rfl rfl rfl rfl]
    cases st <;> simp only [go_sem, Nat.reduceAdd, Nat.reduceSub, Nat.reduceMul, Nat.reduceDiv, Nat.reduceMod, Nat.reduceLeDiff, Nat.reduceLT, Nat.reduceBEq, Int.reduceToNat, Int.reduceLT, Int.reduceLE, Int.reduceEq, stD, ir60, sg_slD, dec, rsV, rsD, slD_nil]
  | f + 1, t + 1, c, st, hc, hb, ht => by
    have h52 : callP (level E (n + f + 9)) 52 [.agg (enC c)] = some (dirD c) := ok52 (n + f + 1) c hc
    have h84 : callP (level E (n + f + 9)) 84 [slD c.sn 2 (c.sp.map enS)] = some (.tup [.int .i64 (wid c.sp).1, .bool (wid c.sp).2]) := ok84 (n + f + 8) c.sn c.sp hc.fit.sp
    have e0 : ¬ ((t + 1 : Nat) : Int) = 0 := by omega
    have e1 : wrp .i64 (((t + 1 : Nat) : Int) - 1) = (t : Int) := by rw [wrp_ok (by omega)]; omega
    rw [show n + (f + 1) + 9 = n + f + 9 + 1 by omega, callS_go (n := n + f + 9) (fn := ir60) (c := c60) (r := [.v 2, .v 3, .v 4]) rfl rfl rfl rfl rfl]
    simp only [dec]
    unfold dirD at h52
    cases hd : dir c with
    | some s =>
      rw [hd] at h52
      simp only [go_sem, Nat.reduceAdd, Nat.reduceSub, Nat.reduceMul, Nat.reduceDiv, Nat.reduceMod, Nat.reduceLeDiff, Nat.reduceLT, Nat.reduceBEq, Int.reduceToNat, Int.reduceLT, Int.reduceLE, Int.reduceEq] at h52
      cases st with
      | nil => simp only [go_sem, Nat.reduceAdd, Nat.reduceSub, Nat.reduceMul, Nat.reduceDiv, Nat.reduceMod, Nat.reduceLeDiff, Nat.reduceLT, Nat.reduceBEq, Int.reduceToNat, Int.reduceLT, Int.reduceLE, Int.reduceEq, stD, ir60, sg_slD, e0, e1, h52, rsV, rsD, slD_nil]
      | cons a st =>
        have h5 : (st.length + 1 + 1) * 121 ≤ 70368744177664 := by simp at hb; omega
        have hne : ¬ (st.length + 1 + 1 = st.length + 1) := by omega
        simp only [go_sem, Nat.reduceAdd, Nat.reduceSub, Nat.reduceMul, Nat.reduceDiv, Nat.reduceMod, Nat.reduceLeDiff, Nat.reduceLT, Nat.reduceBEq, Int.reduceToNat, Int.reduceLT, Int.reduceLE, Int.reduceEq, stD, ir60, sg_slD, e0, e1, h52, rsV, rsD, slD_nil, h5, hne]
    | none =>
      rw [hd] at h52
      simp only [go_sem, Nat.reduceAdd, Nat.reduceSub, Nat.reduceMul, Nat.reduceDiv, Nat.reduceMod, Nat.reduceLeDiff, Nat.reduceLT, Nat.reduceBEq, Int.reduceToNat, Int.reduceLT, Int.reduceLE, Int.reduceEq, zSt, slD_nil] at h52
      cases hw : (wid c.sp).2 with
      | false =>
        rw [hw] at h84
        have h85 : callP (level E (n + f + 9)) 85 [slD c.sn 2 (c.sp.map enS), .fn 86 [] []] = some (slD true 1 ((c.sp.map (·.lo)).map ic)) := ok85 (n + f + 8) c.sn c.sp 86 [] _ (fun x _ => ok86 (n + f + 7) x) hc.fit.sp
        cases st <;> simp only [go_sem, Nat.reduceAdd, Nat.reduceSub, Nat.reduceMul, Nat.reduceDiv, Nat.reduceMod, Nat.reduceLeDiff, Nat.reduceLT, Nat.reduceBEq, Int.reduceToNat, Int.reduceLT, Int.reduceLE, Int.reduceEq, stD, ir60, sg_slD, slD_nil, e0, e1, h52, h84, h85, rsV, rsD]
      | true =>
        rw [hw] at h84
        have hv := wid_lt hw
        obtain ⟨v, hve⟩ : ∃ v, v = (wid c.sp).1 := ⟨_, rfl⟩
        rw [← hve] at h84 hv ⊢
        obtain ⟨s, hs⟩ : ∃ s, c.sp[v]? = some s := ⟨c.sp[v], List.getElem?_eq_getElem hv⟩
        have hg : c.sp.getD v ⟨0, 0⟩ = s := by rw [List.getD_eq_getElem?_getD, hs]; rfl
        rw [hg]
        have hsh : ∀ a : Int, aBin .shr (.imm (.int .i64 a)) (.imm (.int .u64 1)) = some (.imm (.int .i64 (shr1 a))) := fun a => by rw [bin_shr (by decide)]; rfl
        have had : wrp .i64 (s.lo + s.hi) = ad s.lo s.hi := rfl
        obtain ⟨b, hb0⟩ : ∃ b, b = shr1 (ad s.lo s.hi) := ⟨_, rfl⟩
        have h87 : callP (level E (n + f + 9)) 87 [.agg (enC c), .int .i64 v, .int .i64 b] = some (.agg (enC (nar c v ⟨s.lo, b⟩) ++ enC (nar c v ⟨ad b 1, s.hi⟩))) := ok87 (n + f + 6) c v s b hs hc.fit.sp
        rw [← hb0]
        obtain ⟨c0, hc0⟩ : ∃ c0, c0 = nar c v ⟨s.lo, b⟩ := ⟨_, rfl⟩
        obtain ⟨c1, hc1⟩ : ∃ c1, c1 = nar c v ⟨ad b 1, s.hi⟩ := ⟨_, rfl⟩
        have ev0 : c0.Even := hc0 ▸ nar_even hc _ _
        have ev1 : c1.Even := hc1 ▸ nar_even hc _ _
        rw [← hc0, ← hc1] at h87
        rw [← hc0, ← hc1]
        have IH1 := ok60 n f t c0 st ev0 (by omega) (by omega)
        obtain ⟨i1, i2, ⟨z1, i3⟩, i4⟩ := dec_inv f t c0 st
        generalize dec f t c0 st = r1 at IH1 i1 i2 i3 i4
        obtain ⟨t1, st1, ok1, pt1, er1⟩ := r1
        simp only at i1 i2 i3 i4
        have IH2 := ok60 n f t1 c1 st1 ev1 (by omega) (by omega)
        obtain ⟨j1, j2, ⟨z2, j3⟩, j4⟩ := dec_inv f t1 c1 st1
        generalize dec f t1 c1 st1 = r2 at IH2 j1 j2 j3 j4
        obtain ⟨t2, st2, ok2, pt2, er2⟩ := r2
        simp only at j1 j2 j3 j4
        have u := rnd_eq (aCode (level E (n + f + 9)) ⟨1, false⟩ b60_0)
        have u' := rnd_eq (aCode (level E (n + f + 9)) ⟨2, false⟩ b60_0)
        have k0 : (0 : Int) < ((2 : Nat) : Int) := by decide
        have k1 : (1 : Int) < ((2 : Nat) : Int) := by decide
        simp only [go_sem, Nat.reduceAdd, Nat.reduceSub, Nat.reduceMul, Nat.reduceDiv, Nat.reduceMod, Nat.reduceLeDiff, Nat.reduceLT, Nat.reduceBEq, Int.reduceToNat, Int.reduceLT, Int.reduceLE, Int.reduceEq] at h87
        simp only [go_sem, Nat.reduceAdd, Nat.reduceSub, Nat.reduceMul, Nat.reduceDiv, Nat.reduceMod, Nat.reduceLeDiff, Nat.reduceLT, Nat.reduceBEq, Int.reduceToNat, Int.reduceLT, Int.reduceLE, Int.reduceEq, rsV] at IH1 IH2
        cases st with
        | nil =>
          simp only [stD, rsD] at IH1
          simp only [List.length_nil] at hb i2 i4
          cases ok1
          · cases st1 with
            | nil =>
              simp only [go_sem, Nat.reduceAdd, Nat.reduceSub, Nat.reduceMul, Nat.reduceDiv, Nat.reduceMod, Nat.reduceLeDiff, Nat.reduceLT, Nat.reduceBEq, Int.reduceToNat, Int.reduceLT, Int.reduceLE, Int.reduceEq, stD] at IH1
              simp only [go_sem, Nat.reduceAdd, Nat.reduceSub, Nat.reduceMul, Nat.reduceDiv, Nat.reduceMod, Nat.reduceLeDiff, Nat.reduceLT, Nat.reduceBEq, Int.reduceToNat, Int.reduceLT, Int.reduceLE, Int.reduceEq, stD, ir60, sg_slD, slD_nil, e0, e1, h52, h84, hs, hsh, had, ← hb0, h87, u, k0, k1, IH1, rsV, rsD]
            | cons a1 st1 =>
              simp only [go_sem, Nat.reduceAdd, Nat.reduceSub, Nat.reduceMul, Nat.reduceDiv, Nat.reduceMod, Nat.reduceLeDiff, Nat.reduceLT, Nat.reduceBEq, Int.reduceToNat, Int.reduceLT, Int.reduceLE, Int.reduceEq, stD] at IH1
              simp only [go_sem, Nat.reduceAdd, Nat.reduceSub, Nat.reduceMul, Nat.reduceDiv, Nat.reduceMod, Nat.reduceLeDiff, Nat.reduceLT, Nat.reduceBEq, Int.reduceToNat, Int.reduceLT, Int.reduceLE, Int.reduceEq, stD, ir60, sg_slD, slD_nil, e0, e1, h52, h84, hs, hsh, had, ← hb0, h87, u, k0, k1, IH1, rsV, rsD]
          · cases st1 with
            | nil => simp at i4
            | cons a1 st1 =>
              simp only [go_sem, Nat.reduceAdd, Nat.reduceSub, Nat.reduceMul, Nat.reduceDiv, Nat.reduceMod, Nat.reduceLeDiff, Nat.reduceLT, Nat.reduceBEq, Int.reduceToNat, Int.reduceLT, Int.reduceLE, Int.reduceEq, stD] at IH1
              simp only [rsD] at IH2
              by_cases hl : st2.length = (a1 :: st1).length
              · have hok : ok2 = false := by
                  cases ok2
                  · rfl
                  · have := j4 rfl; omega
                subst hok
                have hz : st2 = a1 :: st1 := by
                  have : z2 = [] := by
                    have := congrArg List.length j3
                    rw [List.length_append] at this
                    exact List.length_eq_zero_iff.1 (by omega)
                  rw [j3, this, List.append_nil]
                subst hz
                simp only [if_true] at IH2
                simp only [go_sem, Nat.reduceAdd, Nat.reduceSub, Nat.reduceMul, Nat.reduceDiv, Nat.reduceMod, Nat.reduceLeDiff, Nat.reduceLT, Nat.reduceBEq, Int.reduceToNat, Int.reduceLT, Int.reduceLE, Int.reduceEq, stD] at IH2
                simp only [go_sem, Nat.reduceAdd, Nat.reduceSub, Nat.reduceMul, Nat.reduceDiv, Nat.reduceMod, Nat.reduceLeDiff, Nat.reduceLT, Nat.reduceBEq, Int.reduceToNat, Int.reduceLT, Int.reduceLE, Int.reduceEq, stD, ir60, sg_slD, slD_nil, e0, e1, h52, h84, hs, hsh, had, ← hb0, h87, u, k0, k1, IH1, IH2, rsV, rsD]
              · rw [if_neg hl] at IH2
                simp only [go_sem, Nat.reduceAdd, Nat.reduceSub, Nat.reduceMul, Nat.reduceDiv, Nat.reduceMod, Nat.reduceLeDiff, Nat.reduceLT, Nat.reduceBEq, Int.reduceToNat, Int.reduceLT, Int.reduceLE, Int.reduceEq, stD] at IH2
                have h5 : (st2.length + 1) * 121 ≤ 70368744177664 := by omega
                cases ok2
                · simp only [go_sem, Nat.reduceAdd, Nat.reduceSub, Nat.reduceMul, Nat.reduceDiv, Nat.reduceMod, Nat.reduceLeDiff, Nat.reduceLT, Nat.reduceBEq, Int.reduceToNat, Int.reduceLT, Int.reduceLE, Int.reduceEq, stD, ir60, sg_slD, slD_nil, e0, e1, h52, h84, hs, hsh, had, ← hb0, h87, u, k0, k1, IH1, IH2, rsV, rsD]
                  subst j3
                  rfl
                · simp only [go_sem, Nat.reduceAdd, Nat.reduceSub, Nat.reduceMul, Nat.reduceDiv, Nat.reduceMod, Nat.reduceLeDiff, Nat.reduceLT, Nat.reduceBEq, Int.reduceToNat, Int.reduceLT, Int.reduceLE, Int.reduceEq, stD, ir60, sg_slD, slD_nil, e0, e1, h52, h84, hs, hsh, had, ← hb0, h87, u, k0, k1, IH1, IH2, h5, rsV, rsD]
                  subst j3
                  simp [splitOf, enT, stD, sb, slD_nil]
        | cons a st =>
          by_cases hl1 : st1.length = (a :: st).length
          · have hok : ok1 = false := by
              cases ok1
              · rfl
              · have := i4 rfl; omega
            subst hok
            have hz : st1 = a :: st := by
              have : z1 = [] := by
                have := congrArg List.length i3
                rw [List.length_append] at this
                exact List.length_eq_zero_iff.1 (by omega)
              rw [i3, this, List.append_nil]
            subst hz
            simp only [rsD, if_true] at IH1
            simp only [go_sem, Nat.reduceAdd, Nat.reduceSub, Nat.reduceMul, Nat.reduceDiv, Nat.reduceMod, Nat.reduceLeDiff, Nat.reduceLT, Nat.reduceBEq, Int.reduceToNat, Int.reduceLT, Int.reduceLE, Int.reduceEq, stD] at IH1
            simp only [go_sem, Nat.reduceAdd, Nat.reduceSub, Nat.reduceMul, Nat.reduceDiv, Nat.reduceMod, Nat.reduceLeDiff, Nat.reduceLT, Nat.reduceBEq, Int.reduceToNat, Int.reduceLT, Int.reduceLE, Int.reduceEq, stD, ir60, sg_slD, slD_nil, e0, e1, h52, h84, hs, hsh, had, ← hb0, h87, u', k0, k1, IH1, rsV, rsD]
          · simp only [rsD, if_neg hl1] at IH1
            cases ok1
            · simp only [go_sem, Nat.reduceAdd, Nat.reduceSub, Nat.reduceMul, Nat.reduceDiv, Nat.reduceMod, Nat.reduceLeDiff, Nat.reduceLT, Nat.reduceBEq, Int.reduceToNat, Int.reduceLT, Int.reduceLE, Int.reduceEq, stD] at IH1
              simp only [go_sem, Nat.reduceAdd, Nat.reduceSub, Nat.reduceMul, Nat.reduceDiv, Nat.reduceMod, Nat.reduceLeDiff, Nat.reduceLT, Nat.reduceBEq, Int.reduceToNat, Int.reduceLT, Int.reduceLE, Int.reduceEq, stD, ir60, sg_slD, slD_nil, e0, e1, h52, h84, hs, hsh, had, ← hb0, h87, u', k0, k1, IH1, rsV, rsD]
              rw [if_neg (by simpa using hl1)]
            · cases st1 with
              | nil => simp at i4
              | cons a1 st1 =>
                simp only [go_sem, Nat.reduceAdd, Nat.reduceSub, Nat.reduceMul, Nat.reduceDiv, Nat.reduceMod, Nat.reduceLeDiff, Nat.reduceLT, Nat.reduceBEq, Int.reduceToNat, Int.reduceLT, Int.reduceLE, Int.reduceEq, stD] at IH1
                simp only [rsD] at IH2
                by_cases hl : st2.length = (a1 :: st1).length
                · have hok : ok2 = false := by
                    cases ok2
                    · rfl
                    · have := j4 rfl; omega
                  subst hok
                  have hz : st2 = a1 :: st1 := by
                    have : z2 = [] := by
                      have := congrArg List.length j3
                      rw [List.length_append] at this
                      exact List.length_eq_zero_iff.1 (by omega)
                    rw [j3, this, List.append_nil]
                  subst hz
                  simp only [if_true] at IH2
                  simp only [go_sem, Nat.reduceAdd, Nat.reduceSub, Nat.reduceMul, Nat.reduceDiv, Nat.reduceMod, Nat.reduceLeDiff, Nat.reduceLT, Nat.reduceBEq, Int.reduceToNat, Int.reduceLT, Int.reduceLE, Int.reduceEq, stD] at IH2
                  simp only [go_sem, Nat.reduceAdd, Nat.reduceSub, Nat.reduceMul, Nat.reduceDiv, Nat.reduceMod, Nat.reduceLeDiff, Nat.reduceLT, Nat.reduceBEq, Int.reduceToNat, Int.reduceLT, Int.reduceLE, Int.reduceEq, stD, ir60, sg_slD, slD_nil, e0, e1, h52, h84, hs, hsh, had, ← hb0, h87, u', k0, k1, IH1, IH2, rsV, rsD]
                  rw [if_neg (by simpa using hl1)]
                · rw [if_neg hl] at IH2
                  simp only [go_sem, Nat.reduceAdd, Nat.reduceSub, Nat.reduceMul, Nat.reduceDiv, Nat.reduceMod, Nat.reduceLeDiff, Nat.reduceLT, Nat.reduceBEq, Int.reduceToNat, Int.reduceLT, Int.reduceLE, Int.reduceEq, stD] at IH2
                  have h5 : (st2.length + 1) * 121 ≤ 70368744177664 := by omega
                  cases ok2
                  · simp only [go_sem, Nat.reduceAdd, Nat.reduceSub, Nat.reduceMul, Nat.reduceDiv, Nat.reduceMod, Nat.reduceLeDiff, Nat.reduceLT, Nat.reduceBEq, Int.reduceToNat, Int.reduceLT, Int.reduceLE, Int.reduceEq, stD, ir60, sg_slD, slD_nil, e0, e1, h52, h84, hs, hsh, had, ← hb0, h87, u', k0, k1, IH1, IH2, rsV, rsD]
                    have hne : ¬ st2.length = st.length + 1 := by
                      have := congrArg List.length j3
                      have := i4 rfl
                      simp only [List.length_append] at *
                      simp only [List.length_cons] at *
                      omega
                    rw [if_neg hne]
                  · simp only [go_sem, Nat.reduceAdd, Nat.reduceSub, Nat.reduceMul, Nat.reduceDiv, Nat.reduceMod, Nat.reduceLeDiff, Nat.reduceLT, Nat.reduceBEq, Int.reduceToNat, Int.reduceLT, Int.reduceLE, Int.reduceEq, stD, ir60, sg_slD, slD_nil, e0, e1, h52, h84, hs, hsh, had, ← hb0, h87, u', k0, k1, IH1, IH2, h5, rsV, rsD]
                    have hne : ¬ st2.length + 1 = st.length + 1 := by
                      have := j4 rfl
                      have := i4 rfl
                      simp only [List.length_cons] at *
                      omega
                    rw [if_neg hne]
                    simp [splitOf, sb, slD_nil]
end Go.Vm.P12

/- Chapter 12, functions: the program's Decide. -/
set_option maxRecDepth 100000
namespace Go.Vm.P12
open Go Go.Vm
def decE (c : Cl) (t : Int) : Int := fnz [clErr c, if offB t 1 400 then 3 else 0]
def dcD (c : Cl) (t : Int) : D := if decE c t = 0 then
    let r := dec t.toNat t.toNat c []
    if r.ok then .tup [.agg [slD false 9 (r.st.map enT)], .nil, .bool true, .int .i64 0] else .tup [.agg [.nil], slD true 1 (r.pt.map ic), .bool false, .int .i64 r.e]
  else .tup [.agg [.nil], .nil, .bool false, .int .i64 (decE c t)]
theorem ck_all {st : List AO} {vars : List AV} {ext : Option Ext} {id sz n : Nat} {es old : List (List D)} (h1 : old.length = n) (h2 : es.length = n) : coK st vars ext id sz 0 n es (some (.arr sz old)) = some (.imm (.int .i64 n), ⟨vars, st.set id (.arr sz es), ext⟩) := by
  rw [ck_arr (by omega)]
  have h3 : List.drop n old = [] := List.drop_eq_nil_of_le (by omega)
  have h4 : List.take n es = es := List.take_of_length_le (by omega)
  simp [Vm.setRange, h2, h3, h4]
theorem ok15 (n : Nat) (c : Cl) (t : Int) (hf : c.Fit) : callP (level E (n + 410)) 15 [.agg (enC c), .int .i64 t] = some (dcD c t) := by
  have h28 := ok28 (n + 401) c hf
  have h59 := ok59 (n + 408) t 1 400
  have h58 := ok58 (n + 408) (offB t 1 400) 3
  have h57 := ok57_2 (n + 408) (clErr c) (if offB t 1 400 then 3 else 0)
  have he : decE c t = fnz [clErr c, if offB t 1 400 then 3 else 0] := rfl
  rw [← he] at h57
  rw [p15]
  simp only [go_sem, Nat.reduceAdd, Nat.reduceSub, Nat.reduceMul, Nat.reduceDiv, Nat.reduceMod, Nat.reduceLeDiff, Nat.reduceLT, Nat.reduceBEq, Int.reduceToNat, Int.reduceLT, Int.reduceLE, Int.reduceEq] at h28 h59 h58 h57
  by_cases h0 : decE c t = 0
  · have hcl : clErr c = 0 ∧ offB t 1 400 = false := by
      rw [he] at h0
      simp only [fnz] at h0
      by_cases h1 : clErr c = 0
      · rw [h1] at h0
        refine ⟨h1, ?_⟩
        cases ho : offB t 1 400
        · rfl
        · rw [ho] at h0; simp at h0
      · simp [h1] at h0
    have hb : 1 ≤ t ∧ t ≤ 400 := by
      have := hcl.2
      simp only [offB, Bool.or_eq_false_iff, decide_eq_false_iff_not] at this
      omega
    have hev := clErr_even hf hcl.1
    obtain ⟨k, hk⟩ : ∃ k : Nat, t = k := ⟨t.toNat, by omega⟩
    subst hk
    have IH := ok60 (n + 400 - k) k k c [] hev (by simp; omega) (Nat.le_refl k)
    rw [show n + 400 - k + k + 9 = n + 409 by omega] at IH
    obtain ⟨i1, i2, ⟨z1, i3⟩, i4⟩ := dec_inv k k c []
    simp only [dcD, if_pos h0, Int.toNat_natCast]
    generalize dec k k c [] = r1 at IH i1 i2 i3 i4
    obtain ⟨t1, st1, ok1, pt1, er1⟩ := r1
    simp only [List.length_nil] at i1 i2 i3 i4
    simp only [stD, rsD] at IH
    cases st1 with
    | nil =>
      cases ok1
      · simp only [go_sem, Nat.reduceAdd, Nat.reduceSub, Nat.reduceMul, Nat.reduceDiv, Nat.reduceMod, Nat.reduceLeDiff, Nat.reduceLT, Nat.reduceBEq, Int.reduceToNat, Int.reduceLT, Int.reduceLE, Int.reduceEq, stD, rsV] at IH
        simp only [go_sem, Nat.reduceAdd, Nat.reduceSub, Nat.reduceMul, Nat.reduceDiv, Nat.reduceMod, Nat.reduceLeDiff, Nat.reduceLT, Nat.reduceBEq, Int.reduceToNat, Int.reduceLT, Int.reduceLE, Int.reduceEq, h28, h59, h58, h57, h0, IH, ne_eq, not_true_eq_false, not_false_eq_true]
      · simp at i4
    | cons a1 st1 =>
      simp only [go_sem, Nat.reduceAdd, Nat.reduceSub, Nat.reduceMul, Nat.reduceDiv, Nat.reduceMod, Nat.reduceLeDiff, Nat.reduceLT, Nat.reduceBEq, Int.reduceToNat, Int.reduceLT, Int.reduceLE, Int.reduceEq, stD, rsV] at IH
      have hl1 : ((120 : Nat) : Int) * ((st1.length + 1 : Nat) : Int) ≤ 70368744177664 := by simp at i2; omega
      cases ok1
      · simp only [go_sem, Nat.reduceAdd, Nat.reduceSub, Nat.reduceMul, Nat.reduceDiv, Nat.reduceMod, Nat.reduceLeDiff, Nat.reduceLT, Nat.reduceBEq, Int.reduceToNat, Int.reduceLT, Int.reduceLE, Int.reduceEq, h28, h59, h58, h57, h0, IH, ne_eq, not_true_eq_false, not_false_eq_true]
      · have hm0 : 0 ≤ ((st1.length + 1 : Nat) : Int) := by omega
        have hm2 : ((st1.length + 1 : Nat) : Int) ≤ 70368744177664 := by omega
        have hm3 : (((st1.length + 1 : Nat) : Int)).toNat = st1.length + 1 := by omega
        simp only [go_sem, Nat.reduceAdd, Nat.reduceSub, Nat.reduceMul, Nat.reduceDiv, Nat.reduceMod, Nat.reduceLeDiff, Nat.reduceLT, Nat.reduceBEq, Int.reduceToNat, Int.reduceLT, Int.reduceLE, Int.reduceEq, h28, h59, h58, h57, h0, IH, ne_eq, not_true_eq_false, not_false_eq_true, hl1, hm0, hm2, hm3, ck_all, List.length_replicate, List.length_cons, List.length_map]
        rfl
  · simp only [go_sem, Nat.reduceAdd, Nat.reduceSub, Nat.reduceMul, Nat.reduceDiv, Nat.reduceMod, Nat.reduceLeDiff, Nat.reduceLT, Nat.reduceBEq, Int.reduceToNat, Int.reduceLT, Int.reduceLE, Int.reduceEq, h28, h59, h58, h57, h0, dcD, ne_eq, not_true_eq_false, not_false_eq_true]
end Go.Vm.P12

/- Chapter 12, the reference: the decision. -/
set_option maxRecDepth 100000
namespace Go.Vm.P12
open Go Go.Vm
def quo2 (a : Int) : Int := if a.tmod 2 < 0 then sb (wrp .i64 (a.tdiv 2)) 1 else wrp .i64 (a.tdiv 2)
theorem ok88 (n : Nat) (a : Int) : callP (level E (n+1)) 88 [.int .i64 a, .int .i64 2] = some (.int .i64 (quo2 a)) := by
  have h2 : (2 : Int) ≠ 0 := by decide
  rw [p88]
  unfold quo2
  by_cases h : a.tmod 2 < 0
  · simp only [go_sem, Nat.reduceAdd, Nat.reduceSub, Nat.reduceMul, Nat.reduceDiv, Nat.reduceMod, Nat.reduceLeDiff, Nat.reduceLT, Nat.reduceBEq, Int.reduceToNat, Int.reduceLT, Int.reduceLE, Int.reduceEq, h2, h, ne_eq, not_false_eq_true]; rfl
  · simp only [go_sem, Nat.reduceAdd, Nat.reduceSub, Nat.reduceMul, Nat.reduceDiv, Nat.reduceMod, Nat.reduceLeDiff, Nat.reduceLT, Nat.reduceBEq, Int.reduceToNat, Int.reduceLT, Int.reduceLE, Int.reduceEq, h2, h, ne_eq, not_false_eq_true]
theorem ok89 (n : Nat) (c : Cl) (v : Nat) (s : Sp) (hv : v < c.sp.length) (hb : c.sp.length < 1000000000) : callP (level E (n+1)) 89 [.agg (enC c), .int .i64 v, .agg (enS s)] = some (.agg (enC (nar c v s))) := by
  obtain ⟨sn, sp, gn, gv, go⟩ := c
  simp only at hv hb
  cases sp with
  | nil => simp at hv
  | cons x sp =>
    obtain ⟨N, hN⟩ : ∃ N, N = sp.length + 1 := ⟨_, rfl⟩
    have hvN : (v : Int) < (N : Int) := by simp at hv; omega
    have hNb : N * 17 ≤ 70368744177664 := by simp at hb; omega
    have q3 : v * 2 / 2 = v := by omega
    have q4 : v * 2 % 2 = 0 := by omega
    obtain ⟨o, ho⟩ : ∃ o : Sp, (x :: sp)[v]? = some o := ⟨_, List.getElem?_eq_getElem hv⟩
    have hm : ((x :: sp).map enS)[v]? = some (enS o) := by rw [List.getElem?_map, ho]; rfl
    have z1 : (List.map enS (x :: sp)).set v [.int .i64 s.lo, .int .i64 s.hi] = ((x :: sp).set v s).map enS := by rw [List.map_set]; rfl
    have g1 : ((x :: sp).set v s).length = N := by simp [hN]
    have r1 : nar ⟨sn, x :: sp, gn, gv, go⟩ v s = ⟨false, (x :: sp).set v s, gn, gv, go⟩ := rfl
    rw [r1]
    generalize hZ1 : (x :: sp).set v s = Z1 at z1 g1
    have t1 : (Z1.map enS).take N = Z1.map enS := take_self (by simpa using g1)
    have t3 : N ≤ Z1.length := by omega
    have hZ : Z1.map enS ≠ [] := by intro h; simp at h; subst h; simp at g1; omega
    rw [p89]
    simp only [go_sem, Nat.reduceAdd, Nat.reduceSub, Nat.reduceMul, Nat.reduceDiv, Nat.reduceMod, Nat.reduceLeDiff, Nat.reduceLT, Nat.reduceBEq, Int.reduceToNat, Int.reduceLT, Int.reduceLE, Int.reduceEq] at hm z1
    simp only [go_sem, Nat.reduceAdd, Nat.reduceSub, Nat.reduceMul, Nat.reduceDiv, Nat.reduceMod, Nat.reduceLeDiff, Nat.reduceLT, Nat.reduceBEq, Int.reduceToNat, Int.reduceLT, Int.reduceLE, Int.reduceEq, slD_cons, ← hN, hvN, hNb, q3, q4, hm, z1, t1, t3, Int.natCast_nonneg, slD_f]
structure RR where
  st : List Stp
  pt : Option (List Int)
  t : Nat
  e : Int
def rwids (l : List Sp) : List Sp → Nat → Nat → Nat
  | [], _, v => v
  | s :: r, i, v => rwids l r (i + 1) (if wdt (l.getD v ⟨0, 0⟩) < wdt s then i else v)
def rwid (l : List Sp) : Nat := rwids l (l.drop 1) 1 0
def rdec : Nat → Nat → Cl → List Stp → RR
  | 0, t, _, st => ⟨st, none, t, 30⟩
  | _ + 1, 0, _, st => ⟨st, none, 0, 30⟩
  | f + 1, t + 1, c, st => match rdir c with
    | some s => ⟨st ++ [s], none, t, 0⟩
    | none =>
      let v := rwid c.sp
      let s := c.sp.getD v ⟨0, 0⟩
      if c.sp.length = 0 ∨ s.lo = s.hi then ⟨st, some (c.sp.map (·.lo)), t, 0⟩
      else
        let b := quo2 (ad s.lo s.hi)
        let r1 := rdec f t (nar c v ⟨s.lo, b⟩) st
        if r1.e ≠ 0 ∨ r1.pt.isSome then r1
        else
          let r2 := rdec f r1.t (nar c v ⟨ad b 1, s.hi⟩) r1.st
          if r2.e ≠ 0 ∨ r2.pt.isSome then r2
          else ⟨r2.st ++ [splitOf v b (sb r1.st.length 1) (sb r2.st.length 1)], none, r2.t, 0⟩
def rI (st : List Stp) (t : Nat) : AV := match st with
  | [] => .imm (.agg [.nil, .nil, .int .i64 t, .int .i64 0])
  | _ => .agg [.ref 0 9 0 st.length, .imm .nil, .imm (.int .i64 t), .imm (.int .i64 0)]
def rS (st : List Stp) : List AO := match st with
  | [] => []
  | _ => [.arr 9 (st.map enT)]
def rO1 (st : List Stp) (r : RR) : AV × List AO := match st with
  | [] => (match r.st with | [] => (.imm .nil, []) | _ => (.ref 0 9 0 r.st.length, [.arr 9 (r.st.map enT)]))
  | _ => if r.st.length = st.length then (.ref 0 9 0 st.length, [.arr 9 (st.map enT)]) else (.ref 1 9 0 r.st.length, [.dead, .arr 9 (r.st.map enT)])
def rO2 (k : Nat) : Option (List Int) → AV × List AO
  | none => (.imm .nil, [])
  | some [] => (.e0 1, [])
  | some l => (.ref k 1 0 l.length, [.arr 1 (l.map ic)])
def rRes (st : List Stp) (r : RR) : AV × List AO :=
  let a := rO1 st r
  let b := rO2 a.2.length r.pt
  (mkAgg [a.1, b.1, .imm (.int .i64 r.t), .imm (.int .i64 r.e)], a.2 ++ b.2)
theorem l61a {lo : Lower} {c : Cl} {t : Int} (hb : c.sp.length < 1000000000) : ∀ (r : List Sp) (i v : Nat), c.sp.drop i = r → v < i →
    outC ⟨0, false⟩ [0, 0, 1, 1, 1, 0, 0, 1, 0, 0, 0, 0, 0, 0, 0, 0, 0, 0, 0, 0, 0] (rnd (aCode lo ⟨0, false⟩ b61_0) (head ⟨0, false⟩ [0, 0, 1, 1, 1, 0, 0, 1, 1, 0, 0, 0, 0, 0, 0, 0, 0, 0, 0, 0, 0])
      ⟨[.junk, .junk, .ptr 0 0, .ptr 1 0, .ptr 2 0, .junk, .junk, .imm (.int .i64 v), .imm (.int .i64 i), .junk, .junk, .junk, .junk, .junk, .junk, .junk, .junk, .junk, .junk, .junk, .junk],
       [.box [.imm .nil, .imm .nil, .imm (.int .i64 0), .imm (.int .i64 0)], .box ((enC c).map .imm), .box [.imm .nil, .imm .nil, .imm (.int .i64 t), .imm (.int .i64 0)]], none⟩) =
      some (.exit 0, ⟨[.junk, .junk, .ptr 0 0, .ptr 1 0, .ptr 2 0, .junk, .junk, .imm (.int .i64 (rwids c.sp r i v)), .junk, .junk, .junk, .junk, .junk, .junk, .junk, .junk, .junk, .junk, .junk, .junk, .junk],
       [.box [.imm .nil, .imm .nil, .imm (.int .i64 0), .imm (.int .i64 0)], .box ((enC c).map .imm), .box [.imm .nil, .imm .nil, .imm (.int .i64 t), .imm (.int .i64 0)]], none⟩)
  | [], i, v, h, hv => by
    rw [rnd_eq]
    simp only [go_sem, Nat.reduceAdd, Nat.reduceSub, Nat.reduceMul, Nat.reduceDiv, Nat.reduceMod, Nat.reduceLeDiff, Nat.reduceLT, Nat.reduceBEq, Int.reduceToNat, Int.reduceLT, Int.reduceLE, Int.reduceEq, lt_f (drop_n h), rwids]
  | s :: r, i, v, h, hv => by
    obtain ⟨h1, h2, h3⟩ := drop_c h
    have h6 := wrpS (i := i) (by omega)
    obtain ⟨u, hu⟩ : ∃ u, c.sp[v]? = some u := ⟨c.sp[v]'(by omega), List.getElem?_eq_getElem (by omega)⟩
    have hg : c.sp.getD v ⟨0, 0⟩ = u := by rw [List.getD_eq_getElem?_getD, hu]; rfl
    have IH := l61a (lo := lo) (c := c) (t := t) hb r (i + 1) (if wdt u < wdt s then i else v) h3 (by split <;> omega)
    rw [rnd_eq]
    simp only [rwids, hg]
    by_cases c2 : wdt u < wdt s
    · rw [if_pos c2] at IH ⊢
      unfold wdt sb at c2
      simp only [go_sem, Nat.reduceAdd, Nat.reduceSub, Nat.reduceMul, Nat.reduceDiv, Nat.reduceMod, Nat.reduceLeDiff, Nat.reduceLT, Nat.reduceBEq, Int.reduceToNat, Int.reduceLT, Int.reduceLE, Int.reduceEq] at IH
      simp only [go_sem, Nat.reduceAdd, Nat.reduceSub, Nat.reduceMul, Nat.reduceDiv, Nat.reduceMod, Nat.reduceLeDiff, Nat.reduceLT, Nat.reduceBEq, Int.reduceToNat, Int.reduceLT, Int.reduceLE, Int.reduceEq, lt_t h2, h1, hu, c2, h6]
      exact IH
    · rw [if_neg c2] at IH ⊢
      unfold wdt sb at c2
      simp only [go_sem, Nat.reduceAdd, Nat.reduceSub, Nat.reduceMul, Nat.reduceDiv, Nat.reduceMod, Nat.reduceLeDiff, Nat.reduceLT, Nat.reduceBEq, Int.reduceToNat, Int.reduceLT, Int.reduceLE, Int.reduceEq] at IH
      simp only [go_sem, Nat.reduceAdd, Nat.reduceSub, Nat.reduceMul, Nat.reduceDiv, Nat.reduceMod, Nat.reduceLeDiff, Nat.reduceLT, Nat.reduceBEq, Int.reduceToNat, Int.reduceLT, Int.reduceLE, Int.reduceEq, lt_t h2, h1, hu, c2, h6]
      exact IH
theorem l61b {lo : Lower} {c : Cl} {t : Int} {k : Nat} {a : List D} {l : List (List D)} (hb : c.sp.length < 1000000000) : ∀ (r : List Sp) (i v : Nat), c.sp.drop i = r → v < i →
    outC ⟨1, false⟩ [0, 0, 1, 1, 1, 0, 0, 1, 0, 0, 0, 0, 0, 0, 0, 0, 0, 0, 0, 0, 0] (rnd (aCode lo ⟨1, false⟩ b61_0) (head ⟨1, false⟩ [0, 0, 1, 1, 1, 0, 0, 1, 1, 0, 0, 0, 0, 0, 0, 0, 0, 0, 0, 0, 0])
      ⟨[.junk, .junk, .ptr 1 0, .ptr 2 0, .ptr 3 0, .junk, .junk, .imm (.int .i64 v), .imm (.int .i64 i), .junk, .junk, .junk, .junk, .junk, .junk, .junk, .junk, .junk, .junk, .junk, .junk],
       [.arr 9 (a :: l), .box [.imm .nil, .imm .nil, .imm (.int .i64 0), .imm (.int .i64 0)], .box ((enC c).map .imm), .box [.ref 0 9 0 k, .imm .nil, .imm (.int .i64 t), .imm (.int .i64 0)]], none⟩) =
      some (.exit 0, ⟨[.junk, .junk, .ptr 1 0, .ptr 2 0, .ptr 3 0, .junk, .junk, .imm (.int .i64 (rwids c.sp r i v)), .junk, .junk, .junk, .junk, .junk, .junk, .junk, .junk, .junk, .junk, .junk, .junk, .junk],
       [.arr 9 (a :: l), .box [.imm .nil, .imm .nil, .imm (.int .i64 0), .imm (.int .i64 0)], .box ((enC c).map .imm), .box [.ref 0 9 0 k, .imm .nil, .imm (.int .i64 t), .imm (.int .i64 0)]], none⟩)
  | [], i, v, h, hv => by
    rw [rnd_eq]
    simp only [go_sem, Nat.reduceAdd, Nat.reduceSub, Nat.reduceMul, Nat.reduceDiv, Nat.reduceMod, Nat.reduceLeDiff, Nat.reduceLT, Nat.reduceBEq, Int.reduceToNat, Int.reduceLT, Int.reduceLE, Int.reduceEq, lt_f (drop_n h), rwids]
  | s :: r, i, v, h, hv => by
    obtain ⟨h1, h2, h3⟩ := drop_c h
    have h6 := wrpS (i := i) (by omega)
    obtain ⟨u, hu⟩ : ∃ u, c.sp[v]? = some u := ⟨c.sp[v]'(by omega), List.getElem?_eq_getElem (by omega)⟩
    have hg : c.sp.getD v ⟨0, 0⟩ = u := by rw [List.getD_eq_getElem?_getD, hu]; rfl
    have IH := l61b (lo := lo) (c := c) (t := t) (k := k) (a := a) (l := l) hb r (i + 1) (if wdt u < wdt s then i else v) h3 (by split <;> omega)
    rw [rnd_eq]
    simp only [rwids, hg]
    by_cases c2 : wdt u < wdt s
    · rw [if_pos c2] at IH ⊢
      unfold wdt sb at c2
      simp only [go_sem, Nat.reduceAdd, Nat.reduceSub, Nat.reduceMul, Nat.reduceDiv, Nat.reduceMod, Nat.reduceLeDiff, Nat.reduceLT, Nat.reduceBEq, Int.reduceToNat, Int.reduceLT, Int.reduceLE, Int.reduceEq] at IH
      simp only [go_sem, Nat.reduceAdd, Nat.reduceSub, Nat.reduceMul, Nat.reduceDiv, Nat.reduceMod, Nat.reduceLeDiff, Nat.reduceLT, Nat.reduceBEq, Int.reduceToNat, Int.reduceLT, Int.reduceLE, Int.reduceEq, lt_t h2, h1, hu, c2, h6]
      exact IH
    · rw [if_neg c2] at IH ⊢
      unfold wdt sb at c2
      simp only [go_sem, Nat.reduceAdd, Nat.reduceSub, Nat.reduceMul, Nat.reduceDiv, Nat.reduceMod, Nat.reduceLeDiff, Nat.reduceLT, Nat.reduceBEq, Int.reduceToNat, Int.reduceLT, Int.reduceLE, Int.reduceEq] at IH
      simp only [go_sem, Nat.reduceAdd, Nat.reduceSub, Nat.reduceMul, Nat.reduceDiv, Nat.reduceMod, Nat.reduceLeDiff, Nat.reduceLT, Nat.reduceBEq, Int.reduceToNat, Int.reduceLT, Int.reduceLE, Int.reduceEq, lt_t h2, h1, hu, c2, h6]
      exact IH
def eK (k sz : Nat) (acc : List (List D)) : AV := match acc with | [] => .e0 sz | _ => .ref k sz 0 acc.length
theorem l61p {lo : Lower} {c : Cl} {t : Int} (hb : c.sp.length < 1000000000) : ∀ (r : List Sp) (acc : List Int) (i : Nat), c.sp.drop i = r → acc.length = i →
    outC ⟨0, false⟩ [0, 0, 1, 0, 1, 0, 0, 0, 0, 0, 0, 0, 0, 0, 0, 0, 0, 0, 0, 0, 0] (rnd (aCode lo ⟨0, false⟩ b61_1) (head ⟨0, false⟩ [0, 0, 1, 1, 1, 0, 0, 0, 0, 1, 0, 0, 0, 0, 0, 0, 0, 0, 0, 0, 0])
      ⟨[.junk, .junk, .ptr 0 0, .ptr 1 0, .ptr 2 0, .junk, .junk, .junk, .junk, .imm (.int .i64 i), .junk, .junk, .junk, .junk, .junk, .junk, .junk, .junk, .junk, .junk, .junk],
       [.box [.imm .nil, .imm .nil, .imm (.int .i64 0), .imm (.int .i64 0)], .box ((enC c).map .imm), .box [.imm .nil, eK 3 1 (acc.map ic), .imm (.int .i64 t), .imm (.int .i64 0)]] ++ oK 1 (acc.map ic), none⟩) =
      some (.exit 2, ⟨[.junk, .junk, .ptr 0 0, .junk, .ptr 1 0, .junk, .junk, .junk, .junk, .junk, .junk, .junk, .junk, .junk, .junk, .junk, .junk, .junk, .junk, .junk, .junk],
       [.box [.imm .nil, .imm .nil, .imm (.int .i64 0), .imm (.int .i64 0)], .box [.imm .nil, eK 2 1 ((acc ++ r.map (·.lo)).map ic), .imm (.int .i64 t), .imm (.int .i64 0)]] ++ oK 1 ((acc ++ r.map (·.lo)).map ic), none⟩)
  | [], acc, i, h, ha => by
    rw [rnd_eq]
    cases acc <;> simp only [go_sem, Nat.reduceAdd, Nat.reduceSub, Nat.reduceMul, Nat.reduceDiv, Nat.reduceMod, Nat.reduceLeDiff, Nat.reduceLT, Nat.reduceBEq, Int.reduceToNat, Int.reduceLT, Int.reduceLE, Int.reduceEq, eK, oK, lt_f (drop_n h)]
  | s :: r, acc, i, h, ha => by
    obtain ⟨h1, h2, h3⟩ := drop_c h
    have h6 := wrpS (i := i) (by omega)
    have IH := l61p (lo := lo) (c := c) (t := t) hb r (acc ++ [s.lo]) (i + 1) h3 (by simp [ha])
    rw [rnd_eq]
    cases acc with
    | nil =>
      simp only [go_sem, Nat.reduceAdd, Nat.reduceSub, Nat.reduceMul, Nat.reduceDiv, Nat.reduceMod, Nat.reduceLeDiff, Nat.reduceLT, Nat.reduceBEq, Int.reduceToNat, Int.reduceLT, Int.reduceLE, Int.reduceEq, eK, oK] at IH
      simp only [go_sem, Nat.reduceAdd, Nat.reduceSub, Nat.reduceMul, Nat.reduceDiv, Nat.reduceMod, Nat.reduceLeDiff, Nat.reduceLT, Nat.reduceBEq, Int.reduceToNat, Int.reduceLT, Int.reduceLE, Int.reduceEq, eK, oK, lt_t h2, h1, h6]
      exact IH
    | cons x acc =>
      have h5 : (acc.length + 1 + 1) * 9 ≤ 70368744177664 := by simp at ha; omega
      have e7 : acc.length + (r.length + 1) + 1 = acc.length + 1 + r.length + 1 := by omega
      have e8 : ∀ (L : List (List D)) (y : List D), List.map ic acc ++ y :: L = List.map ic acc ++ [y] ++ L := fun L y => by simp
      simp only [go_sem, Nat.reduceAdd, Nat.reduceSub, Nat.reduceMul, Nat.reduceDiv, Nat.reduceMod, Nat.reduceLeDiff, Nat.reduceLT, Nat.reduceBEq, Int.reduceToNat, Int.reduceLT, Int.reduceLE, Int.reduceEq, eK, oK] at IH
      simp only [go_sem, Nat.reduceAdd, Nat.reduceSub, Nat.reduceMul, Nat.reduceDiv, Nat.reduceMod, Nat.reduceLeDiff, Nat.reduceLT, Nat.reduceBEq, Int.reduceToNat, Int.reduceLT, Int.reduceLE, Int.reduceEq, eK, oK, lt_t h2, h1, h6, h5, e7, e8 (List.map ic (List.map (fun x => x.lo) r))]
      exact IH
theorem l61q {lo : Lower} {c : Cl} {t : Int} {k : Nat} {a : List D} {l : List (List D)} (hb : c.sp.length < 1000000000) : ∀ (r : List Sp) (acc : List Int) (i : Nat), c.sp.drop i = r → acc.length = i →
    outC ⟨1, false⟩ [0, 0, 1, 0, 1, 0, 0, 0, 0, 0, 0, 0, 0, 0, 0, 0, 0, 0, 0, 0, 0] (rnd (aCode lo ⟨1, false⟩ b61_1) (head ⟨1, false⟩ [0, 0, 1, 1, 1, 0, 0, 0, 0, 1, 0, 0, 0, 0, 0, 0, 0, 0, 0, 0, 0])
      ⟨[.junk, .junk, .ptr 1 0, .ptr 2 0, .ptr 3 0, .junk, .junk, .junk, .junk, .imm (.int .i64 i), .junk, .junk, .junk, .junk, .junk, .junk, .junk, .junk, .junk, .junk, .junk],
       [.arr 9 (a :: l), .box [.imm .nil, .imm .nil, .imm (.int .i64 0), .imm (.int .i64 0)], .box ((enC c).map .imm), .box [.ref 0 9 0 k, eK 4 1 (acc.map ic), .imm (.int .i64 t), .imm (.int .i64 0)]] ++ oK 1 (acc.map ic), none⟩) =
      some (.exit 2, ⟨[.junk, .junk, .ptr 1 0, .junk, .ptr 2 0, .junk, .junk, .junk, .junk, .junk, .junk, .junk, .junk, .junk, .junk, .junk, .junk, .junk, .junk, .junk, .junk],
       [.arr 9 (a :: l), .box [.imm .nil, .imm .nil, .imm (.int .i64 0), .imm (.int .i64 0)], .box [.ref 0 9 0 k, eK 3 1 ((acc ++ r.map (·.lo)).map ic), .imm (.int .i64 t), .imm (.int .i64 0)]] ++ oK 1 ((acc ++ r.map (·.lo)).map ic), none⟩)
  | [], acc, i, h, ha => by
    rw [rnd_eq]
    cases acc <;> simp only [go_sem, Nat.reduceAdd, Nat.reduceSub, Nat.reduceMul, Nat.reduceDiv, Nat.reduceMod, Nat.reduceLeDiff, Nat.reduceLT, Nat.reduceBEq, Int.reduceToNat, Int.reduceLT, Int.reduceLE, Int.reduceEq, eK, oK, lt_f (drop_n h)]
  | s :: r, acc, i, h, ha => by
    obtain ⟨h1, h2, h3⟩ := drop_c h
    have h6 := wrpS (i := i) (by omega)
    have IH := l61q (lo := lo) (c := c) (t := t) (k := k) (a := a) (l := l) hb r (acc ++ [s.lo]) (i + 1) h3 (by simp [ha])
    rw [rnd_eq]
    cases acc with
    | nil =>
      simp only [go_sem, Nat.reduceAdd, Nat.reduceSub, Nat.reduceMul, Nat.reduceDiv, Nat.reduceMod, Nat.reduceLeDiff, Nat.reduceLT, Nat.reduceBEq, Int.reduceToNat, Int.reduceLT, Int.reduceLE, Int.reduceEq, eK, oK] at IH
      simp only [go_sem, Nat.reduceAdd, Nat.reduceSub, Nat.reduceMul, Nat.reduceDiv, Nat.reduceMod, Nat.reduceLeDiff, Nat.reduceLT, Nat.reduceBEq, Int.reduceToNat, Int.reduceLT, Int.reduceLE, Int.reduceEq, eK, oK, lt_t h2, h1, h6]
      exact IH
    | cons x acc =>
      have h5 : (acc.length + 1 + 1) * 9 ≤ 70368744177664 := by simp at ha; omega
      have e7 : acc.length + (r.length + 1) + 1 = acc.length + 1 + r.length + 1 := by omega
      have e8 : ∀ (L : List (List D)) (y : List D), List.map ic acc ++ y :: L = List.map ic acc ++ [y] ++ L := fun L y => by simp
      simp only [go_sem, Nat.reduceAdd, Nat.reduceSub, Nat.reduceMul, Nat.reduceDiv, Nat.reduceMod, Nat.reduceLeDiff, Nat.reduceLT, Nat.reduceBEq, Int.reduceToNat, Int.reduceLT, Int.reduceLE, Int.reduceEq, eK, oK] at IH
      simp only [go_sem, Nat.reduceAdd, Nat.reduceSub, Nat.reduceMul, Nat.reduceDiv, Nat.reduceMod, Nat.reduceLeDiff, Nat.reduceLT, Nat.reduceBEq, Int.reduceToNat, Int.reduceLT, Int.reduceLE, Int.reduceEq, eK, oK, lt_t h2, h1, h6, h5, e7, e8 (List.map ic (List.map (fun x => x.lo) r))]
      exact IH
theorem rwids_lt (l : List Sp) : ∀ (r : List Sp) (i v : Nat), l.drop i = r → v < l.length → rwids l r i v < l.length
  | [], i, v, h, hv => hv
  | s :: r, i, v, h, hv => by
    obtain ⟨h1, h2, h3⟩ := drop_c h
    refine rwids_lt l r (i + 1) _ h3 ?_
    split
    · exact h2
    · exact hv
theorem rwid_lt {l : List Sp} (h : 0 < l.length) : rwid l < l.length := rwids_lt l _ 1 0 rfl h
theorem rdec_inv : ∀ (f t : Nat) (c : Cl) (st : List Stp), (rdec f t c st).t ≤ t ∧ (rdec f t c st).st.length + (rdec f t c st).t ≤ st.length + t ∧ (∃ z, (rdec f t c st).st = st ++ z) ∧ ((rdec f t c st).e = 0 → (rdec f t c st).pt = none → st.length < (rdec f t c st).st.length)
  | 0, t, c, st => by simp [rdec]
  | f + 1, 0, c, st => by simp [rdec]
  | f + 1, t + 1, c, st => by
    simp only [rdec]
    cases rdir c with
    | some s => simp <;> omega
    | none =>
      simp only
      split
      · simp <;> omega
      · obtain ⟨a1, a2, ⟨z1, a3⟩, a4⟩ := rdec_inv f t (nar c (rwid c.sp) ⟨(c.sp.getD (rwid c.sp) ⟨0, 0⟩).lo, quo2 (ad (c.sp.getD (rwid c.sp) ⟨0, 0⟩).lo (c.sp.getD (rwid c.sp) ⟨0, 0⟩).hi)⟩) st
        generalize rdec f t (nar c (rwid c.sp) ⟨(c.sp.getD (rwid c.sp) ⟨0, 0⟩).lo, quo2 (ad (c.sp.getD (rwid c.sp) ⟨0, 0⟩).lo (c.sp.getD (rwid c.sp) ⟨0, 0⟩).hi)⟩) st = r1 at a1 a2 a3 a4
        split
        · exact ⟨by omega, by omega, ⟨z1, a3⟩, a4⟩
        · rename_i h1
          obtain ⟨b1, b2, ⟨z2, b3⟩, b4⟩ := rdec_inv f r1.t (nar c (rwid c.sp) ⟨ad (quo2 (ad (c.sp.getD (rwid c.sp) ⟨0, 0⟩).lo (c.sp.getD (rwid c.sp) ⟨0, 0⟩).hi)) 1, (c.sp.getD (rwid c.sp) ⟨0, 0⟩).hi⟩) r1.st
          generalize rdec f r1.t (nar c (rwid c.sp) ⟨ad (quo2 (ad (c.sp.getD (rwid c.sp) ⟨0, 0⟩).lo (c.sp.getD (rwid c.sp) ⟨0, 0⟩).hi)) 1, (c.sp.getD (rwid c.sp) ⟨0, 0⟩).hi⟩) r1.st = r2 at b1 b2 b3 b4
          have h1e : r1.e = 0 := Decidable.byContradiction fun h => h1 (Or.inl h)
          have h1p : r1.pt = none := by
            cases hp : r1.pt with
            | none => rfl
            | some l => rw [hp] at h1; exact absurd (Or.inr rfl) h1
          have := a4 h1e h1p
          have hl : st.length ≤ r2.st.length := by rw [b3, a3]; simp only [List.length_append]; omega
          split
          · exact ⟨by omega, by omega, ⟨z1 ++ z2, by rw [b3, a3]; simp⟩, fun h h' => by have := b4 h h'; omega⟩
          · rename_i h2
            have h2e : r2.e = 0 := Decidable.byContradiction fun h => h2 (Or.inl h)
            have h2p : r2.pt = none := by
              cases hp : r2.pt with
              | none => rfl
              | some l => rw [hp] at h2; exact absurd (Or.inr rfl) h2
            have := b4 h2e h2p
            simp only [List.length_append, List.length_singleton]
            exact ⟨by omega, by omega, ⟨_, by rw [b3, a3, List.append_assoc, List.append_assoc]⟩, fun _ _ => by omega⟩
theorem rO1_nn {t : Nat} {pt : Option (List Int)} {e : Int} : rO1 [] ⟨[], pt, t, e⟩ = (.imm .nil, []) := rfl
theorem rO1_nc {st1 : List Stp} {t : Nat} {pt : Option (List Int)} {e : Int} (h : st1 ≠ []) : rO1 [] ⟨st1, pt, t, e⟩ = (.ref 0 9 0 st1.length, [.arr 9 (st1.map enT)]) := by
  cases st1 with
  | nil => exact absurd rfl h
  | cons a l => rfl
theorem rO1_ce {st1 : List Stp} {a : Stp} {t : Nat} {pt : Option (List Int)} {e : Int} : rO1 (a :: st1) ⟨a :: st1, pt, t, e⟩ = (.ref 0 9 0 (st1.length + 1), [.arr 9 (enT a :: st1.map enT)]) := by
  simp [rO1]
theorem rO1_e {st1 : List Stp} {t : Nat} {pt : Option (List Int)} {e : Int} (h : st1 ≠ []) : rO1 st1 ⟨st1, pt, t, e⟩ = (.ref 0 9 0 st1.length, [.arr 9 (st1.map enT)]) := by
  cases st1 with
  | nil => exact absurd rfl h
  | cons a l => exact rO1_ce
theorem rO1_cn {st st1 : List Stp} {t : Nat} {pt : Option (List Int)} {e : Int} (h0 : st ≠ []) (h : ¬ st1.length = st.length) : rO1 st ⟨st1, pt, t, e⟩ = (.ref 1 9 0 st1.length, [.dead, .arr 9 (st1.map enT)]) := by
  cases st with
  | nil => exact absurd rfl h0
  | cons a l => exact if_neg h
theorem rI_n {t : Nat} : rI [] t = .imm (.agg [.nil, .nil, .int .i64 t, .int .i64 0]) := rfl
theorem rS_n : rS [] = [] := rfl
theorem rI_c {st1 : List Stp} {t : Nat} (h : st1 ≠ []) : rI st1 t = .agg [.ref 0 9 0 st1.length, .imm .nil, .imm (.int .i64 t), .imm (.int .i64 0)] := by
  cases st1 with
  | nil => exact absurd rfl h
  | cons a l => rfl
theorem rS_c {st1 : List Stp} (h : st1 ≠ []) : rS st1 = [.arr 9 (st1.map enT)] := by
  cases st1 with
  | nil => exact absurd rfl h
  | cons a l => rfl
theorem same_of {st z st1 : List Stp} (h : st1 = st ++ z) (hl : st1.length = st.length) : st1 = st := by
  have : z = [] := by
    have := congrArg List.length h
    rw [List.length_append] at this
    exact List.length_eq_zero_iff.1 (by omega)
  rw [h, this, List.append_nil]
end Go.Vm.P12

/- Chapter 12, the reference: the decision, end. -/
set_option maxRecDepth 100000
set_option maxHeartbeats 8000000
namespace Go.Vm.P12
open Go Go.Vm
theorem ok61 (n : Nat) : ∀ (f t : Nat) (c : Cl) (st : List Stp), c.Even → st.length + t < 1000000000 → t ≤ f →
    callS (level E (n + f + 9)) 61 [.imm (.agg (enC c)), rI st t] (rS st) = some (rRes st (rdec f t c st))
  | 0, t, c, st, hc, hb, ht => by
    have : t = 0 := by omega
    subst this
    rw [callS_go (n := n + 0 + 8) (fn := ir61) (c := c61) (r := [.cell 2 true 4]) rfl rfl rfl rfl rfl]
    cases st <;> simp only [go_sem, Nat.reduceAdd, Nat.reduceSub, Nat.reduceMul, Nat.reduceDiv, Nat.reduceMod, Nat.reduceLeDiff, Nat.reduceLT, Nat.reduceBEq, Int.reduceToNat, Int.reduceLT, Int.reduceLE, Int.reduceEq, rI, rS, rRes, rO1, rO2, ir61, sg_slD, rdec, slD_nil]
  | f + 1, 0, c, st, hc, hb, ht => by
    rw [callS_go (n := n + (f + 1) + 8) (fn := ir61) (c := c61) (r := [.cell 2 true 4]) rfl rfl rfl rfl rfl]
    cases st <;> simp only [go_sem, Nat.reduceAdd, Nat.reduceSub, Nat.reduceMul, Nat.reduceDiv, Nat.reduceMod, Nat.reduceLeDiff, Nat.reduceLT, Nat.reduceBEq, Int.reduceToNat, Int.reduceLT, Int.reduceLE, Int.reduceEq, rI, rS, rRes, rO1, rO2, ir61, sg_slD, rdec, slD_nil]
  | f + 1, t + 1, c, st, hc, hb, ht => by
    have h13 : callP (level E (n + f + 9)) 13 [.agg (enC c)] = some (rdirD c) := ok13 (n + f + 6) c hc
    have e0 : ¬ ((t + 1 : Nat) : Int) = 0 := by omega
    have e1 : wrp .i64 (((t + 1 : Nat) : Int) - 1) = (t : Int) := by rw [wrp_ok (by omega)]; omega
    rw [show n + (f + 1) + 9 = n + f + 9 + 1 by omega, callS_go (n := n + f + 9) (fn := ir61) (c := c61) (r := [.cell 2 true 4]) rfl rfl rfl rfl rfl]
    simp only [rdec]
    unfold rdirD at h13
    cases hd : rdir c with
    | some s =>
      rw [hd] at h13
      simp only [go_sem, Nat.reduceAdd, Nat.reduceSub, Nat.reduceMul, Nat.reduceDiv, Nat.reduceMod, Nat.reduceLeDiff, Nat.reduceLT, Nat.reduceBEq, Int.reduceToNat, Int.reduceLT, Int.reduceLE, Int.reduceEq] at h13
      cases st with
      | nil => simp only [go_sem, Nat.reduceAdd, Nat.reduceSub, Nat.reduceMul, Nat.reduceDiv, Nat.reduceMod, Nat.reduceLeDiff, Nat.reduceLT, Nat.reduceBEq, Int.reduceToNat, Int.reduceLT, Int.reduceLE, Int.reduceEq, rI, rS, rRes, rO1, rO2, ir61, sg_slD, e0, e1, h13, slD_nil]
      | cons a st =>
        have h5 : (st.length + 1 + 1) * 121 ≤ 70368744177664 := by simp at hb; omega
        have hne : ¬ (st.length + 1 + 1 = st.length + 1) := by omega
        simp only [go_sem, Nat.reduceAdd, Nat.reduceSub, Nat.reduceMul, Nat.reduceDiv, Nat.reduceMod, Nat.reduceLeDiff, Nat.reduceLT, Nat.reduceBEq, Int.reduceToNat, Int.reduceLT, Int.reduceLE, Int.reduceEq, rI, rS, rRes, rO1, rO2, ir61, sg_slD, e0, e1, h13, slD_nil, h5, hne]
    | none =>
      rw [hd] at h13
      simp only [go_sem, Nat.reduceAdd, Nat.reduceSub, Nat.reduceMul, Nat.reduceDiv, Nat.reduceMod, Nat.reduceLeDiff, Nat.reduceLT, Nat.reduceBEq, Int.reduceToNat, Int.reduceLT, Int.reduceLE, Int.reduceEq, zSt, slD_nil] at h13
      obtain ⟨v, hve⟩ : ∃ v, v = rwid c.sp := ⟨_, rfl⟩
      obtain ⟨s, hs⟩ : ∃ s, s = c.sp.getD v ⟨0, 0⟩ := ⟨_, rfl⟩
      rw [← hve, ← hs]
      have ha := l61a (lo := level E (n + f + 9)) (c := c) (t := t) hc.fit.sp (c.sp.drop 1) 1 0 rfl (by omega)
      have hb' : ∀ k a l, _ := fun k a l => l61b (lo := level E (n + f + 9)) (c := c) (t := t) (k := k) (a := a) (l := l) hc.fit.sp (c.sp.drop 1) 1 0 rfl (by omega)
      have hp := l61p (lo := level E (n + f + 9)) (c := c) (t := t) hc.fit.sp c.sp [] 0 rfl rfl
      have hq : ∀ k a l, _ := fun k a l => l61q (lo := level E (n + f + 9)) (c := c) (t := t) (k := k) (a := a) (l := l) hc.fit.sp c.sp [] 0 rfl rfl
      have hcv : rwids c.sp (c.sp.drop 1) 1 0 = v := hve.symm
      rw [hcv] at ha
      simp only [hcv] at hb'
      have n0 : (((0 : Nat)) : Int) = 0 := rfl
      have n1 : (((1 : Nat)) : Int) = 1 := rfl
      simp only [n0, n1] at ha hb' hp hq
      simp only [go_sem, Nat.reduceAdd, Nat.reduceSub, Nat.reduceMul, Nat.reduceDiv, Nat.reduceMod, Nat.reduceLeDiff, Nat.reduceLT, Nat.reduceBEq, Int.reduceToNat, Int.reduceLT, Int.reduceLE, Int.reduceEq] at ha hb'
      by_cases hz : c.sp.length = 0 ∨ s.lo = s.hi
      · rw [if_pos hz]
        have hzz : c.sp = [] ∨ (∃ x l, c.sp = x :: l) ∧ ¬ ((c.sp.length : Nat) : Int) = 0 ∧ c.sp[v]? = some s ∧ s.lo = s.hi := by
          cases hcs : c.sp with
          | nil => exact Or.inl rfl
          | cons x l =>
            refine Or.inr ⟨⟨x, l, rfl⟩, by simp; omega, ?_, ?_⟩
            · have hvl := rwid_lt (l := c.sp) (by rw [hcs]; simp)
              rw [← hve] at hvl
              rw [← hcs, hs, List.getD_eq_getElem?_getD, List.getElem?_eq_getElem hvl]
              rfl
            · rcases hz with hz | hz
              · rw [hcs] at hz; simp at hz
              · exact hz
        rcases hzz with hcs | ⟨⟨x, l, hcs⟩, hl0, hsv, hlh⟩
        · have hl0 : ((c.sp.length : Nat) : Int) = 0 := by rw [hcs]; rfl
          rw [hcs, List.map_nil] at hp hq
          simp only [go_sem, Nat.reduceAdd, Nat.reduceSub, Nat.reduceMul, Nat.reduceDiv, Nat.reduceMod, Nat.reduceLeDiff, Nat.reduceLT, Nat.reduceBEq, Int.reduceToNat, Int.reduceLT, Int.reduceLE, Int.reduceEq, eK, oK] at hp hq
          rw [show c.sp.map (·.lo) = [] by rw [hcs]; rfl]
          cases st with
          | nil =>
            simp only [go_sem, Nat.reduceAdd, Nat.reduceSub, Nat.reduceMul, Nat.reduceDiv, Nat.reduceMod, Nat.reduceLeDiff, Nat.reduceLT, Nat.reduceBEq, Int.reduceToNat, Int.reduceLT, Int.reduceLE, Int.reduceEq, rI, rS, rRes, rO1, rO2, ir61, sg_slD, e0, e1, h13, slD_nil, ha, hl0, hp]
          | cons a st =>
            simp only [go_sem, Nat.reduceAdd, Nat.reduceSub, Nat.reduceMul, Nat.reduceDiv, Nat.reduceMod, Nat.reduceLeDiff, Nat.reduceLT, Nat.reduceBEq, Int.reduceToNat, Int.reduceLT, Int.reduceLE, Int.reduceEq, rI, rS, rRes, rO1, rO2, ir61, sg_slD, e0, e1, h13, slD_nil, hb', hl0, hq]
        · have hm : c.sp.map (·.lo) = x.lo :: l.map (·.lo) := by rw [hcs]; rfl
          rw [hm] at hp ⊢
          simp only [hm] at hq
          simp only [go_sem, Nat.reduceAdd, Nat.reduceSub, Nat.reduceMul, Nat.reduceDiv, Nat.reduceMod, Nat.reduceLeDiff, Nat.reduceLT, Nat.reduceBEq, Int.reduceToNat, Int.reduceLT, Int.reduceLE, Int.reduceEq, eK, oK] at hp hq
          cases st with
          | nil =>
            simp only [go_sem, Nat.reduceAdd, Nat.reduceSub, Nat.reduceMul, Nat.reduceDiv, Nat.reduceMod, Nat.reduceLeDiff, Nat.reduceLT, Nat.reduceBEq, Int.reduceToNat, Int.reduceLT, Int.reduceLE, Int.reduceEq, rI, rS, rRes, rO1, rO2, ir61, sg_slD, e0, e1, h13, slD_nil, ha, hl0, hsv, hlh, hp]
          | cons a st =>
            simp only [go_sem, Nat.reduceAdd, Nat.reduceSub, Nat.reduceMul, Nat.reduceDiv, Nat.reduceMod, Nat.reduceLeDiff, Nat.reduceLT, Nat.reduceBEq, Int.reduceToNat, Int.reduceLT, Int.reduceLE, Int.reduceEq, rI, rS, rRes, rO1, rO2, ir61, sg_slD, e0, e1, h13, slD_nil, hb', hl0, hsv, hlh, hq]
      · rw [if_neg hz]
        have hz1 : ¬ c.sp.length = 0 := fun h => hz (Or.inl h)
        have hlh : ¬ s.lo = s.hi := fun h => hz (Or.inr h)
        have hl0 : ¬ ((c.sp.length : Nat) : Int) = 0 := by omega
        have hvl : v < c.sp.length := hve ▸ rwid_lt (by omega)
        have hsv : c.sp[v]? = some s := by rw [hs, List.getD_eq_getElem?_getD, List.getElem?_eq_getElem hvl]; rfl
        have had : wrp .i64 (s.lo + s.hi) = ad s.lo s.hi := rfl
        obtain ⟨b, hb0⟩ : ∃ b, b = quo2 (ad s.lo s.hi) := ⟨_, rfl⟩
        have h88 : callP (level E (n + f + 9)) 88 [.int .i64 (ad s.lo s.hi), .int .i64 2] = some (.int .i64 b) := hb0 ▸ ok88 (n + f + 8) _
        have h89a : callP (level E (n + f + 9)) 89 [.agg (enC c), .int .i64 v, .agg (enS ⟨s.lo, b⟩)] = some (.agg (enC (nar c v ⟨s.lo, b⟩))) := ok89 (n + f + 8) c v _ hvl hc.fit.sp
        have h89b : callP (level E (n + f + 9)) 89 [.agg (enC c), .int .i64 v, .agg (enS ⟨ad b 1, s.hi⟩)] = some (.agg (enC (nar c v ⟨ad b 1, s.hi⟩))) := ok89 (n + f + 8) c v _ hvl hc.fit.sp
        have hab : wrp .i64 (b + 1) = ad b 1 := rfl
        rw [← hb0]
        obtain ⟨c0, hc0⟩ : ∃ c0, c0 = nar c v ⟨s.lo, b⟩ := ⟨_, rfl⟩
        obtain ⟨c1, hc1⟩ : ∃ c1, c1 = nar c v ⟨ad b 1, s.hi⟩ := ⟨_, rfl⟩
        have ev0 : c0.Even := hc0 ▸ nar_even hc _ _
        have ev1 : c1.Even := hc1 ▸ nar_even hc _ _
        rw [← hc0] at h89a
        rw [← hc1] at h89b
        rw [← hc0, ← hc1]
        have IH1 := ok61 n f t c0 st ev0 (by omega) (by omega)
        obtain ⟨i1, i2, ⟨z1, i3⟩, i4⟩ := rdec_inv f t c0 st
        generalize rdec f t c0 st = r1 at IH1 i1 i2 i3 i4
        obtain ⟨st1, pt1, t1, er1⟩ := r1
        simp only at i1 i2 i3 i4
        have IH2 := ok61 n f t1 c1 st1 ev1 (by omega) (by omega)
        obtain ⟨j1, j2, ⟨z2, j3⟩, j4⟩ := rdec_inv f t1 c1 st1
        generalize rdec f t1 c1 st1 = r2 at IH2 j1 j2 j3 j4
        obtain ⟨st2, pt2, t2, er2⟩ := r2
        simp only at j1 j2 j3 j4
        simp only [go_sem, Nat.reduceAdd, Nat.reduceSub, Nat.reduceMul, Nat.reduceDiv, Nat.reduceMod, Nat.reduceLeDiff, Nat.reduceLT, Nat.reduceBEq, Int.reduceToNat, Int.reduceLT, Int.reduceLE, Int.reduceEq] at h89a h89b
        cases st with
        | nil =>
          simp only [List.length_nil] at hb i2 i4
          rw [rI_n, rS_n] at IH1 ⊢
          conv => lhs; simp only [go_sem, Nat.reduceAdd, Nat.reduceSub, Nat.reduceMul, Nat.reduceDiv, Nat.reduceMod, Nat.reduceLeDiff, Nat.reduceLT, Nat.reduceBEq, Int.reduceToNat, Int.reduceLT, Int.reduceLE, Int.reduceEq, ir61, sg_slD, e0, e1, h13, slD_nil, ha, hl0, hsv, hlh, had, h88, h89a, hab]
          simp only [rRes] at IH1
          by_cases h1 : er1 ≠ 0 ∨ pt1.isSome = true
          · rw [if_pos h1]
            by_cases hs1 : st1.length = ([] : List Stp).length
            · have hs2 := same_of i3 hs1
              subst hs2
              have rO1f1 := @rO1_nn
              have rO1g1 := @rO1_nn
              rcases pt1 with _ | _ | ⟨y, pt1⟩
              · have h9 : ¬ er1 = 0 := by simpa using h1
                simp only [go_sem, Nat.reduceAdd, Nat.reduceSub, Nat.reduceMul, Nat.reduceDiv, Nat.reduceMod, Nat.reduceLeDiff, Nat.reduceLT, Nat.reduceBEq, Int.reduceToNat, Int.reduceLT, Int.reduceLE, Int.reduceEq, rO1f1, rO2] at IH1
                simp only [go_sem, Nat.reduceAdd, Nat.reduceSub, Nat.reduceMul, Nat.reduceDiv, Nat.reduceMod, Nat.reduceLeDiff, Nat.reduceLT, Nat.reduceBEq, Int.reduceToNat, Int.reduceLT, Int.reduceLE, Int.reduceEq, rO1g1, rO2, rRes, slD_nil, sg_slD, hab, h89b, ne_eq, not_true_eq_false, not_false_eq_true, IH1, h9]
              · skip
                simp only [go_sem, Nat.reduceAdd, Nat.reduceSub, Nat.reduceMul, Nat.reduceDiv, Nat.reduceMod, Nat.reduceLeDiff, Nat.reduceLT, Nat.reduceBEq, Int.reduceToNat, Int.reduceLT, Int.reduceLE, Int.reduceEq, rO1f1, rO2] at IH1
                by_cases h9 : er1 = 0
                · subst h9
                  simp only [go_sem, Nat.reduceAdd, Nat.reduceSub, Nat.reduceMul, Nat.reduceDiv, Nat.reduceMod, Nat.reduceLeDiff, Nat.reduceLT, Nat.reduceBEq, Int.reduceToNat, Int.reduceLT, Int.reduceLE, Int.reduceEq, rO1g1, rO2, rRes, slD_nil, sg_slD, hab, h89b, ne_eq, not_true_eq_false, not_false_eq_true, IH1]
                · simp only [go_sem, Nat.reduceAdd, Nat.reduceSub, Nat.reduceMul, Nat.reduceDiv, Nat.reduceMod, Nat.reduceLeDiff, Nat.reduceLT, Nat.reduceBEq, Int.reduceToNat, Int.reduceLT, Int.reduceLE, Int.reduceEq, rO1g1, rO2, rRes, slD_nil, sg_slD, hab, h89b, ne_eq, not_true_eq_false, not_false_eq_true, IH1, h9]
              · skip
                simp only [go_sem, Nat.reduceAdd, Nat.reduceSub, Nat.reduceMul, Nat.reduceDiv, Nat.reduceMod, Nat.reduceLeDiff, Nat.reduceLT, Nat.reduceBEq, Int.reduceToNat, Int.reduceLT, Int.reduceLE, Int.reduceEq, rO1f1, rO2] at IH1
                by_cases h9 : er1 = 0
                · subst h9
                  simp only [go_sem, Nat.reduceAdd, Nat.reduceSub, Nat.reduceMul, Nat.reduceDiv, Nat.reduceMod, Nat.reduceLeDiff, Nat.reduceLT, Nat.reduceBEq, Int.reduceToNat, Int.reduceLT, Int.reduceLE, Int.reduceEq, rO1g1, rO2, rRes, slD_nil, sg_slD, hab, h89b, ne_eq, not_true_eq_false, not_false_eq_true, IH1]
                · simp only [go_sem, Nat.reduceAdd, Nat.reduceSub, Nat.reduceMul, Nat.reduceDiv, Nat.reduceMod, Nat.reduceLeDiff, Nat.reduceLT, Nat.reduceBEq, Int.reduceToNat, Int.reduceLT, Int.reduceLE, Int.reduceEq, rO1g1, rO2, rRes, slD_nil, sg_slD, hab, h89b, ne_eq, not_true_eq_false, not_false_eq_true, IH1, h9]
            · have hs2 : st1 ≠ [] := fun h => hs1 (by rw [h])
              have rO1f1 := fun t pt e => @rO1_nc st1 t pt e hs2
              have rO1g1 := rO1f1
              rcases pt1 with _ | _ | ⟨y, pt1⟩
              · have h9 : ¬ er1 = 0 := by simpa using h1
                simp only [go_sem, Nat.reduceAdd, Nat.reduceSub, Nat.reduceMul, Nat.reduceDiv, Nat.reduceMod, Nat.reduceLeDiff, Nat.reduceLT, Nat.reduceBEq, Int.reduceToNat, Int.reduceLT, Int.reduceLE, Int.reduceEq, rO1f1, rO2] at IH1
                simp only [go_sem, Nat.reduceAdd, Nat.reduceSub, Nat.reduceMul, Nat.reduceDiv, Nat.reduceMod, Nat.reduceLeDiff, Nat.reduceLT, Nat.reduceBEq, Int.reduceToNat, Int.reduceLT, Int.reduceLE, Int.reduceEq, rO1g1, rO2, rRes, slD_nil, sg_slD, hab, h89b, ne_eq, not_true_eq_false, not_false_eq_true, IH1, h9]
              · skip
                simp only [go_sem, Nat.reduceAdd, Nat.reduceSub, Nat.reduceMul, Nat.reduceDiv, Nat.reduceMod, Nat.reduceLeDiff, Nat.reduceLT, Nat.reduceBEq, Int.reduceToNat, Int.reduceLT, Int.reduceLE, Int.reduceEq, rO1f1, rO2] at IH1
                by_cases h9 : er1 = 0
                · subst h9
                  simp only [go_sem, Nat.reduceAdd, Nat.reduceSub, Nat.reduceMul, Nat.reduceDiv, Nat.reduceMod, Nat.reduceLeDiff, Nat.reduceLT, Nat.reduceBEq, Int.reduceToNat, Int.reduceLT, Int.reduceLE, Int.reduceEq, rO1g1, rO2, rRes, slD_nil, sg_slD, hab, h89b, ne_eq, not_true_eq_false, not_false_eq_true, IH1]
                · simp only [go_sem, Nat.reduceAdd, Nat.reduceSub, Nat.reduceMul, Nat.reduceDiv, Nat.reduceMod, Nat.reduceLeDiff, Nat.reduceLT, Nat.reduceBEq, Int.reduceToNat, Int.reduceLT, Int.reduceLE, Int.reduceEq, rO1g1, rO2, rRes, slD_nil, sg_slD, hab, h89b, ne_eq, not_true_eq_false, not_false_eq_true, IH1, h9]
              · skip
                simp only [go_sem, Nat.reduceAdd, Nat.reduceSub, Nat.reduceMul, Nat.reduceDiv, Nat.reduceMod, Nat.reduceLeDiff, Nat.reduceLT, Nat.reduceBEq, Int.reduceToNat, Int.reduceLT, Int.reduceLE, Int.reduceEq, rO1f1, rO2] at IH1
                by_cases h9 : er1 = 0
                · subst h9
                  simp only [go_sem, Nat.reduceAdd, Nat.reduceSub, Nat.reduceMul, Nat.reduceDiv, Nat.reduceMod, Nat.reduceLeDiff, Nat.reduceLT, Nat.reduceBEq, Int.reduceToNat, Int.reduceLT, Int.reduceLE, Int.reduceEq, rO1g1, rO2, rRes, slD_nil, sg_slD, hab, h89b, ne_eq, not_true_eq_false, not_false_eq_true, IH1]
                · simp only [go_sem, Nat.reduceAdd, Nat.reduceSub, Nat.reduceMul, Nat.reduceDiv, Nat.reduceMod, Nat.reduceLeDiff, Nat.reduceLT, Nat.reduceBEq, Int.reduceToNat, Int.reduceLT, Int.reduceLE, Int.reduceEq, rO1g1, rO2, rRes, slD_nil, sg_slD, hab, h89b, ne_eq, not_true_eq_false, not_false_eq_true, IH1, h9]
          · rw [if_neg h1]
            have h1e : er1 = 0 := Decidable.byContradiction fun h => h1 (Or.inl h)
            have h1p : pt1 = none := by
              cases hp : pt1 with
              | none => rfl
              | some l => rw [hp] at h1; exact absurd (Or.inr rfl) h1
            subst h1e h1p
            have i5 := i4 rfl rfl
            have hst1 : st1 ≠ [] := fun h => by rw [h] at i5; simp at i5
            rw [rO1_nc hst1] at IH1
            simp only [go_sem, Nat.reduceAdd, Nat.reduceSub, Nat.reduceMul, Nat.reduceDiv, Nat.reduceMod, Nat.reduceLeDiff, Nat.reduceLT, Nat.reduceBEq, Int.reduceToNat, Int.reduceLT, Int.reduceLE, Int.reduceEq, rO2] at IH1
            rw [rI_c hst1, rS_c hst1] at IH2
            conv => lhs; simp only [go_sem, Nat.reduceAdd, Nat.reduceSub, Nat.reduceMul, Nat.reduceDiv, Nat.reduceMod, Nat.reduceLeDiff, Nat.reduceLT, Nat.reduceBEq, Int.reduceToNat, Int.reduceLT, Int.reduceLE, Int.reduceEq, IH1, slD_nil, sg_slD, hab, h89b, ne_eq, not_true_eq_false, not_false_eq_true]
            simp only [rRes] at IH2
            by_cases h2 : er2 ≠ 0 ∨ pt2.isSome = true
            · rw [if_pos h2]
              by_cases hs1 : st2.length = st1.length
              · have hs2 := same_of j3 hs1
                subst hs2
                have rO1f2 := fun t pt e => @rO1_e st2 t pt e hst1
                have rO1g2 := fun t pt e => @rO1_nc st2 t pt e hst1
                rcases pt2 with _ | _ | ⟨y, pt2⟩
                · have h9 : ¬ er2 = 0 := by simpa using h2
                  simp only [go_sem, Nat.reduceAdd, Nat.reduceSub, Nat.reduceMul, Nat.reduceDiv, Nat.reduceMod, Nat.reduceLeDiff, Nat.reduceLT, Nat.reduceBEq, Int.reduceToNat, Int.reduceLT, Int.reduceLE, Int.reduceEq, rO1f2, rO2] at IH2
                  simp only [go_sem, Nat.reduceAdd, Nat.reduceSub, Nat.reduceMul, Nat.reduceDiv, Nat.reduceMod, Nat.reduceLeDiff, Nat.reduceLT, Nat.reduceBEq, Int.reduceToNat, Int.reduceLT, Int.reduceLE, Int.reduceEq, rO1g2, rO2, rRes, slD_nil, sg_slD, hab, h89b, ne_eq, not_true_eq_false, not_false_eq_true, IH2, h9]
                · skip
                  simp only [go_sem, Nat.reduceAdd, Nat.reduceSub, Nat.reduceMul, Nat.reduceDiv, Nat.reduceMod, Nat.reduceLeDiff, Nat.reduceLT, Nat.reduceBEq, Int.reduceToNat, Int.reduceLT, Int.reduceLE, Int.reduceEq, rO1f2, rO2] at IH2
                  by_cases h9 : er2 = 0
                  · subst h9
                    simp only [go_sem, Nat.reduceAdd, Nat.reduceSub, Nat.reduceMul, Nat.reduceDiv, Nat.reduceMod, Nat.reduceLeDiff, Nat.reduceLT, Nat.reduceBEq, Int.reduceToNat, Int.reduceLT, Int.reduceLE, Int.reduceEq, rO1g2, rO2, rRes, slD_nil, sg_slD, hab, h89b, ne_eq, not_true_eq_false, not_false_eq_true, IH2]
                  · simp only [go_sem, Nat.reduceAdd, Nat.reduceSub, Nat.reduceMul, Nat.reduceDiv, Nat.reduceMod, Nat.reduceLeDiff, Nat.reduceLT, Nat.reduceBEq, Int.reduceToNat, Int.reduceLT, Int.reduceLE, Int.reduceEq, rO1g2, rO2, rRes, slD_nil, sg_slD, hab, h89b, ne_eq, not_true_eq_false, not_false_eq_true, IH2, h9]
                · skip
                  simp only [go_sem, Nat.reduceAdd, Nat.reduceSub, Nat.reduceMul, Nat.reduceDiv, Nat.reduceMod, Nat.reduceLeDiff, Nat.reduceLT, Nat.reduceBEq, Int.reduceToNat, Int.reduceLT, Int.reduceLE, Int.reduceEq, rO1f2, rO2] at IH2
                  by_cases h9 : er2 = 0
                  · subst h9
                    simp only [go_sem, Nat.reduceAdd, Nat.reduceSub, Nat.reduceMul, Nat.reduceDiv, Nat.reduceMod, Nat.reduceLeDiff, Nat.reduceLT, Nat.reduceBEq, Int.reduceToNat, Int.reduceLT, Int.reduceLE, Int.reduceEq, rO1g2, rO2, rRes, slD_nil, sg_slD, hab, h89b, ne_eq, not_true_eq_false, not_false_eq_true, IH2]
                  · simp only [go_sem, Nat.reduceAdd, Nat.reduceSub, Nat.reduceMul, Nat.reduceDiv, Nat.reduceMod, Nat.reduceLeDiff, Nat.reduceLT, Nat.reduceBEq, Int.reduceToNat, Int.reduceLT, Int.reduceLE, Int.reduceEq, rO1g2, rO2, rRes, slD_nil, sg_slD, hab, h89b, ne_eq, not_true_eq_false, not_false_eq_true, IH2, h9]
              · have hl2 : st1.length ≤ st2.length := by rw [j3, List.length_append]; omega
                have hst2 : st2 ≠ [] := fun h => by rw [h] at hl2 hs1; simp only [List.length_nil] at hl2 hs1; omega
                have rO1f2 := fun t pt e => @rO1_cn st1 st2 t pt e hst1 hs1
                have rO1g2 := fun t pt e => @rO1_nc st2 t pt e hst2
                rcases pt2 with _ | _ | ⟨y, pt2⟩
                · have h9 : ¬ er2 = 0 := by simpa using h2
                  simp only [go_sem, Nat.reduceAdd, Nat.reduceSub, Nat.reduceMul, Nat.reduceDiv, Nat.reduceMod, Nat.reduceLeDiff, Nat.reduceLT, Nat.reduceBEq, Int.reduceToNat, Int.reduceLT, Int.reduceLE, Int.reduceEq, rO1f2, rO2] at IH2
                  simp only [go_sem, Nat.reduceAdd, Nat.reduceSub, Nat.reduceMul, Nat.reduceDiv, Nat.reduceMod, Nat.reduceLeDiff, Nat.reduceLT, Nat.reduceBEq, Int.reduceToNat, Int.reduceLT, Int.reduceLE, Int.reduceEq, rO1g2, rO2, rRes, slD_nil, sg_slD, hab, h89b, ne_eq, not_true_eq_false, not_false_eq_true, IH2, h9]
                · skip
                  simp only [go_sem, Nat.reduceAdd, Nat.reduceSub, Nat.reduceMul, Nat.reduceDiv, Nat.reduceMod, Nat.reduceLeDiff, Nat.reduceLT, Nat.reduceBEq, Int.reduceToNat, Int.reduceLT, Int.reduceLE, Int.reduceEq, rO1f2, rO2] at IH2
                  by_cases h9 : er2 = 0
                  · subst h9
                    simp only [go_sem, Nat.reduceAdd, Nat.reduceSub, Nat.reduceMul, Nat.reduceDiv, Nat.reduceMod, Nat.reduceLeDiff, Nat.reduceLT, Nat.reduceBEq, Int.reduceToNat, Int.reduceLT, Int.reduceLE, Int.reduceEq, rO1g2, rO2, rRes, slD_nil, sg_slD, hab, h89b, ne_eq, not_true_eq_false, not_false_eq_true, IH2]
                  · simp only [go_sem, Nat.reduceAdd, Nat.reduceSub, Nat.reduceMul, Nat.reduceDiv, Nat.reduceMod, Nat.reduceLeDiff, Nat.reduceLT, Nat.reduceBEq, Int.reduceToNat, Int.reduceLT, Int.reduceLE, Int.reduceEq, rO1g2, rO2, rRes, slD_nil, sg_slD, hab, h89b, ne_eq, not_true_eq_false, not_false_eq_true, IH2, h9]
                · skip
                  simp only [go_sem, Nat.reduceAdd, Nat.reduceSub, Nat.reduceMul, Nat.reduceDiv, Nat.reduceMod, Nat.reduceLeDiff, Nat.reduceLT, Nat.reduceBEq, Int.reduceToNat, Int.reduceLT, Int.reduceLE, Int.reduceEq, rO1f2, rO2] at IH2
                  by_cases h9 : er2 = 0
                  · subst h9
                    simp only [go_sem, Nat.reduceAdd, Nat.reduceSub, Nat.reduceMul, Nat.reduceDiv, Nat.reduceMod, Nat.reduceLeDiff, Nat.reduceLT, Nat.reduceBEq, Int.reduceToNat, Int.reduceLT, Int.reduceLE, Int.reduceEq, rO1g2, rO2, rRes, slD_nil, sg_slD, hab, h89b, ne_eq, not_true_eq_false, not_false_eq_true, IH2]
                  · simp only [go_sem, Nat.reduceAdd, Nat.reduceSub, Nat.reduceMul, Nat.reduceDiv, Nat.reduceMod, Nat.reduceLeDiff, Nat.reduceLT, Nat.reduceBEq, Int.reduceToNat, Int.reduceLT, Int.reduceLE, Int.reduceEq, rO1g2, rO2, rRes, slD_nil, sg_slD, hab, h89b, ne_eq, not_true_eq_false, not_false_eq_true, IH2, h9]
            · rw [if_neg h2]
              have h2e : er2 = 0 := Decidable.byContradiction fun h => h2 (Or.inl h)
              have h2p : pt2 = none := by
                cases hp : pt2 with
                | none => rfl
                | some l => rw [hp] at h2; exact absurd (Or.inr rfl) h2
              subst h2e h2p
              have j5 := j4 rfl rfl
              rw [rO1_cn hst1 (by omega)] at IH2
              simp only [go_sem, Nat.reduceAdd, Nat.reduceSub, Nat.reduceMul, Nat.reduceDiv, Nat.reduceMod, Nat.reduceLeDiff, Nat.reduceLT, Nat.reduceBEq, Int.reduceToNat, Int.reduceLT, Int.reduceLE, Int.reduceEq, rO2] at IH2
              have h5 : (st2.length + 1) * 121 ≤ 70368744177664 := by omega
              rw [rRes, rO1_nc (by simp), List.length_append, List.map_append]
              simp only [go_sem, Nat.reduceAdd, Nat.reduceSub, Nat.reduceMul, Nat.reduceDiv, Nat.reduceMod, Nat.reduceLeDiff, Nat.reduceLT, Nat.reduceBEq, Int.reduceToNat, Int.reduceLT, Int.reduceLE, Int.reduceEq, rO2, slD_nil, sg_slD, hab, h89b, ne_eq, not_true_eq_false, not_false_eq_true, IH2, h5]
              rfl
        | cons a st =>
          have hst : (a :: st) ≠ [] := by simp
          rw [rI_c hst, rS_c hst] at IH1 ⊢
          conv => lhs; simp only [go_sem, Nat.reduceAdd, Nat.reduceSub, Nat.reduceMul, Nat.reduceDiv, Nat.reduceMod, Nat.reduceLeDiff, Nat.reduceLT, Nat.reduceBEq, Int.reduceToNat, Int.reduceLT, Int.reduceLE, Int.reduceEq, ir61, sg_slD, e0, e1, h13, slD_nil, hb', hl0, hsv, hlh, had, h88, h89a, hab]
          simp only [rRes] at IH1
          by_cases h1 : er1 ≠ 0 ∨ pt1.isSome = true
          · rw [if_pos h1]
            by_cases hs1 : st1.length = (a :: st).length
            · have hs2 := same_of i3 hs1
              subst hs2
              have rO1f1 := @rO1_ce st a
              have rO1g1 := @rO1_ce st a
              rcases pt1 with _ | _ | ⟨y, pt1⟩
              · have h9 : ¬ er1 = 0 := by simpa using h1
                simp only [go_sem, Nat.reduceAdd, Nat.reduceSub, Nat.reduceMul, Nat.reduceDiv, Nat.reduceMod, Nat.reduceLeDiff, Nat.reduceLT, Nat.reduceBEq, Int.reduceToNat, Int.reduceLT, Int.reduceLE, Int.reduceEq, rO1f1, rO2] at IH1
                simp only [go_sem, Nat.reduceAdd, Nat.reduceSub, Nat.reduceMul, Nat.reduceDiv, Nat.reduceMod, Nat.reduceLeDiff, Nat.reduceLT, Nat.reduceBEq, Int.reduceToNat, Int.reduceLT, Int.reduceLE, Int.reduceEq, rO1g1, rO2, rRes, slD_nil, sg_slD, hab, h89b, ne_eq, not_true_eq_false, not_false_eq_true, IH1, h9]
              · skip
                simp only [go_sem, Nat.reduceAdd, Nat.reduceSub, Nat.reduceMul, Nat.reduceDiv, Nat.reduceMod, Nat.reduceLeDiff, Nat.reduceLT, Nat.reduceBEq, Int.reduceToNat, Int.reduceLT, Int.reduceLE, Int.reduceEq, rO1f1, rO2] at IH1
                by_cases h9 : er1 = 0
                · subst h9
                  simp only [go_sem, Nat.reduceAdd, Nat.reduceSub, Nat.reduceMul, Nat.reduceDiv, Nat.reduceMod, Nat.reduceLeDiff, Nat.reduceLT, Nat.reduceBEq, Int.reduceToNat, Int.reduceLT, Int.reduceLE, Int.reduceEq, rO1g1, rO2, rRes, slD_nil, sg_slD, hab, h89b, ne_eq, not_true_eq_false, not_false_eq_true, IH1]
                · simp only [go_sem, Nat.reduceAdd, Nat.reduceSub, Nat.reduceMul, Nat.reduceDiv, Nat.reduceMod, Nat.reduceLeDiff, Nat.reduceLT, Nat.reduceBEq, Int.reduceToNat, Int.reduceLT, Int.reduceLE, Int.reduceEq, rO1g1, rO2, rRes, slD_nil, sg_slD, hab, h89b, ne_eq, not_true_eq_false, not_false_eq_true, IH1, h9]
              · skip
                simp only [go_sem, Nat.reduceAdd, Nat.reduceSub, Nat.reduceMul, Nat.reduceDiv, Nat.reduceMod, Nat.reduceLeDiff, Nat.reduceLT, Nat.reduceBEq, Int.reduceToNat, Int.reduceLT, Int.reduceLE, Int.reduceEq, rO1f1, rO2] at IH1
                by_cases h9 : er1 = 0
                · subst h9
                  simp only [go_sem, Nat.reduceAdd, Nat.reduceSub, Nat.reduceMul, Nat.reduceDiv, Nat.reduceMod, Nat.reduceLeDiff, Nat.reduceLT, Nat.reduceBEq, Int.reduceToNat, Int.reduceLT, Int.reduceLE, Int.reduceEq, rO1g1, rO2, rRes, slD_nil, sg_slD, hab, h89b, ne_eq, not_true_eq_false, not_false_eq_true, IH1]
                · simp only [go_sem, Nat.reduceAdd, Nat.reduceSub, Nat.reduceMul, Nat.reduceDiv, Nat.reduceMod, Nat.reduceLeDiff, Nat.reduceLT, Nat.reduceBEq, Int.reduceToNat, Int.reduceLT, Int.reduceLE, Int.reduceEq, rO1g1, rO2, rRes, slD_nil, sg_slD, hab, h89b, ne_eq, not_true_eq_false, not_false_eq_true, IH1, h9]
            · have rO1f1 := fun t pt e => @rO1_cn (a :: st) st1 t pt e hst hs1
              have rO1g1 := rO1f1
              rcases pt1 with _ | _ | ⟨y, pt1⟩
              · have h9 : ¬ er1 = 0 := by simpa using h1
                simp only [go_sem, Nat.reduceAdd, Nat.reduceSub, Nat.reduceMul, Nat.reduceDiv, Nat.reduceMod, Nat.reduceLeDiff, Nat.reduceLT, Nat.reduceBEq, Int.reduceToNat, Int.reduceLT, Int.reduceLE, Int.reduceEq, rO1f1, rO2] at IH1
                simp only [go_sem, Nat.reduceAdd, Nat.reduceSub, Nat.reduceMul, Nat.reduceDiv, Nat.reduceMod, Nat.reduceLeDiff, Nat.reduceLT, Nat.reduceBEq, Int.reduceToNat, Int.reduceLT, Int.reduceLE, Int.reduceEq, rO1g1, rO2, rRes, slD_nil, sg_slD, hab, h89b, ne_eq, not_true_eq_false, not_false_eq_true, IH1, h9]
              · skip
                simp only [go_sem, Nat.reduceAdd, Nat.reduceSub, Nat.reduceMul, Nat.reduceDiv, Nat.reduceMod, Nat.reduceLeDiff, Nat.reduceLT, Nat.reduceBEq, Int.reduceToNat, Int.reduceLT, Int.reduceLE, Int.reduceEq, rO1f1, rO2] at IH1
                by_cases h9 : er1 = 0
                · subst h9
                  simp only [go_sem, Nat.reduceAdd, Nat.reduceSub, Nat.reduceMul, Nat.reduceDiv, Nat.reduceMod, Nat.reduceLeDiff, Nat.reduceLT, Nat.reduceBEq, Int.reduceToNat, Int.reduceLT, Int.reduceLE, Int.reduceEq, rO1g1, rO2, rRes, slD_nil, sg_slD, hab, h89b, ne_eq, not_true_eq_false, not_false_eq_true, IH1]
                · simp only [go_sem, Nat.reduceAdd, Nat.reduceSub, Nat.reduceMul, Nat.reduceDiv, Nat.reduceMod, Nat.reduceLeDiff, Nat.reduceLT, Nat.reduceBEq, Int.reduceToNat, Int.reduceLT, Int.reduceLE, Int.reduceEq, rO1g1, rO2, rRes, slD_nil, sg_slD, hab, h89b, ne_eq, not_true_eq_false, not_false_eq_true, IH1, h9]
              · skip
                simp only [go_sem, Nat.reduceAdd, Nat.reduceSub, Nat.reduceMul, Nat.reduceDiv, Nat.reduceMod, Nat.reduceLeDiff, Nat.reduceLT, Nat.reduceBEq, Int.reduceToNat, Int.reduceLT, Int.reduceLE, Int.reduceEq, rO1f1, rO2] at IH1
                by_cases h9 : er1 = 0
                · subst h9
                  simp only [go_sem, Nat.reduceAdd, Nat.reduceSub, Nat.reduceMul, Nat.reduceDiv, Nat.reduceMod, Nat.reduceLeDiff, Nat.reduceLT, Nat.reduceBEq, Int.reduceToNat, Int.reduceLT, Int.reduceLE, Int.reduceEq, rO1g1, rO2, rRes, slD_nil, sg_slD, hab, h89b, ne_eq, not_true_eq_false, not_false_eq_true, IH1]
                · simp only [go_sem, Nat.reduceAdd, Nat.reduceSub, Nat.reduceMul, Nat.reduceDiv, Nat.reduceMod, Nat.reduceLeDiff, Nat.reduceLT, Nat.reduceBEq, Int.reduceToNat, Int.reduceLT, Int.reduceLE, Int.reduceEq, rO1g1, rO2, rRes, slD_nil, sg_slD, hab, h89b, ne_eq, not_true_eq_false, not_false_eq_true, IH1, h9]
          · rw [if_neg h1]
            have h1e : er1 = 0 := Decidable.byContradiction fun h => h1 (Or.inl h)
            have h1p : pt1 = none := by
              cases hp : pt1 with
              | none => rfl
              | some l => rw [hp] at h1; exact absurd (Or.inr rfl) h1
            subst h1e h1p
            have i5 := i4 rfl rfl
            have hst1 : st1 ≠ [] := fun h => by rw [h] at i5; simp at i5
            rw [rO1_cn hst (by omega)] at IH1
            simp only [go_sem, Nat.reduceAdd, Nat.reduceSub, Nat.reduceMul, Nat.reduceDiv, Nat.reduceMod, Nat.reduceLeDiff, Nat.reduceLT, Nat.reduceBEq, Int.reduceToNat, Int.reduceLT, Int.reduceLE, Int.reduceEq, rO2] at IH1
            rw [rI_c hst1, rS_c hst1] at IH2
            conv => lhs; simp only [go_sem, Nat.reduceAdd, Nat.reduceSub, Nat.reduceMul, Nat.reduceDiv, Nat.reduceMod, Nat.reduceLeDiff, Nat.reduceLT, Nat.reduceBEq, Int.reduceToNat, Int.reduceLT, Int.reduceLE, Int.reduceEq, IH1, slD_nil, sg_slD, hab, h89b, ne_eq, not_true_eq_false, not_false_eq_true]
            simp only [rRes] at IH2
            by_cases h2 : er2 ≠ 0 ∨ pt2.isSome = true
            · rw [if_pos h2]
              by_cases hs1 : st2.length = st1.length
              · have hs2 := same_of j3 hs1
                subst hs2
                have rO1f2 := fun t pt e => @rO1_e st2 t pt e hst1
                have rO1g2 := fun t pt e => @rO1_cn (a :: st) st2 t pt e hst (by omega)
                rcases pt2 with _ | _ | ⟨y, pt2⟩
                · have h9 : ¬ er2 = 0 := by simpa using h2
                  simp only [go_sem, Nat.reduceAdd, Nat.reduceSub, Nat.reduceMul, Nat.reduceDiv, Nat.reduceMod, Nat.reduceLeDiff, Nat.reduceLT, Nat.reduceBEq, Int.reduceToNat, Int.reduceLT, Int.reduceLE, Int.reduceEq, rO1f2, rO2] at IH2
                  simp only [go_sem, Nat.reduceAdd, Nat.reduceSub, Nat.reduceMul, Nat.reduceDiv, Nat.reduceMod, Nat.reduceLeDiff, Nat.reduceLT, Nat.reduceBEq, Int.reduceToNat, Int.reduceLT, Int.reduceLE, Int.reduceEq, rO1g2, rO2, rRes, slD_nil, sg_slD, hab, h89b, ne_eq, not_true_eq_false, not_false_eq_true, IH2, h9]
                · skip
                  simp only [go_sem, Nat.reduceAdd, Nat.reduceSub, Nat.reduceMul, Nat.reduceDiv, Nat.reduceMod, Nat.reduceLeDiff, Nat.reduceLT, Nat.reduceBEq, Int.reduceToNat, Int.reduceLT, Int.reduceLE, Int.reduceEq, rO1f2, rO2] at IH2
                  by_cases h9 : er2 = 0
                  · subst h9
                    simp only [go_sem, Nat.reduceAdd, Nat.reduceSub, Nat.reduceMul, Nat.reduceDiv, Nat.reduceMod, Nat.reduceLeDiff, Nat.reduceLT, Nat.reduceBEq, Int.reduceToNat, Int.reduceLT, Int.reduceLE, Int.reduceEq, rO1g2, rO2, rRes, slD_nil, sg_slD, hab, h89b, ne_eq, not_true_eq_false, not_false_eq_true, IH2]
                  · simp only [go_sem, Nat.reduceAdd, Nat.reduceSub, Nat.reduceMul, Nat.reduceDiv, Nat.reduceMod, Nat.reduceLeDiff, Nat.reduceLT, Nat.reduceBEq, Int.reduceToNat, Int.reduceLT, Int.reduceLE, Int.reduceEq, rO1g2, rO2, rRes, slD_nil, sg_slD, hab, h89b, ne_eq, not_true_eq_false, not_false_eq_true, IH2, h9]
                · skip
                  simp only [go_sem, Nat.reduceAdd, Nat.reduceSub, Nat.reduceMul, Nat.reduceDiv, Nat.reduceMod, Nat.reduceLeDiff, Nat.reduceLT, Nat.reduceBEq, Int.reduceToNat, Int.reduceLT, Int.reduceLE, Int.reduceEq, rO1f2, rO2] at IH2
                  by_cases h9 : er2 = 0
                  · subst h9
                    simp only [go_sem, Nat.reduceAdd, Nat.reduceSub, Nat.reduceMul, Nat.reduceDiv, Nat.reduceMod, Nat.reduceLeDiff, Nat.reduceLT, Nat.reduceBEq, Int.reduceToNat, Int.reduceLT, Int.reduceLE, Int.reduceEq, rO1g2, rO2, rRes, slD_nil, sg_slD, hab, h89b, ne_eq, not_true_eq_false, not_false_eq_true, IH2]
                  · simp only [go_sem, Nat.reduceAdd, Nat.reduceSub, Nat.reduceMul, Nat.reduceDiv, Nat.reduceMod, Nat.reduceLeDiff, Nat.reduceLT, Nat.reduceBEq, Int.reduceToNat, Int.reduceLT, Int.reduceLE, Int.reduceEq, rO1g2, rO2, rRes, slD_nil, sg_slD, hab, h89b, ne_eq, not_true_eq_false, not_false_eq_true, IH2, h9]
              · have hl2 : st1.length ≤ st2.length := by rw [j3, List.length_append]; omega
                have hst2 : st2 ≠ [] := fun h => by rw [h] at hl2 hs1; simp only [List.length_nil] at hl2 hs1; omega
                have rO1f2 := fun t pt e => @rO1_cn st1 st2 t pt e hst1 hs1
                have rO1g2 := fun t pt e => @rO1_cn (a :: st) st2 t pt e hst (by omega)
                rcases pt2 with _ | _ | ⟨y, pt2⟩
                · have h9 : ¬ er2 = 0 := by simpa using h2
                  simp only [go_sem, Nat.reduceAdd, Nat.reduceSub, Nat.reduceMul, Nat.reduceDiv, Nat.reduceMod, Nat.reduceLeDiff, Nat.reduceLT, Nat.reduceBEq, Int.reduceToNat, Int.reduceLT, Int.reduceLE, Int.reduceEq, rO1f2, rO2] at IH2
                  simp only [go_sem, Nat.reduceAdd, Nat.reduceSub, Nat.reduceMul, Nat.reduceDiv, Nat.reduceMod, Nat.reduceLeDiff, Nat.reduceLT, Nat.reduceBEq, Int.reduceToNat, Int.reduceLT, Int.reduceLE, Int.reduceEq, rO1g2, rO2, rRes, slD_nil, sg_slD, hab, h89b, ne_eq, not_true_eq_false, not_false_eq_true, IH2, h9]
                · skip
                  simp only [go_sem, Nat.reduceAdd, Nat.reduceSub, Nat.reduceMul, Nat.reduceDiv, Nat.reduceMod, Nat.reduceLeDiff, Nat.reduceLT, Nat.reduceBEq, Int.reduceToNat, Int.reduceLT, Int.reduceLE, Int.reduceEq, rO1f2, rO2] at IH2
                  by_cases h9 : er2 = 0
                  · subst h9
                    simp only [go_sem, Nat.reduceAdd, Nat.reduceSub, Nat.reduceMul, Nat.reduceDiv, Nat.reduceMod, Nat.reduceLeDiff, Nat.reduceLT, Nat.reduceBEq, Int.reduceToNat, Int.reduceLT, Int.reduceLE, Int.reduceEq, rO1g2, rO2, rRes, slD_nil, sg_slD, hab, h89b, ne_eq, not_true_eq_false, not_false_eq_true, IH2]
                  · simp only [go_sem, Nat.reduceAdd, Nat.reduceSub, Nat.reduceMul, Nat.reduceDiv, Nat.reduceMod, Nat.reduceLeDiff, Nat.reduceLT, Nat.reduceBEq, Int.reduceToNat, Int.reduceLT, Int.reduceLE, Int.reduceEq, rO1g2, rO2, rRes, slD_nil, sg_slD, hab, h89b, ne_eq, not_true_eq_false, not_false_eq_true, IH2, h9]
                · skip
                  simp only [go_sem, Nat.reduceAdd, Nat.reduceSub, Nat.reduceMul, Nat.reduceDiv, Nat.reduceMod, Nat.reduceLeDiff, Nat.reduceLT, Nat.reduceBEq, Int.reduceToNat, Int.reduceLT, Int.reduceLE, Int.reduceEq, rO1f2, rO2] at IH2
                  by_cases h9 : er2 = 0
                  · subst h9
                    simp only [go_sem, Nat.reduceAdd, Nat.reduceSub, Nat.reduceMul, Nat.reduceDiv, Nat.reduceMod, Nat.reduceLeDiff, Nat.reduceLT, Nat.reduceBEq, Int.reduceToNat, Int.reduceLT, Int.reduceLE, Int.reduceEq, rO1g2, rO2, rRes, slD_nil, sg_slD, hab, h89b, ne_eq, not_true_eq_false, not_false_eq_true, IH2]
                  · simp only [go_sem, Nat.reduceAdd, Nat.reduceSub, Nat.reduceMul, Nat.reduceDiv, Nat.reduceMod, Nat.reduceLeDiff, Nat.reduceLT, Nat.reduceBEq, Int.reduceToNat, Int.reduceLT, Int.reduceLE, Int.reduceEq, rO1g2, rO2, rRes, slD_nil, sg_slD, hab, h89b, ne_eq, not_true_eq_false, not_false_eq_true, IH2, h9]
            · rw [if_neg h2]
              have h2e : er2 = 0 := Decidable.byContradiction fun h => h2 (Or.inl h)
              have h2p : pt2 = none := by
                cases hp : pt2 with
                | none => rfl
                | some l => rw [hp] at h2; exact absurd (Or.inr rfl) h2
              subst h2e h2p
              have j5 := j4 rfl rfl
              rw [rO1_cn hst1 (by omega)] at IH2
              simp only [go_sem, Nat.reduceAdd, Nat.reduceSub, Nat.reduceMul, Nat.reduceDiv, Nat.reduceMod, Nat.reduceLeDiff, Nat.reduceLT, Nat.reduceBEq, Int.reduceToNat, Int.reduceLT, Int.reduceLE, Int.reduceEq, rO2] at IH2
              have h5 : (st2.length + 1) * 121 ≤ 70368744177664 := by omega
              have hx : ¬ (st2 ++ [splitOf v b (sb st1.length 1) (sb st2.length 1)]).length = (a :: st).length := by
                rw [List.length_append, List.length_singleton]; omega
              rw [rRes, rO1_cn hst hx, List.length_append, List.map_append]
              simp only [go_sem, Nat.reduceAdd, Nat.reduceSub, Nat.reduceMul, Nat.reduceDiv, Nat.reduceMod, Nat.reduceLeDiff, Nat.reduceLT, Nat.reduceBEq, Int.reduceToNat, Int.reduceLT, Int.reduceLE, Int.reduceEq, rO2, slD_nil, sg_slD, hab, h89b, ne_eq, not_true_eq_false, not_false_eq_true, IH2, h5]
              rfl
end Go.Vm.P12

/- Chapter 12, the reference: Decide. -/
set_option maxRecDepth 100000
set_option maxHeartbeats 8000000
namespace Go.Vm.P12
open Go Go.Vm
def ptD : Option (List Int) → D
  | none => .nil
  | some l => slD false 1 (l.map ic)
def rD (r : RR) : D := .agg [slD true 9 (r.st.map enT), ptD r.pt, .int .i64 r.t, .int .i64 r.e]
theorem rD_n {pt : Option (List Int)} {t : Nat} {e : Int} : rD ⟨[], pt, t, e⟩ = .agg [.nil, ptD pt, .int .i64 t, .int .i64 e] := rfl
theorem rD_c {st1 : List Stp} {pt : Option (List Int)} {t : Nat} {e : Int} (h : st1 ≠ []) : rD ⟨st1, pt, t, e⟩ = .agg [.sl 9 (st1.map enT), ptD pt, .int .i64 t, .int .i64 e] := by
  cases st1 with
  | nil => exact absurd rfl h
  | cons a l => rfl
theorem ok61P (n : Nat) : ∀ (f t : Nat) (c : Cl), c.Even → t < 1000000000 → t ≤ f →
    callP (level E (n + f + 9)) 61 [.agg (enC c), .agg [.nil, .nil, .int .i64 t, .int .i64 0]] = some (rD (rdec f t c []))
  | 0, t, c, hc, hb, ht => by
    have : t = 0 := by omega
    subst this
    rw [show n + 0 + 9 = n + 8 + 1 from rfl, p61]
    simp only [go_sem, Nat.reduceAdd, Nat.reduceSub, Nat.reduceMul, Nat.reduceDiv, Nat.reduceMod, Nat.reduceLeDiff, Nat.reduceLT, Nat.reduceBEq, Int.reduceToNat, Int.reduceLT, Int.reduceLE, Int.reduceEq, sg_slD, rdec, slD_nil, rD_n, ptD]
  | f + 1, 0, c, hc, hb, ht => by
    rw [show n + (f + 1) + 9 = n + f + 9 + 1 by omega, p61]
    simp only [go_sem, Nat.reduceAdd, Nat.reduceSub, Nat.reduceMul, Nat.reduceDiv, Nat.reduceMod, Nat.reduceLeDiff, Nat.reduceLT, Nat.reduceBEq, Int.reduceToNat, Int.reduceLT, Int.reduceLE, Int.reduceEq, sg_slD, rdec, slD_nil, rD_n, ptD]
  | f + 1, t + 1, c, hc, hb, ht => by
    have h13 : callP (level E (n + f + 9)) 13 [.agg (enC c)] = some (rdirD c) := ok13 (n + f + 6) c hc
    have e0 : ¬ ((t + 1 : Nat) : Int) = 0 := by omega
    have e1 : wrp .i64 (((t + 1 : Nat) : Int) - 1) = (t : Int) := by rw [wrp_ok (by omega)]; omega
    rw [show n + (f + 1) + 9 = n + f + 9 + 1 by omega, p61]
    simp only [rdec]
    unfold rdirD at h13
    cases hd : rdir c with
    | some s =>
      rw [hd] at h13
      simp only [go_sem, Nat.reduceAdd, Nat.reduceSub, Nat.reduceMul, Nat.reduceDiv, Nat.reduceMod, Nat.reduceLeDiff, Nat.reduceLT, Nat.reduceBEq, Int.reduceToNat, Int.reduceLT, Int.reduceLE, Int.reduceEq] at h13
      simp only [go_sem, Nat.reduceAdd, Nat.reduceSub, Nat.reduceMul, Nat.reduceDiv, Nat.reduceMod, Nat.reduceLeDiff, Nat.reduceLT, Nat.reduceBEq, Int.reduceToNat, Int.reduceLT, Int.reduceLE, Int.reduceEq, sg_slD, e0, e1, h13, slD_nil, rD, ptD, List.nil_append, List.map_cons, List.map_nil, slD_cons]
    | none =>
      rw [hd] at h13
      simp only [go_sem, Nat.reduceAdd, Nat.reduceSub, Nat.reduceMul, Nat.reduceDiv, Nat.reduceMod, Nat.reduceLeDiff, Nat.reduceLT, Nat.reduceBEq, Int.reduceToNat, Int.reduceLT, Int.reduceLE, Int.reduceEq, zSt, slD_nil] at h13
      obtain ⟨v, hve⟩ : ∃ v, v = rwid c.sp := ⟨_, rfl⟩
      obtain ⟨s, hs⟩ : ∃ s, s = c.sp.getD v ⟨0, 0⟩ := ⟨_, rfl⟩
      rw [← hve, ← hs]
      have ha := l61a (lo := level E (n + f + 9)) (c := c) (t := t) hc.fit.sp (c.sp.drop 1) 1 0 rfl (by omega)
      have hb' : ∀ k a l, _ := fun k a l => l61b (lo := level E (n + f + 9)) (c := c) (t := t) (k := k) (a := a) (l := l) hc.fit.sp (c.sp.drop 1) 1 0 rfl (by omega)
      have hp := l61p (lo := level E (n + f + 9)) (c := c) (t := t) hc.fit.sp c.sp [] 0 rfl rfl
      have hq : ∀ k a l, _ := fun k a l => l61q (lo := level E (n + f + 9)) (c := c) (t := t) (k := k) (a := a) (l := l) hc.fit.sp c.sp [] 0 rfl rfl
      have hcv : rwids c.sp (c.sp.drop 1) 1 0 = v := hve.symm
      rw [hcv] at ha
      simp only [hcv] at hb'
      have n0 : (((0 : Nat)) : Int) = 0 := rfl
      have n1 : (((1 : Nat)) : Int) = 1 := rfl
      simp only [n0, n1] at ha hb' hp hq
      simp only [go_sem, Nat.reduceAdd, Nat.reduceSub, Nat.reduceMul, Nat.reduceDiv, Nat.reduceMod, Nat.reduceLeDiff, Nat.reduceLT, Nat.reduceBEq, Int.reduceToNat, Int.reduceLT, Int.reduceLE, Int.reduceEq] at ha hb'
      by_cases hz : c.sp.length = 0 ∨ s.lo = s.hi
      · rw [if_pos hz]
        have hzz : c.sp = [] ∨ (∃ x l, c.sp = x :: l) ∧ ¬ ((c.sp.length : Nat) : Int) = 0 ∧ c.sp[v]? = some s ∧ s.lo = s.hi := by
          cases hcs : c.sp with
          | nil => exact Or.inl rfl
          | cons x l =>
            refine Or.inr ⟨⟨x, l, rfl⟩, by simp; omega, ?_, ?_⟩
            · have hvl := rwid_lt (l := c.sp) (by rw [hcs]; simp)
              rw [← hve] at hvl
              rw [← hcs, hs, List.getD_eq_getElem?_getD, List.getElem?_eq_getElem hvl]
              rfl
            · rcases hz with hz | hz
              · rw [hcs] at hz; simp at hz
              · exact hz
        rcases hzz with hcs | ⟨⟨x, l, hcs⟩, hl0, hsv, hlh⟩
        · have hl0 : ((c.sp.length : Nat) : Int) = 0 := by rw [hcs]; rfl
          rw [hcs, List.map_nil] at hp hq
          simp only [go_sem, Nat.reduceAdd, Nat.reduceSub, Nat.reduceMul, Nat.reduceDiv, Nat.reduceMod, Nat.reduceLeDiff, Nat.reduceLT, Nat.reduceBEq, Int.reduceToNat, Int.reduceLT, Int.reduceLE, Int.reduceEq, eK, oK] at hp hq
          rw [show c.sp.map (·.lo) = [] by rw [hcs]; rfl]
          simp only [go_sem, Nat.reduceAdd, Nat.reduceSub, Nat.reduceMul, Nat.reduceDiv, Nat.reduceMod, Nat.reduceLeDiff, Nat.reduceLT, Nat.reduceBEq, Int.reduceToNat, Int.reduceLT, Int.reduceLE, Int.reduceEq, sg_slD, e0, e1, h13, slD_nil, ha, hl0, hp, rD_n, ptD, slD_f]
        · have hm : c.sp.map (·.lo) = x.lo :: l.map (·.lo) := by rw [hcs]; rfl
          rw [hm] at hp ⊢
          simp only [hm] at hq
          simp only [go_sem, Nat.reduceAdd, Nat.reduceSub, Nat.reduceMul, Nat.reduceDiv, Nat.reduceMod, Nat.reduceLeDiff, Nat.reduceLT, Nat.reduceBEq, Int.reduceToNat, Int.reduceLT, Int.reduceLE, Int.reduceEq, eK, oK] at hp hq
          simp only [go_sem, Nat.reduceAdd, Nat.reduceSub, Nat.reduceMul, Nat.reduceDiv, Nat.reduceMod, Nat.reduceLeDiff, Nat.reduceLT, Nat.reduceBEq, Int.reduceToNat, Int.reduceLT, Int.reduceLE, Int.reduceEq, sg_slD, e0, e1, h13, slD_nil, ha, hl0, hsv, hlh, hp, rD_n, ptD, slD_f]
      · rw [if_neg hz]
        have hz1 : ¬ c.sp.length = 0 := fun h => hz (Or.inl h)
        have hlh : ¬ s.lo = s.hi := fun h => hz (Or.inr h)
        have hl0 : ¬ ((c.sp.length : Nat) : Int) = 0 := by omega
        have hvl : v < c.sp.length := hve ▸ rwid_lt (by omega)
        have hsv : c.sp[v]? = some s := by rw [hs, List.getD_eq_getElem?_getD, List.getElem?_eq_getElem hvl]; rfl
        have had : wrp .i64 (s.lo + s.hi) = ad s.lo s.hi := rfl
        obtain ⟨b, hb0⟩ : ∃ b, b = quo2 (ad s.lo s.hi) := ⟨_, rfl⟩
        have h88 : callP (level E (n + f + 9)) 88 [.int .i64 (ad s.lo s.hi), .int .i64 2] = some (.int .i64 b) := hb0 ▸ ok88 (n + f + 8) _
        have h89a : callP (level E (n + f + 9)) 89 [.agg (enC c), .int .i64 v, .agg (enS ⟨s.lo, b⟩)] = some (.agg (enC (nar c v ⟨s.lo, b⟩))) := ok89 (n + f + 8) c v _ hvl hc.fit.sp
        have h89b : callP (level E (n + f + 9)) 89 [.agg (enC c), .int .i64 v, .agg (enS ⟨ad b 1, s.hi⟩)] = some (.agg (enC (nar c v ⟨ad b 1, s.hi⟩))) := ok89 (n + f + 8) c v _ hvl hc.fit.sp
        have hab : wrp .i64 (b + 1) = ad b 1 := rfl
        rw [← hb0]
        obtain ⟨c0, hc0⟩ : ∃ c0, c0 = nar c v ⟨s.lo, b⟩ := ⟨_, rfl⟩
        obtain ⟨c1, hc1⟩ : ∃ c1, c1 = nar c v ⟨ad b 1, s.hi⟩ := ⟨_, rfl⟩
        have ev0 : c0.Even := hc0 ▸ nar_even hc _ _
        have ev1 : c1.Even := hc1 ▸ nar_even hc _ _
        rw [← hc0] at h89a
        rw [← hc1] at h89b
        rw [← hc0, ← hc1]
        have IH1 := ok61 n f t c0 [] ev0 (by simp; omega) (by omega)
        obtain ⟨i1, i2, ⟨z1, i3⟩, i4⟩ := rdec_inv f t c0 []
        generalize rdec f t c0 [] = r1 at IH1 i1 i2 i3 i4
        obtain ⟨st1, pt1, t1, er1⟩ := r1
        simp only at i1 i2 i3 i4
        have IH2 := ok61 n f t1 c1 st1 ev1 (by simp only [List.length_nil] at i2; omega) (by omega)
        obtain ⟨j1, j2, ⟨z2, j3⟩, j4⟩ := rdec_inv f t1 c1 st1
        generalize rdec f t1 c1 st1 = r2 at IH2 j1 j2 j3 j4
        obtain ⟨st2, pt2, t2, er2⟩ := r2
        simp only at j1 j2 j3 j4
        simp only [go_sem, Nat.reduceAdd, Nat.reduceSub, Nat.reduceMul, Nat.reduceDiv, Nat.reduceMod, Nat.reduceLeDiff, Nat.reduceLT, Nat.reduceBEq, Int.reduceToNat, Int.reduceLT, Int.reduceLE, Int.reduceEq] at h89a h89b
        simp only [List.length_nil] at i2 i4
        rw [rI_n, rS_n] at IH1
        conv => lhs; simp only [go_sem, Nat.reduceAdd, Nat.reduceSub, Nat.reduceMul, Nat.reduceDiv, Nat.reduceMod, Nat.reduceLeDiff, Nat.reduceLT, Nat.reduceBEq, Int.reduceToNat, Int.reduceLT, Int.reduceLE, Int.reduceEq, sg_slD, e0, e1, h13, slD_nil, ha, hl0, hsv, hlh, had, h88, h89a, hab]
        simp only [rRes] at IH1
        by_cases h1 : er1 ≠ 0 ∨ pt1.isSome = true
        · rw [if_pos h1]
          by_cases hs1 : st1.length = ([] : List Stp).length
          · have hs2 := same_of i3 hs1
            subst hs2
            have rO1f1 := @rO1_nn
            have rO1g1 := @rD_n
            rcases pt1 with _ | _ | ⟨y, pt1⟩
            · have h9 : ¬ er1 = 0 := by simpa using h1
              simp only [go_sem, Nat.reduceAdd, Nat.reduceSub, Nat.reduceMul, Nat.reduceDiv, Nat.reduceMod, Nat.reduceLeDiff, Nat.reduceLT, Nat.reduceBEq, Int.reduceToNat, Int.reduceLT, Int.reduceLE, Int.reduceEq, rO1f1, rO2] at IH1
              simp only [go_sem, Nat.reduceAdd, Nat.reduceSub, Nat.reduceMul, Nat.reduceDiv, Nat.reduceMod, Nat.reduceLeDiff, Nat.reduceLT, Nat.reduceBEq, Int.reduceToNat, Int.reduceLT, Int.reduceLE, Int.reduceEq, rO1g1, ptD, slD_f, tk_map, slD_nil, sg_slD, hab, h89b, ne_eq, not_true_eq_false, not_false_eq_true, IH1, h9]
            · skip
              simp only [go_sem, Nat.reduceAdd, Nat.reduceSub, Nat.reduceMul, Nat.reduceDiv, Nat.reduceMod, Nat.reduceLeDiff, Nat.reduceLT, Nat.reduceBEq, Int.reduceToNat, Int.reduceLT, Int.reduceLE, Int.reduceEq, rO1f1, rO2] at IH1
              by_cases h9 : er1 = 0
              · subst h9
                simp only [go_sem, Nat.reduceAdd, Nat.reduceSub, Nat.reduceMul, Nat.reduceDiv, Nat.reduceMod, Nat.reduceLeDiff, Nat.reduceLT, Nat.reduceBEq, Int.reduceToNat, Int.reduceLT, Int.reduceLE, Int.reduceEq, rO1g1, ptD, slD_f, tk_map, slD_nil, sg_slD, hab, h89b, ne_eq, not_true_eq_false, not_false_eq_true, IH1]
              · simp only [go_sem, Nat.reduceAdd, Nat.reduceSub, Nat.reduceMul, Nat.reduceDiv, Nat.reduceMod, Nat.reduceLeDiff, Nat.reduceLT, Nat.reduceBEq, Int.reduceToNat, Int.reduceLT, Int.reduceLE, Int.reduceEq, rO1g1, ptD, slD_f, tk_map, slD_nil, sg_slD, hab, h89b, ne_eq, not_true_eq_false, not_false_eq_true, IH1, h9]
            · skip
              simp only [go_sem, Nat.reduceAdd, Nat.reduceSub, Nat.reduceMul, Nat.reduceDiv, Nat.reduceMod, Nat.reduceLeDiff, Nat.reduceLT, Nat.reduceBEq, Int.reduceToNat, Int.reduceLT, Int.reduceLE, Int.reduceEq, rO1f1, rO2] at IH1
              by_cases h9 : er1 = 0
              · subst h9
                simp only [go_sem, Nat.reduceAdd, Nat.reduceSub, Nat.reduceMul, Nat.reduceDiv, Nat.reduceMod, Nat.reduceLeDiff, Nat.reduceLT, Nat.reduceBEq, Int.reduceToNat, Int.reduceLT, Int.reduceLE, Int.reduceEq, rO1g1, ptD, slD_f, tk_map, slD_nil, sg_slD, hab, h89b, ne_eq, not_true_eq_false, not_false_eq_true, IH1]
              · simp only [go_sem, Nat.reduceAdd, Nat.reduceSub, Nat.reduceMul, Nat.reduceDiv, Nat.reduceMod, Nat.reduceLeDiff, Nat.reduceLT, Nat.reduceBEq, Int.reduceToNat, Int.reduceLT, Int.reduceLE, Int.reduceEq, rO1g1, ptD, slD_f, tk_map, slD_nil, sg_slD, hab, h89b, ne_eq, not_true_eq_false, not_false_eq_true, IH1, h9]
          · have hs2 : st1 ≠ [] := fun h => hs1 (by rw [h])
            have rO1f1 := fun t pt e => @rO1_nc st1 t pt e hs2
            have rO1g1 := fun t pt e => @rD_c st1 pt t e hs2
            rcases pt1 with _ | _ | ⟨y, pt1⟩
            · have h9 : ¬ er1 = 0 := by simpa using h1
              simp only [go_sem, Nat.reduceAdd, Nat.reduceSub, Nat.reduceMul, Nat.reduceDiv, Nat.reduceMod, Nat.reduceLeDiff, Nat.reduceLT, Nat.reduceBEq, Int.reduceToNat, Int.reduceLT, Int.reduceLE, Int.reduceEq, rO1f1, rO2] at IH1
              simp only [go_sem, Nat.reduceAdd, Nat.reduceSub, Nat.reduceMul, Nat.reduceDiv, Nat.reduceMod, Nat.reduceLeDiff, Nat.reduceLT, Nat.reduceBEq, Int.reduceToNat, Int.reduceLT, Int.reduceLE, Int.reduceEq, rO1g1, ptD, slD_f, tk_map, slD_nil, sg_slD, hab, h89b, ne_eq, not_true_eq_false, not_false_eq_true, IH1, h9]
            · skip
              simp only [go_sem, Nat.reduceAdd, Nat.reduceSub, Nat.reduceMul, Nat.reduceDiv, Nat.reduceMod, Nat.reduceLeDiff, Nat.reduceLT, Nat.reduceBEq, Int.reduceToNat, Int.reduceLT, Int.reduceLE, Int.reduceEq, rO1f1, rO2] at IH1
              by_cases h9 : er1 = 0
              · subst h9
                simp only [go_sem, Nat.reduceAdd, Nat.reduceSub, Nat.reduceMul, Nat.reduceDiv, Nat.reduceMod, Nat.reduceLeDiff, Nat.reduceLT, Nat.reduceBEq, Int.reduceToNat, Int.reduceLT, Int.reduceLE, Int.reduceEq, rO1g1, ptD, slD_f, tk_map, slD_nil, sg_slD, hab, h89b, ne_eq, not_true_eq_false, not_false_eq_true, IH1]
              · simp only [go_sem, Nat.reduceAdd, Nat.reduceSub, Nat.reduceMul, Nat.reduceDiv, Nat.reduceMod, Nat.reduceLeDiff, Nat.reduceLT, Nat.reduceBEq, Int.reduceToNat, Int.reduceLT, Int.reduceLE, Int.reduceEq, rO1g1, ptD, slD_f, tk_map, slD_nil, sg_slD, hab, h89b, ne_eq, not_true_eq_false, not_false_eq_true, IH1, h9]
            · skip
              simp only [go_sem, Nat.reduceAdd, Nat.reduceSub, Nat.reduceMul, Nat.reduceDiv, Nat.reduceMod, Nat.reduceLeDiff, Nat.reduceLT, Nat.reduceBEq, Int.reduceToNat, Int.reduceLT, Int.reduceLE, Int.reduceEq, rO1f1, rO2] at IH1
              by_cases h9 : er1 = 0
              · subst h9
                simp only [go_sem, Nat.reduceAdd, Nat.reduceSub, Nat.reduceMul, Nat.reduceDiv, Nat.reduceMod, Nat.reduceLeDiff, Nat.reduceLT, Nat.reduceBEq, Int.reduceToNat, Int.reduceLT, Int.reduceLE, Int.reduceEq, rO1g1, ptD, slD_f, tk_map, slD_nil, sg_slD, hab, h89b, ne_eq, not_true_eq_false, not_false_eq_true, IH1]
              · simp only [go_sem, Nat.reduceAdd, Nat.reduceSub, Nat.reduceMul, Nat.reduceDiv, Nat.reduceMod, Nat.reduceLeDiff, Nat.reduceLT, Nat.reduceBEq, Int.reduceToNat, Int.reduceLT, Int.reduceLE, Int.reduceEq, rO1g1, ptD, slD_f, tk_map, slD_nil, sg_slD, hab, h89b, ne_eq, not_true_eq_false, not_false_eq_true, IH1, h9]
        · rw [if_neg h1]
          have h1e : er1 = 0 := Decidable.byContradiction fun h => h1 (Or.inl h)
          have h1p : pt1 = none := by
            cases hp : pt1 with
            | none => rfl
            | some l => rw [hp] at h1; exact absurd (Or.inr rfl) h1
          subst h1e h1p
          have i5 := i4 rfl rfl
          have hst1 : st1 ≠ [] := fun h => by rw [h] at i5; simp at i5
          rw [rO1_nc hst1] at IH1
          simp only [go_sem, Nat.reduceAdd, Nat.reduceSub, Nat.reduceMul, Nat.reduceDiv, Nat.reduceMod, Nat.reduceLeDiff, Nat.reduceLT, Nat.reduceBEq, Int.reduceToNat, Int.reduceLT, Int.reduceLE, Int.reduceEq, rO2] at IH1
          rw [rI_c hst1, rS_c hst1] at IH2
          conv => lhs; simp only [go_sem, Nat.reduceAdd, Nat.reduceSub, Nat.reduceMul, Nat.reduceDiv, Nat.reduceMod, Nat.reduceLeDiff, Nat.reduceLT, Nat.reduceBEq, Int.reduceToNat, Int.reduceLT, Int.reduceLE, Int.reduceEq, IH1, slD_nil, sg_slD, hab, h89b, ne_eq, not_true_eq_false, not_false_eq_true]
          simp only [rRes] at IH2
          by_cases h2 : er2 ≠ 0 ∨ pt2.isSome = true
          · rw [if_pos h2]
            by_cases hs1 : st2.length = st1.length
            · have hs2 := same_of j3 hs1
              subst hs2
              have rO1f2 := fun t pt e => @rO1_e st2 t pt e hst1
              have rO1g2 := fun t pt e => @rD_c st2 pt t e hst1
              rcases pt2 with _ | _ | ⟨y, pt2⟩
              · have h9 : ¬ er2 = 0 := by simpa using h2
                simp only [go_sem, Nat.reduceAdd, Nat.reduceSub, Nat.reduceMul, Nat.reduceDiv, Nat.reduceMod, Nat.reduceLeDiff, Nat.reduceLT, Nat.reduceBEq, Int.reduceToNat, Int.reduceLT, Int.reduceLE, Int.reduceEq, rO1f2, rO2] at IH2
                simp only [go_sem, Nat.reduceAdd, Nat.reduceSub, Nat.reduceMul, Nat.reduceDiv, Nat.reduceMod, Nat.reduceLeDiff, Nat.reduceLT, Nat.reduceBEq, Int.reduceToNat, Int.reduceLT, Int.reduceLE, Int.reduceEq, rO1g2, ptD, slD_f, tk_map, slD_nil, sg_slD, hab, h89b, ne_eq, not_true_eq_false, not_false_eq_true, IH2, h9]
              · skip
                simp only [go_sem, Nat.reduceAdd, Nat.reduceSub, Nat.reduceMul, Nat.reduceDiv, Nat.reduceMod, Nat.reduceLeDiff, Nat.reduceLT, Nat.reduceBEq, Int.reduceToNat, Int.reduceLT, Int.reduceLE, Int.reduceEq, rO1f2, rO2] at IH2
                by_cases h9 : er2 = 0
                · subst h9
                  simp only [go_sem, Nat.reduceAdd, Nat.reduceSub, Nat.reduceMul, Nat.reduceDiv, Nat.reduceMod, Nat.reduceLeDiff, Nat.reduceLT, Nat.reduceBEq, Int.reduceToNat, Int.reduceLT, Int.reduceLE, Int.reduceEq, rO1g2, ptD, slD_f, tk_map, slD_nil, sg_slD, hab, h89b, ne_eq, not_true_eq_false, not_false_eq_true, IH2]
                · simp only [go_sem, Nat.reduceAdd, Nat.reduceSub, Nat.reduceMul, Nat.reduceDiv, Nat.reduceMod, Nat.reduceLeDiff, Nat.reduceLT, Nat.reduceBEq, Int.reduceToNat, Int.reduceLT, Int.reduceLE, Int.reduceEq, rO1g2, ptD, slD_f, tk_map, slD_nil, sg_slD, hab, h89b, ne_eq, not_true_eq_false, not_false_eq_true, IH2, h9]
              · skip
                simp only [go_sem, Nat.reduceAdd, Nat.reduceSub, Nat.reduceMul, Nat.reduceDiv, Nat.reduceMod, Nat.reduceLeDiff, Nat.reduceLT, Nat.reduceBEq, Int.reduceToNat, Int.reduceLT, Int.reduceLE, Int.reduceEq, rO1f2, rO2] at IH2
                by_cases h9 : er2 = 0
                · subst h9
                  simp only [go_sem, Nat.reduceAdd, Nat.reduceSub, Nat.reduceMul, Nat.reduceDiv, Nat.reduceMod, Nat.reduceLeDiff, Nat.reduceLT, Nat.reduceBEq, Int.reduceToNat, Int.reduceLT, Int.reduceLE, Int.reduceEq, rO1g2, ptD, slD_f, tk_map, slD_nil, sg_slD, hab, h89b, ne_eq, not_true_eq_false, not_false_eq_true, IH2]
                · simp only [go_sem, Nat.reduceAdd, Nat.reduceSub, Nat.reduceMul, Nat.reduceDiv, Nat.reduceMod, Nat.reduceLeDiff, Nat.reduceLT, Nat.reduceBEq, Int.reduceToNat, Int.reduceLT, Int.reduceLE, Int.reduceEq, rO1g2, ptD, slD_f, tk_map, slD_nil, sg_slD, hab, h89b, ne_eq, not_true_eq_false, not_false_eq_true, IH2, h9]
            · have hl2 : st1.length ≤ st2.length := by rw [j3, List.length_append]; omega
              have hst2 : st2 ≠ [] := fun h => by rw [h] at hl2 hs1; simp only [List.length_nil] at hl2 hs1; omega
              have rO1f2 := fun t pt e => @rO1_cn st1 st2 t pt e hst1 hs1
              have rO1g2 := fun t pt e => @rD_c st2 pt t e hst2
              rcases pt2 with _ | _ | ⟨y, pt2⟩
              · have h9 : ¬ er2 = 0 := by simpa using h2
                simp only [go_sem, Nat.reduceAdd, Nat.reduceSub, Nat.reduceMul, Nat.reduceDiv, Nat.reduceMod, Nat.reduceLeDiff, Nat.reduceLT, Nat.reduceBEq, Int.reduceToNat, Int.reduceLT, Int.reduceLE, Int.reduceEq, rO1f2, rO2] at IH2
                simp only [go_sem, Nat.reduceAdd, Nat.reduceSub, Nat.reduceMul, Nat.reduceDiv, Nat.reduceMod, Nat.reduceLeDiff, Nat.reduceLT, Nat.reduceBEq, Int.reduceToNat, Int.reduceLT, Int.reduceLE, Int.reduceEq, rO1g2, ptD, slD_f, tk_map, slD_nil, sg_slD, hab, h89b, ne_eq, not_true_eq_false, not_false_eq_true, IH2, h9]
              · skip
                simp only [go_sem, Nat.reduceAdd, Nat.reduceSub, Nat.reduceMul, Nat.reduceDiv, Nat.reduceMod, Nat.reduceLeDiff, Nat.reduceLT, Nat.reduceBEq, Int.reduceToNat, Int.reduceLT, Int.reduceLE, Int.reduceEq, rO1f2, rO2] at IH2
                by_cases h9 : er2 = 0
                · subst h9
                  simp only [go_sem, Nat.reduceAdd, Nat.reduceSub, Nat.reduceMul, Nat.reduceDiv, Nat.reduceMod, Nat.reduceLeDiff, Nat.reduceLT, Nat.reduceBEq, Int.reduceToNat, Int.reduceLT, Int.reduceLE, Int.reduceEq, rO1g2, ptD, slD_f, tk_map, slD_nil, sg_slD, hab, h89b, ne_eq, not_true_eq_false, not_false_eq_true, IH2]
                · simp only [go_sem, Nat.reduceAdd, Nat.reduceSub, Nat.reduceMul, Nat.reduceDiv, Nat.reduceMod, Nat.reduceLeDiff, Nat.reduceLT, Nat.reduceBEq, Int.reduceToNat, Int.reduceLT, Int.reduceLE, Int.reduceEq, rO1g2, ptD, slD_f, tk_map, slD_nil, sg_slD, hab, h89b, ne_eq, not_true_eq_false, not_false_eq_true, IH2, h9]
              · skip
                simp only [go_sem, Nat.reduceAdd, Nat.reduceSub, Nat.reduceMul, Nat.reduceDiv, Nat.reduceMod, Nat.reduceLeDiff, Nat.reduceLT, Nat.reduceBEq, Int.reduceToNat, Int.reduceLT, Int.reduceLE, Int.reduceEq, rO1f2, rO2] at IH2
                by_cases h9 : er2 = 0
                · subst h9
                  simp only [go_sem, Nat.reduceAdd, Nat.reduceSub, Nat.reduceMul, Nat.reduceDiv, Nat.reduceMod, Nat.reduceLeDiff, Nat.reduceLT, Nat.reduceBEq, Int.reduceToNat, Int.reduceLT, Int.reduceLE, Int.reduceEq, rO1g2, ptD, slD_f, tk_map, slD_nil, sg_slD, hab, h89b, ne_eq, not_true_eq_false, not_false_eq_true, IH2]
                · simp only [go_sem, Nat.reduceAdd, Nat.reduceSub, Nat.reduceMul, Nat.reduceDiv, Nat.reduceMod, Nat.reduceLeDiff, Nat.reduceLT, Nat.reduceBEq, Int.reduceToNat, Int.reduceLT, Int.reduceLE, Int.reduceEq, rO1g2, ptD, slD_f, tk_map, slD_nil, sg_slD, hab, h89b, ne_eq, not_true_eq_false, not_false_eq_true, IH2, h9]
          · rw [if_neg h2]
            have h2e : er2 = 0 := Decidable.byContradiction fun h => h2 (Or.inl h)
            have h2p : pt2 = none := by
              cases hp : pt2 with
              | none => rfl
              | some l => rw [hp] at h2; exact absurd (Or.inr rfl) h2
            subst h2e h2p
            have j5 := j4 rfl rfl
            rw [rO1_cn hst1 (by omega)] at IH2
            simp only [go_sem, Nat.reduceAdd, Nat.reduceSub, Nat.reduceMul, Nat.reduceDiv, Nat.reduceMod, Nat.reduceLeDiff, Nat.reduceLT, Nat.reduceBEq, Int.reduceToNat, Int.reduceLT, Int.reduceLE, Int.reduceEq, rO2] at IH2
            have h5 : (st2.length + 1) * 121 ≤ 70368744177664 := by omega
            rw [rD_c (by simp), List.map_append]
            simp only [go_sem, Nat.reduceAdd, Nat.reduceSub, Nat.reduceMul, Nat.reduceDiv, Nat.reduceMod, Nat.reduceLeDiff, Nat.reduceLT, Nat.reduceBEq, Int.reduceToNat, Int.reduceLT, Int.reduceLE, Int.reduceEq, rO2, slD_nil, sg_slD, hab, h89b, ne_eq, not_true_eq_false, not_false_eq_true, IH2, h5]
            rfl
def rdcD (r : RR) : D := if r.e = 0 then
    match r.pt with
    | none => .tup [.agg [slD true 9 (r.st.map enT)], .nil, .bool true, .int .i64 0]
    | some l => .tup [.agg [.nil], slD false 1 (l.map ic), .bool false, .int .i64 0]
  else .tup [.agg [.nil], .nil, .bool false, .int .i64 r.e]
theorem ok18 (n t : Nat) (c : Cl) (hc : c.Even) (hb : t < 1000000000) : callP (level E (n + t + 10)) 18 [.agg (enC c), .int .i64 t] = some (rdcD (rdec t t c [])) := by
  have h := ok61P n t t c hc hb (Nat.le_refl t)
  rw [show n + t + 10 = n + t + 9 + 1 from rfl, p18]
  generalize rdec t t c [] = r at h
  obtain ⟨st, pt, t1, e⟩ := r
  simp only [rD, rdcD] at h ⊢
  by_cases h0 : e = 0
  · subst h0
    rcases pt with _ | _ | ⟨y, pt⟩ <;> rcases st with _ | ⟨a, st⟩ <;> simp only [go_sem, Nat.reduceAdd, Nat.reduceSub, Nat.reduceMul, Nat.reduceDiv, Nat.reduceMod, Nat.reduceLeDiff, Nat.reduceLT, Nat.reduceBEq, Int.reduceToNat, Int.reduceLT, Int.reduceLE, Int.reduceEq, ptD, slD_nil, slD_f, slD_cons] at h <;> simp only [go_sem, Nat.reduceAdd, Nat.reduceSub, Nat.reduceMul, Nat.reduceDiv, Nat.reduceMod, Nat.reduceLeDiff, Nat.reduceLT, Nat.reduceBEq, Int.reduceToNat, Int.reduceLT, Int.reduceLE, Int.reduceEq, h, ne_eq, not_true_eq_false, slD_nil, slD_f, slD_cons]
  · rcases pt with _ | _ | ⟨y, pt⟩ <;> rcases st with _ | ⟨a, st⟩ <;> simp only [go_sem, Nat.reduceAdd, Nat.reduceSub, Nat.reduceMul, Nat.reduceDiv, Nat.reduceMod, Nat.reduceLeDiff, Nat.reduceLT, Nat.reduceBEq, Int.reduceToNat, Int.reduceLT, Int.reduceLE, Int.reduceEq, ptD, slD_nil, slD_f, slD_cons] at h <;> simp only [go_sem, Nat.reduceAdd, Nat.reduceSub, Nat.reduceMul, Nat.reduceDiv, Nat.reduceMod, Nat.reduceLeDiff, Nat.reduceLT, Nat.reduceBEq, Int.reduceToNat, Int.reduceLT, Int.reduceLE, Int.reduceEq, h, h0, ne_eq, not_false_eq_true, slD_nil, slD_f, slD_cons]
end Go.Vm.P12

/- Chapter 12, plain laws: numbers, leaves. -/
set_option maxRecDepth 100000
namespace Go.Vm.P12
open Go Go.Vm
theorem wrp_def (n : Int) : wrp .i64 n = (n + 9223372036854775808) % 18446744073709551616 - 9223372036854775808 := by
  by_cases h : -9223372036854775808 ≤ n ∧ n ≤ 9223372036854775807
  · rw [wrp_ok h]; omega
  · have : wrp .i64 n = IntKind.i64.wrap n := by simp only [wrp, if_neg h]
    rw [this]
    have e1 : (2 ^ IntKind.i64.bits : Int) = 18446744073709551616 := by decide
    have e2 : (2 ^ (IntKind.i64.bits - 1) : Int) = 9223372036854775808 := by decide
    simp only [IntKind.wrap, e1, e2, show IntKind.i64.signed = true from rfl, Bool.true_and, decide_eq_true_eq]
    split <;> omega
def Rng (a : Int) : Prop := -9223372036854775808 ≤ a ∧ a ≤ 9223372036854775807
theorem wrp_rng (n : Int) : Rng (wrp .i64 n) := by
  unfold Rng; rw [wrp_def]; omega
theorem wrp_id {a : Int} (h : Rng a) : wrp .i64 a = a := wrp_ok h
theorem ad_sb1 (c a b : Int) : ad c (sb a b) = sb (ad c a) b := by
  simp only [ad, sb, wrp_def]; omega
theorem ad_sb2 (x h l : Int) : ad x (sb h l) = ad (sb x l) h := by
  simp only [ad, sb, wrp_def]; omega
theorem shr_quo {a : Int} (h : Rng a) : shr1 a = quo2 a := by
  unfold Rng at h
  have e1 : a.fdiv 2 = a / 2 := Int.fdiv_eq_ediv_of_nonneg a (by decide)
  have e2 : a.tdiv 2 = if 0 ≤ a then a / 2 else - ((-a) / 2) := by
    split
    · exact Int.tdiv_eq_ediv_of_nonneg (by assumption)
    · have := Int.neg_tdiv (a := -a) (b := 2)
      rw [Int.neg_neg] at this
      rw [this, Int.tdiv_eq_ediv_of_nonneg (by omega)]
  have e3 : a.tmod 2 = a - 2 * a.tdiv 2 := Int.tmod_def a 2
  unfold shr1 quo2
  rw [e1, e3, e2]
  split
  · rw [if_neg (by omega), wrp_ok (by omega)]
  · split
    · rw [wrp_ok (by omega), sb, wrp_ok (by omega)]; omega
    · rw [wrp_ok (by omega)]; omega
theorem prv_core : ∀ (xs lw hg : List Int) (sp : List Sp) (c : Int), xs.length = lw.length → xs.length = hg.length → xs.length = sp.length →
    (match rrg xs lw hg sp c with | some d => (prX xs lw hg).all (fun n => decide (n = 0)) = true ∧ prC c lw hg sp = d | none => (prX xs lw hg).all (fun n => decide (n = 0)) = false)
  | [], [], [], [], c, _, _, _ => by simp [rrg, prX, prC]
  | x :: xs, l :: ls, h :: hs, s :: ss, c, e1, e2, e3 => by
    have IH := prv_core xs ls hs ss (rrC c l h s) (by simpa using e1) (by simpa using e2) (by simpa using e3)
    have hx : ad x (sb h l) = rrX x l h := ad_sb2 x h l
    have hcc : ad c (sb (ml l s.lo) (ml h s.hi)) = rrC c l h s := ad_sb1 _ _ _
    simp only [rrg, prX, prC, hx, hcc, List.all_cons]
    by_cases h0 : rrX x l h = 0
    · rw [if_pos h0]
      simp only [h0, decide_true, Bool.true_and]
      exact IH
    · rw [if_neg h0]
      simp [h0]
  | [], _ :: _, _, _, c, e1, _, _ => by simp at e1
  | [], [], _ :: _, _, c, _, e2, _ => by simp at e2
  | [], [], [], _ :: _, c, _, _, e3 => by simp at e3
  | _ :: _, [], _, _, c, e1, _, _ => by simp at e1
  | _ :: _, _ :: _, [], _, c, _, e2, _ => by simp at e2
  | _ :: _, _ :: _, _ :: _, [], c, _, _, e3 => by simp at e3
theorem lft_rlft : ∀ (gs : List Ln) (ks : List Int) (x z : Ln), x.co = z.co → x.c = z.c → (lft x gs ks).co = (rlft z gs ks).co ∧ (lft x gs ks).c = (rlft z gs ks).c
  | [], ks, x, z, h1, h2 => by cases ks <;> exact ⟨h1, h2⟩
  | g :: gs, [], x, z, h1, h2 => ⟨h1, h2⟩
  | g :: gs, k :: ks, x, z, h1, h2 => by
    simp only [lft, rlft]
    refine lft_rlft gs ks _ _ ?_ ?_
    · simp only [pls, rpl, h1]; rfl
    · simp only [pls, rpl, h2]; rfl
theorem left_rleft (y : Stp) (c : Cl) : (left y c).co = (rleft y c).co ∧ (left y c).c = (rleft y c).c := lft_rlft c.gv y.gv _ _ rfl rfl
theorem prv_right {y : Stp} {c : Cl} (hc : c.Even) (h1 : y.lw.length = c.sp.length) (h2 : y.hg.length = c.sp.length) : prv y c = rright y c := by
  obtain ⟨e1, e2⟩ := left_rleft y c
  have hll : (left y c).co.length = c.sp.length := lft_len c.gv y.gv _ (by simp [pls, hc.go]) hc.gv
  have key := prv_core (left y c).co y.lw y.hg c.sp (left y c).c (by omega) (by omega) (by omega)
  unfold prv rright
  rw [← e1, ← e2]
  have ea : (!(prX (left y c).co y.lw y.hg).any fun n => decide (n ≠ 0)) = (prX (left y c).co y.lw y.hg).all (fun n => decide (n = 0)) := by
    rw [List.not_any_eq_all_not]
    congr 1; funext n; simp
  rw [ea]
  cases hr : rrg (left y c).co y.lw y.hg c.sp (left y c).c with
  | none =>
    rw [hr] at key
    simp only at key
    rw [key]; simp
  | some d =>
    rw [hr] at key
    simp only at key
    rw [key.1, key.2]
    simp [ng, sb]
end Go.Vm.P12

/- Chapter 12, plain laws: the leaves of both sides. -/
set_option maxRecDepth 100000
namespace Go.Vm.P12
open Go Go.Vm
def nz (s : Stp) : Stp := { s with gn := false, ln := false, hn := false }
structure Canon (x : Ln) : Prop where
  co : ∀ a ∈ x.co, Rng a
  c : Rng x.c
theorem zip_canon {f : Int} : ∀ (l m : List Int), ∀ a ∈ List.zipWith (fun a b => ad a (ml f b)) l m, Rng a
  | [], _, a, h => by simp at h
  | _ :: _, [], a, h => by simp at h
  | x :: l, y :: m, a, h => by
    simp only [List.zipWith_cons_cons, List.mem_cons] at h
    rcases h with rfl | h
    · exact wrp_rng _
    · exact zip_canon l m a h
theorem pls_canon (f : Int) (x o : Ln) : Canon (pls f x o) := ⟨zip_canon x.co o.co, wrp_rng _⟩
theorem zip_zero : ∀ (l m : List Int), (∀ a ∈ l, Rng a) → l.length = m.length → List.zipWith (fun a b => ad a (ml 0 b)) l m = l
  | [], _, _, _ => by simp
  | x :: l, [], _, h => by simp at h
  | x :: l, y :: m, hr, h => by
    simp only [List.zipWith_cons_cons]
    rw [zip_zero l m (fun a ha => hr a (by simp [ha])) (by simpa using h)]
    congr 1
    have : ml 0 y = 0 := by simp only [ml, Int.zero_mul]; decide
    rw [this, ad, Int.add_zero, wrp_id (hr x (by simp))]
theorem pls_zero {x g : Ln} (hx : Canon x) (h : x.co.length = g.co.length) : pls (ng 0) x g = x := by
  have e : ng 0 = 0 := by decide
  have e2 : ml 0 g.c = 0 := by simp only [ml, Int.zero_mul]; decide
  obtain ⟨nl, co, c⟩ := x
  simp only [pls, e, zip_zero co g.co hx.co h, e2]
  rw [ad, Int.add_zero, wrp_id hx.c]
theorem lft_zero : ∀ (gs : List Ln) (x : Ln), Canon x → (∀ g ∈ gs, x.co.length = g.co.length) → lft x gs (List.replicate gs.length 0) = x
  | [], x, _, _ => rfl
  | g :: gs, x, hx, hl => by
    simp only [List.length_cons, List.replicate_succ, lft]
    rw [pls_zero hx (hl g (by simp))]
    exact lft_zero gs x hx fun g' hg' => hl g' (by simp [hg'])
theorem lft_set : ∀ (gs : List Ln) (x : Ln) (i : Nat) (m : Int) (g : Ln), Canon x → (∀ g ∈ gs, x.co.length = g.co.length) → gs[i]? = some g → lft x gs ((List.replicate gs.length 0).set i m) = pls (ng m) x g
  | [], x, i, m, g, _, _, h => by simp at h
  | g0 :: gs, x, 0, m, g, hx, hl, h => by
    simp only [List.getElem?_cons_zero, Option.some.injEq] at h
    subst h
    simp only [List.length_cons, List.replicate_succ, List.set_cons_zero, lft]
    refine lft_zero gs _ (pls_canon _ _ _) fun g' hg' => ?_
    have h1 := hl g0 (by simp)
    have h2 := hl g' (by simp [hg'])
    simp only [pls, List.length_zipWith]
    omega
  | g0 :: gs, x, i + 1, m, g, hx, hl, h => by
    simp only [List.getElem?_cons_succ] at h
    simp only [List.length_cons, List.replicate_succ, List.set_cons_succ, lft]
    rw [pls_zero hx (hl g0 (by simp))]
    exact lft_set gs x i m g hx (fun g' hg' => hl g' (by simp [hg'])) h
def GoOk (c : Cl) : Prop := Canon c.go
theorem zero_co (c : Cl) (hc : c.Even) : List.zipWith (fun a b => ad a (ml 0 b)) (List.replicate c.sp.length 0) c.go.co = List.replicate c.sp.length 0 :=
  zip_zero _ _ (fun a ha => by rw [List.eq_of_mem_replicate ha]; unfold Rng; omega) (by simp [hc.go])
theorem zip_one : ∀ (m : List Int), (∀ a ∈ m, Rng a) → List.zipWith (fun a b => ad a (ml 1 b)) (List.replicate m.length 0) m = m
  | [], _ => by simp
  | y :: m, hr => by
    simp only [List.length_cons, List.replicate_succ, List.zipWith_cons_cons]
    rw [zip_one m (fun a ha => hr a (by simp [ha]))]
    congr 1
    rw [ml, Int.one_mul, wrp_id (hr y (by simp)), ad, Int.zero_add, wrp_id (hr y (by simp))]
theorem go0 (c : Cl) (hc : c.Even) : pls 0 ⟨false, List.replicate c.sp.length 0, 0⟩ c.go = ⟨false, List.replicate c.sp.length 0, 0⟩ := by
  have e2 : ml 0 c.go.c = 0 := by simp only [ml, Int.zero_mul]; decide
  have e3 : ad 0 0 = 0 := by decide
  simp only [pls, zero_co c hc, e2, e3]
theorem go1 (c : Cl) (hc : c.Even) (hg : GoOk c) : pls 1 ⟨false, List.replicate c.sp.length 0, 0⟩ c.go = ⟨false, c.go.co, c.go.c⟩ := by
  have e1 : List.zipWith (fun a b => ad a (ml 1 b)) (List.replicate c.sp.length 0) c.go.co = c.go.co := by rw [← hc.go]; exact zip_one c.go.co hg.co
  simp only [pls, e1]
  congr 1
  rw [ml, Int.one_mul, wrp_id hg.c, ad, Int.zero_add, wrp_id hg.c]
theorem nz_leaf (c : Cl) (goal : Int) (g : List Int) (l : Ln) (h : (left ⟨true, goal, false, g, true, [], true, [], 0, 0, 0, 0⟩ c).co = l.co) : nz (leafOf c goal g) = nz (rleaf goal g l) := by
  simp only [leafOf, rleaf, nz, h]
  rfl
theorem nz_A (c : Cl) (hc : c.Even) (i : Nat) (g : Ln) (hg : c.gv[i]? = some g) : nz (lf c 0 i 1) = nz (rlA c i g) := by
  refine nz_leaf c 0 _ _ ?_
  simp only [left, go0 c hc]
  rw [lft_set c.gv _ i 1 g ⟨fun a ha => by rw [List.eq_of_mem_replicate ha]; unfold Rng; omega, by unfold Rng; simp⟩ (fun g' hg' => by simp [hc.gv g' hg']) hg]
  have e : ng 1 = -1 := by decide
  rw [e]; rfl
theorem nz_B (c : Cl) (hc : c.Even) (hgo : GoOk c) : nz (lf0 c 1) = nz (rlB c) := by
  refine nz_leaf c 1 _ _ ?_
  simp only [left, go1 c hc hgo]
  rw [lft_zero c.gv ⟨false, c.go.co, c.go.c⟩ ⟨hgo.co, hgo.c⟩ (fun g' hg' => by simp [hc.gv g' hg', hc.go])]
theorem nz_C (c : Cl) (hc : c.Even) (hgo : GoOk c) (i : Nat) (g : Ln) (m : Nat) (hg : c.gv[i]? = some g) : nz (lf c 1 i m) = nz (rlC c i g m) := by
  refine nz_leaf c 1 _ _ ?_
  simp only [left, go1 c hc hgo]
  rw [lft_set c.gv ⟨false, c.go.co, c.go.c⟩ i m g ⟨hgo.co, hgo.c⟩ (fun g' hg' => by simp [hc.gv g' hg', hc.go]) hg]
  rfl
theorem nz_As (c : Cl) (hc : c.Even) : ∀ (r : List Ln) (i : Nat), c.gv.drop i = r → (lfg c 0 1 i r.length).map nz = (rlAs c i r).map nz
  | [], i, _ => rfl
  | g :: r, i, h => by
    obtain ⟨h1, h2, h3⟩ := drop_c h
    simp only [List.length_cons, lfg, lfs, rlAs, List.map_append, List.map_cons, List.map_nil]
    rw [nz_As c hc r (i + 1) h3]
    have := nz_A c hc i g h1
    simp only [List.cons_append, List.nil_append]
    rw [← this]
    rfl
theorem nz_Cm (c : Cl) (hc : c.Even) (hgo : GoOk c) (i : Nat) (g : Ln) (hg : c.gv[i]? = some g) : ∀ (k m : Nat), (lfs c 1 i m k).map nz = (rlCm c i g (m + 1) k).map nz
  | 0, m => rfl
  | k + 1, m => by
    simp only [lfs, rlCm, List.map_cons]
    rw [nz_Cm c hc hgo i g hg k (m + 1), nz_C c hc hgo i g (m + 1) hg]
theorem nz_Cs (c : Cl) (hc : c.Even) (hgo : GoOk c) : ∀ (r : List Ln) (i : Nat), c.gv.drop i = r → (lfg c 1 4 i r.length).map nz = (rlCs c i r).map nz
  | [], i, _ => rfl
  | g :: r, i, h => by
    obtain ⟨h1, h2, h3⟩ := drop_c h
    simp only [List.length_cons, lfg, rlCs, List.map_append]
    rw [nz_Cs c hc hgo r (i + 1) h3, nz_Cm c hc hgo i g h1 4 0]
theorem nz_leaves (c : Cl) (hc : c.Even) (hgo : GoOk c) : (leaves c).map nz = (rleaves c).map nz := by
  simp only [leaves, rleaves, List.map_append, List.map_cons]
  rw [nz_As c hc c.gv 0 rfl, nz_B c hc hgo, nz_Cs c hc hgo c.gv 0 rfl]
theorem prv_nz (s : Stp) (c : Cl) : prv (nz s) c = prv s c := by
  have : left (nz s) c = left s c := left_gv _ _ c rfl rfl
  simp only [prv, this]; rfl
theorem rright_nz (s : Stp) (c : Cl) : rright (nz s) c = rright s c := rfl
theorem lw_len {c : Cl} (hc : c.Even) : ∀ s ∈ leaves c, s.lw.length = c.sp.length ∧ s.hg.length = c.sp.length := by
  have hl : ∀ (goal : Int) (g : List Int), (leafOf c goal g).lw.length = c.sp.length ∧ (leafOf c goal g).hg.length = c.sp.length := by
    intro goal g
    have hll : (left ⟨true, goal, false, g, true, [], true, [], 0, 0, 0, 0⟩ c).co.length = c.sp.length := lft_len c.gv _ _ (by simp [pls, hc.go]) hc.gv
    simp [leafOf, hll]
  have hs : ∀ (g : Int) (i k m : Nat), ∀ s ∈ lfs c g i m k, s.lw.length = c.sp.length ∧ s.hg.length = c.sp.length := by
    intro g i k
    induction k with
    | zero => intro m s h; cases h
    | succ k ih =>
      intro m s h
      rcases List.mem_cons.1 h with rfl | h
      · exact hl _ _
      · exact ih _ s h
  have hg : ∀ (g : Int) (M r i : Nat), ∀ s ∈ lfg c g M i r, s.lw.length = c.sp.length ∧ s.hg.length = c.sp.length := by
    intro g M r
    induction r with
    | zero => intro i s h; cases h
    | succ r ih =>
      intro i s h
      rcases List.mem_append.1 h with h | h
      · exact hs _ _ _ _ s h
      · exact ih _ s h
  intro s h
  simp only [leaves, List.mem_append, List.mem_cons] at h
  rcases h with h | rfl | h
  · exact hg _ _ _ _ s h
  · exact hl _ _
  · exact hg _ _ _ _ s h
theorem find_congr {α : Type} {p q : α → Bool} : ∀ l : List α, (∀ x ∈ l, p x = q x) → l.find? p = l.find? q
  | [], _ => rfl
  | x :: l, h => by
    simp only [List.find?_cons]
    rw [h x (by simp), find_congr l fun y hy => h y (by simp [hy])]
theorem nz_dir (c : Cl) (hc : c.Even) (hgo : GoOk c) : (dir c).map nz = (rdir c).map nz := by
  have h1 : dir c = (leaves c).find? fun s => rright s c := find_congr _ fun s hs => prv_right hc (lw_len hc s hs).1 (lw_len hc s hs).2
  have h2 : ∀ l : List Stp, (l.map nz).find? (fun s => rright s c) = (l.find? fun s => rright s c).map nz := fun l => by
    rw [List.find?_map]; rfl
  rw [h1, ← h2, nz_leaves c hc hgo, h2]; rfl
end Go.Vm.P12

/- Chapter 12, plain laws: the decisions of both sides; the errors of claims. -/
set_option maxRecDepth 100000
namespace Go.Vm.P12
open Go Go.Vm
def SpOk (l : List Sp) : Prop := ∀ s ∈ l, -1048576 ≤ s.lo ∧ s.lo ≤ s.hi ∧ s.hi ≤ 1048576
theorem wdt_ok {s : Sp} (h : -1048576 ≤ s.lo ∧ s.lo ≤ s.hi ∧ s.hi ≤ 1048576) : wdt s = s.hi - s.lo := by
  unfold wdt sb; exact wrp_ok (by omega)
def Rel (l : List Sp) (k : Nat) (fd : Bool) (v : Nat) : Prop := v < l.length ∧ (fd = true → k = v ∧ 0 < wdt (l.getD v ⟨0, 0⟩)) ∧ (fd = false → v = 0 ∧ k = 0 ∧ wdt (l.getD v ⟨0, 0⟩) = 0)
theorem wids_rwids {l : List Sp} (hl : SpOk l) : ∀ (r : List Sp) (i k v : Nat) (fd : Bool), l.drop i = r → Rel l k fd v → Rel l (wids l r i (k, fd)).1 (wids l r i (k, fd)).2 (rwids l r i v)
  | [], i, k, v, fd, h, hR => hR
  | s :: r, i, k, v, fd, h, hR => by
    obtain ⟨h1, h2, h3⟩ := drop_c h
    have hs := hl s (List.mem_of_getElem? h1)
    have hw := wdt_ok hs
    have hg : l.getD i ⟨0, 0⟩ = s := by rw [List.getD_eq_getElem?_getD, h1]; rfl
    obtain ⟨R0, R1, R2⟩ := hR
    simp only [wids, rwids]
    have key : wider l s (k, fd) = decide (wdt (l.getD v ⟨0, 0⟩) < wdt s) := by
      cases fd
      · obtain ⟨e1, e2, e3⟩ := R2 rfl
        simp only [wider, Bool.not_false, Bool.true_or, Bool.and_true]
        apply decide_eq_decide.2
        omega
      · obtain ⟨e1, e2⟩ := R1 rfl
        subst e1
        simp only [wider, Bool.not_true, Bool.false_or]
        by_cases hh : wdt (l.getD k ⟨0, 0⟩) < wdt s
        · simp only [hh, decide_true, Bool.and_true, decide_eq_true_eq]; omega
        · simp only [hh, decide_false, Bool.and_false]
    rw [key]
    by_cases hh : wdt (l.getD v ⟨0, 0⟩) < wdt s
    · simp only [hh, decide_true, if_true]
      refine wids_rwids hl r (i + 1) i i true h3 ⟨h2, fun _ => ⟨rfl, ?_⟩, nofun⟩
      rw [hg]
      cases fd
      · have := (R2 rfl).2.2; omega
      · have := (R1 rfl).2; omega
    · simp only [hh, decide_false, Bool.false_eq_true, if_false]
      exact wids_rwids hl r (i + 1) k v fd h3 ⟨R0, R1, R2⟩
theorem wid_rwid {l : List Sp} (hl : SpOk l) (h0 : l ≠ []) : Rel l (wid l).1 (wid l).2 (rwid l) := by
  cases l with
  | nil => exact absurd rfl h0
  | cons s r =>
    have hs := hl s (by simp)
    have hw := wdt_ok hs
    unfold wid rwid
    have e : wids (s :: r) (s :: r) 0 (0, false) = wids (s :: r) r 1 (if wider (s :: r) s (0, false) then (0, true) else (0, false)) := rfl
    rw [e]
    have e2 : wider (s :: r) s (0, false) = decide (s.lo < s.hi) := by simp [wider]
    rw [e2, show (s :: r).drop 1 = r from rfl]
    by_cases hh : s.lo < s.hi
    · simp only [hh, decide_true, if_true]
      exact wids_rwids hl r 1 0 0 true rfl ⟨by simp, fun _ => ⟨rfl, by simp; omega⟩, nofun⟩
    · simp only [hh, decide_false, Bool.false_eq_true, if_false]
      exact wids_rwids hl r 1 0 0 false rfl ⟨by simp, nofun, fun _ => ⟨rfl, rfl, by simp; omega⟩⟩
theorem mem_set {α : Type} {l : List α} {i : Nat} {a b : α} (h : b ∈ l.set i a) : b = a ∨ b ∈ l := by
  rcases List.mem_or_eq_of_mem_set h with h | h
  · exact .inr h
  · exact .inl h
theorem nar_sp {c : Cl} (h : SpOk c.sp) {v : Nat} {s : Sp} (hs : -1048576 ≤ s.lo ∧ s.lo ≤ s.hi ∧ s.hi ≤ 1048576) : SpOk (nar c v s).sp := by
  intro x hx
  rcases mem_set hx with rfl | hx
  · exact hs
  · exact h x hx
structure Same (r : DR) (q : RR) : Prop where
  t : r.t = q.t
  st : r.st.map nz = q.st.map nz
  e : r.e = q.e
  ok : r.ok = true → q.e = 0 ∧ q.pt = none ∧ r.pt = []
  no : r.ok = false → (q.e ≠ 0 ∧ q.pt = none ∧ r.pt = []) ∨ (q.e = 0 ∧ q.pt = some r.pt)
theorem map_len {α β : Type} {f : α → β} {l m : List α} (h : l.map f = m.map f) : l.length = m.length := by
  have := congrArg List.length h; simpa using this
theorem dec_rdec : ∀ (f t : Nat) (c : Cl) (st st' : List Stp), c.Even → GoOk c → SpOk c.sp → st.map nz = st'.map nz → Same (dec f t c st) (rdec f t c st')
  | 0, t, c, st, st', hc, hg, hs, h => ⟨rfl, h, rfl, nofun, fun _ => .inl ⟨by simp [rdec], rfl, rfl⟩⟩
  | f + 1, 0, c, st, st', hc, hg, hs, h => ⟨rfl, h, rfl, nofun, fun _ => .inl ⟨by simp [rdec], rfl, rfl⟩⟩
  | f + 1, t + 1, c, st, st', hc, hg, hs, h => by
    have hd := nz_dir c hc hg
    simp only [dec, rdec]
    cases hd1 : dir c with
    | some s =>
      cases hd2 : rdir c with
      | none => rw [hd1, hd2] at hd; cases hd
      | some s' =>
        rw [hd1, hd2] at hd
        simp only [Option.map_some, Option.some.injEq] at hd
        simp only
        exact ⟨rfl, by simp [h, hd], rfl, fun _ => ⟨rfl, rfl, rfl⟩, nofun⟩
    | none =>
      cases hd2 : rdir c with
      | some s' => rw [hd1, hd2] at hd; cases hd
      | none =>
        simp only
        cases hsp : c.sp with
        | nil =>
          have e : (wid ([] : List Sp)).2 = false := rfl
          rw [e, if_pos (.inl rfl)]
          exact ⟨rfl, h, rfl, nofun, fun _ => .inr ⟨rfl, rfl⟩⟩
        | cons s0 r0 =>
          rw [← hsp]
          have hne : c.sp ≠ [] := by rw [hsp]; simp
          obtain ⟨R0, R1, R2⟩ := wid_rwid hs hne
          have hl0 : ¬ c.sp.length = 0 := by rw [hsp]; simp
          obtain ⟨v, hv⟩ : ∃ v, v = rwid c.sp := ⟨_, rfl⟩
          rw [← hv] at R0 R1 R2 ⊢
          obtain ⟨s, hsv⟩ : ∃ s, c.sp[v]? = some s := ⟨_, List.getElem?_eq_getElem R0⟩
          have hgd : c.sp.getD v ⟨0, 0⟩ = s := by rw [List.getD_eq_getElem?_getD, hsv]; rfl
          have hsb := hs s (List.mem_of_getElem? hsv)
          have hw := wdt_ok hsb
          rw [hgd] at R1 R2
          cases hwd : (wid c.sp).2
          · obtain ⟨e1, e2, e3⟩ := R2 hwd
            rw [hgd, if_pos (.inr (by omega))]
            exact ⟨rfl, h, rfl, nofun, fun _ => .inr ⟨rfl, rfl⟩⟩
          · obtain ⟨e1, e2⟩ := R1 hwd
            simp only
            rw [e1, hgd, if_neg (by rintro (h | h) <;> omega)]
            have hb : shr1 (ad s.lo s.hi) = quo2 (ad s.lo s.hi) := shr_quo (wrp_rng _)
            have hbv : shr1 (ad s.lo s.hi) = (s.lo + s.hi) / 2 := by
              rw [shr1, ad, wrp_ok (by omega)]; exact Int.fdiv_eq_ediv_of_nonneg _ (by decide)
            rw [← hb]
            obtain ⟨b, hbb⟩ : ∃ b, b = shr1 (ad s.lo s.hi) := ⟨_, rfl⟩
            rw [← hbb] at hbv ⊢
            have hab : ad b 1 = b + 1 := wrp_ok (by omega)
            have S1 := dec_rdec f t (nar c v ⟨s.lo, b⟩) st st' (nar_even hc _ _) hg (nar_sp hs ⟨by simp; omega, by simp; omega, by simp; omega⟩) h
            generalize dec f t (nar c v ⟨s.lo, b⟩) st = r1 at S1
            generalize rdec f t (nar c v ⟨s.lo, b⟩) st' = q1 at S1
            cases hok : r1.ok
            · have := S1.no hok
              have hc1 : q1.e ≠ 0 ∨ q1.pt.isSome = true := by
                rcases this with ⟨h, _⟩ | ⟨_, h⟩
                · exact .inl h
                · exact .inr (by rw [h]; rfl)
              simp only
              rw [if_pos hc1]
              exact ⟨S1.t, S1.st, S1.e, nofun, fun _ => this⟩
            · obtain ⟨o1, o2, o3⟩ := S1.ok hok
              simp only
              rw [if_neg (by rintro (h | h); exact h o1; rw [o2] at h; cases h)]
              rw [← S1.t]
              have S2 := dec_rdec f r1.t (nar c v ⟨ad b 1, s.hi⟩) r1.st q1.st (nar_even hc _ _) hg (nar_sp hs ⟨by simp; omega, by simp; omega, by simp; omega⟩) S1.st
              generalize dec f r1.t (nar c v ⟨ad b 1, s.hi⟩) r1.st = r2 at S2
              generalize rdec f r1.t (nar c v ⟨ad b 1, s.hi⟩) q1.st = q2 at S2
              cases hok2 : r2.ok
              · have := S2.no hok2
                have hc1 : q2.e ≠ 0 ∨ q2.pt.isSome = true := by
                  rcases this with ⟨h, _⟩ | ⟨_, h⟩
                  · exact .inl h
                  · exact .inr (by rw [h]; rfl)
                simp only
                rw [if_pos hc1]
                exact ⟨S2.t, S2.st, S2.e, nofun, fun _ => this⟩
              · obtain ⟨p1, p2, p3⟩ := S2.ok hok2
                simp only
                rw [if_neg (by rintro (h | h); exact h p1; rw [p2] at h; cases h)]
                refine ⟨S2.t, ?_, rfl, fun _ => ⟨rfl, rfl, rfl⟩, nofun⟩
                simp only [List.map_append, List.map_cons, List.map_nil, S2.st, map_len S1.st, map_len S2.st]
end Go.Vm.P12

/- Chapter 12, the laws: comparing, copying. -/
set_option maxRecDepth 100000
namespace Go.Vm.P12
open Go Go.Vm
def x21 (b : Bool) : AExit × S := match b with
  | true => (.exit 0, ⟨[.junk, .junk, .junk, .junk, .junk, .junk, .junk], [], none⟩)
  | false => (.ret, ⟨[.junk, .junk, .imm (.bool false), .junk, .junk, .junk, .junk], [], none⟩)
theorem l21 {lo : Lower} {b1 b2 : Bool} {l m : List Int} (hl : l.length < 4000000000) : ∀ (r r' : List Int) (i : Nat), l.drop i = r → m.drop i = r' → r.length = r'.length →
    outC ⟨0, false⟩ [0, 0, 1, 0, 0, 0, 0] (rnd (aCode lo ⟨0, false⟩ b21_0) (head ⟨0, false⟩ [1, 1, 0, 1, 0, 0, 0])
      ⟨[.imm (slD b1 1 (l.map ic)), .imm (slD b2 1 (m.map ic)), .junk, .imm (.int .i64 i), .junk, .junk, .junk], [], none⟩) = some (x21 (decide (r = r')))
  | [], r', i, h, h', hr => by
    have : r' = [] := List.length_eq_zero_iff.1 hr.symm
    subst this
    rw [rnd_eq]
    simp only [go_sem, Nat.reduceAdd, Nat.reduceSub, Nat.reduceMul, Nat.reduceDiv, Nat.reduceMod, Nat.reduceLeDiff, Nat.reduceLT, Nat.reduceBEq, Int.reduceToNat, Int.reduceLT, Int.reduceLE, Int.reduceEq, lt_f (drop_n h), x21, decide_true]
  | s :: r, [], i, h, h', hr => by simp at hr
  | s :: r, s' :: r', i, h, h', hr => by
    obtain ⟨h1, h2, h3⟩ := drop_c h
    obtain ⟨h1', h2', h3'⟩ := drop_c h'
    have h6 := wrpS (i := i) (by omega)
    rw [rnd_eq]
    by_cases hs : s = s'
    · subst hs
      have IH := l21 (lo := lo) (b1 := b1) (b2 := b2) hl r r' (i + 1) h3 h3' (by simpa using hr)
      have e : decide (s :: r = s :: r') = decide (r = r') := by simp
      simp only [go_sem, Nat.reduceAdd, Nat.reduceSub, Nat.reduceMul, Nat.reduceDiv, Nat.reduceMod, Nat.reduceLeDiff, Nat.reduceLT, Nat.reduceBEq, Int.reduceToNat, Int.reduceLT, Int.reduceLE, Int.reduceEq, lt_t h2, lt_t h2', h1, h1', h6, e, ne_eq, not_true_eq_false]
      exact IH
    · have e : decide (s :: r = s' :: r') = false := by simp [hs]
      simp only [go_sem, Nat.reduceAdd, Nat.reduceSub, Nat.reduceMul, Nat.reduceDiv, Nat.reduceMod, Nat.reduceLeDiff, Nat.reduceLT, Nat.reduceBEq, Int.reduceToNat, Int.reduceLT, Int.reduceLE, Int.reduceEq, lt_t h2, lt_t h2', h1, h1', h6, e, ne_eq, hs, not_false_eq_true, x21]
theorem ok21 (n : Nat) (b1 b2 : Bool) (l m : List Int) (hl : l.length < 4000000000) : callP (level E (n+1)) 21 [slD b1 1 (l.map ic), slD b2 1 (m.map ic)] = some (.bool (decide (l = m))) := by
  rw [p21]
  by_cases h : l.length = m.length
  · have hh := l21 (lo := level E n) (b1 := b1) (b2 := b2) (l := l) (m := m) hl l m 0 rfl rfl h
    rw [cast0] at hh
    have h' : ((l.length : Nat) : Int) = m.length := by omega
    cases hd : decide (l = m) <;> rw [hd] at hh <;> simp only [go_sem, Nat.reduceAdd, Nat.reduceSub, Nat.reduceMul, Nat.reduceDiv, Nat.reduceMod, Nat.reduceLeDiff, Nat.reduceLT, Nat.reduceBEq, Int.reduceToNat, Int.reduceLT, Int.reduceLE, Int.reduceEq, x21] at hh <;> simp only [go_sem, Nat.reduceAdd, Nat.reduceSub, Nat.reduceMul, Nat.reduceDiv, Nat.reduceMod, Nat.reduceLeDiff, Nat.reduceLT, Nat.reduceBEq, Int.reduceToNat, Int.reduceLT, Int.reduceLE, Int.reduceEq, h', ne_eq, not_true_eq_false, hh]
  · have h' : ¬ ((l.length : Nat) : Int) = m.length := by omega
    have e : decide (l = m) = false := by
      rw [decide_eq_false_iff_not]; intro e; rw [e] at h; exact h rfl
    simp only [go_sem, Nat.reduceAdd, Nat.reduceSub, Nat.reduceMul, Nat.reduceDiv, Nat.reduceMod, Nat.reduceLeDiff, Nat.reduceLT, Nat.reduceBEq, Int.reduceToNat, Int.reduceLT, Int.reduceLE, Int.reduceEq, h', ne_eq, not_false_eq_true, e]
def sameStep (a b : Stp) : Bool := decide (a.leaf = b.leaf ∧ a.goal = b.goal ∧ a.gv = b.gv ∧ a.lw = b.lw ∧ a.hg = b.hg ∧ a.va = b.va ∧ a.bo = b.bo ∧ a.k0 = b.k0 ∧ a.k1 = b.k1)
structure Stp.Fit (s : Stp) : Prop where
  gv : s.gv.length < 4000000000
  lw : s.lw.length < 4000000000
  hg : s.hg.length < 4000000000
theorem eq_agg2 {k0 k1 j0 j1 : Int} : aEq (.agg [(0, .int), (1, .int)]) (.imm (.agg [.int .i64 k0, .int .i64 k1])) (.imm (.agg [.int .i64 j0, .int .i64 j1])) = some (decide (k0 = j0) && decide (k1 = j1)) := by
  have e0 : decide (k0 = j0) = (k0 == j0) := rfl
  have e1 : decide (k1 = j1) = (k1 == j1) := rfl
  rw [e0, e1]
  simp only [aEq, eqL, eqE, intEq, List.getElem?_cons_zero, Nat.add_zero, Nat.zero_add, List.getElem?_cons_succ, if_true]
  cases k0 == j0 <;> cases k1 == j1 <;> rfl
theorem ok14 (n : Nat) (a b : Stp) (ha : a.Fit) : callP (level E (n+2)) 14 [.agg (enT a), .agg (enT b)] = some (.bool (sameStep a b)) := by
  obtain ⟨f1, f2, b3, f3, b4, f4, b5, f5, f6, f7, f8, f9⟩ := a
  obtain ⟨g1, g2, c3, g3, c4, g4, c5, g5, g6, g7, g8, g9⟩ := b
  have hg := ok21 n b3 c3 f3 g3 ha.gv
  have hl := ok21 n b4 c4 f4 g4 ha.lw
  have hh := ok21 n b5 c5 f5 g5 ha.hg
  rw [p14]
  unfold sameStep
  by_cases h1 : f1 = g1
  · subst h1
    by_cases h2 : f2 = g2
    · subst h2
      by_cases h3 : f3 = g3
      · subst h3
        by_cases h4 : f4 = g4
        · subst h4
          by_cases h5 : f5 = g5
          · subst h5
            by_cases h6 : f6 = g6
            · subst h6
              by_cases h7 : f7 = g7
              · subst h7
                by_cases h8 : f8 = g8
                · subst h8
                  by_cases h9 : f9 = g9
                  · subst h9
                    simp only [go_sem, Nat.reduceAdd, Nat.reduceSub, Nat.reduceMul, Nat.reduceDiv, Nat.reduceMod, Nat.reduceLeDiff, Nat.reduceLT, Nat.reduceBEq, Int.reduceToNat, Int.reduceLT, Int.reduceLE, Int.reduceEq, hg, hl, hh, beq_self_eq_true, true_and, and_true, false_and, eq_agg2, decide_true, decide_false, Bool.and_true, Bool.true_and, Bool.false_and, Bool.and_false]
                  · simp only [go_sem, Nat.reduceAdd, Nat.reduceSub, Nat.reduceMul, Nat.reduceDiv, Nat.reduceMod, Nat.reduceLeDiff, Nat.reduceLT, Nat.reduceBEq, Int.reduceToNat, Int.reduceLT, Int.reduceLE, Int.reduceEq, hg, hl, hh, beq_self_eq_true, true_and, and_true, false_and, eq_agg2, decide_true, decide_false, Bool.and_true, Bool.true_and, Bool.false_and, Bool.and_false, h9]
                · simp only [go_sem, Nat.reduceAdd, Nat.reduceSub, Nat.reduceMul, Nat.reduceDiv, Nat.reduceMod, Nat.reduceLeDiff, Nat.reduceLT, Nat.reduceBEq, Int.reduceToNat, Int.reduceLT, Int.reduceLE, Int.reduceEq, hg, hl, hh, beq_self_eq_true, true_and, and_true, false_and, eq_agg2, decide_true, decide_false, Bool.and_true, Bool.true_and, Bool.false_and, Bool.and_false, h8]
              · simp only [go_sem, Nat.reduceAdd, Nat.reduceSub, Nat.reduceMul, Nat.reduceDiv, Nat.reduceMod, Nat.reduceLeDiff, Nat.reduceLT, Nat.reduceBEq, Int.reduceToNat, Int.reduceLT, Int.reduceLE, Int.reduceEq, hg, hl, hh, beq_self_eq_true, true_and, and_true, false_and, eq_agg2, decide_true, decide_false, Bool.and_true, Bool.true_and, Bool.false_and, Bool.and_false, h7]
            · simp only [go_sem, Nat.reduceAdd, Nat.reduceSub, Nat.reduceMul, Nat.reduceDiv, Nat.reduceMod, Nat.reduceLeDiff, Nat.reduceLT, Nat.reduceBEq, Int.reduceToNat, Int.reduceLT, Int.reduceLE, Int.reduceEq, hg, hl, hh, beq_self_eq_true, true_and, and_true, false_and, eq_agg2, decide_true, decide_false, Bool.and_true, Bool.true_and, Bool.false_and, Bool.and_false, h6]
          · simp only [go_sem, Nat.reduceAdd, Nat.reduceSub, Nat.reduceMul, Nat.reduceDiv, Nat.reduceMod, Nat.reduceLeDiff, Nat.reduceLT, Nat.reduceBEq, Int.reduceToNat, Int.reduceLT, Int.reduceLE, Int.reduceEq, hg, hl, hh, beq_self_eq_true, true_and, and_true, false_and, eq_agg2, decide_true, decide_false, Bool.and_true, Bool.true_and, Bool.false_and, Bool.and_false, h5]
        · simp only [go_sem, Nat.reduceAdd, Nat.reduceSub, Nat.reduceMul, Nat.reduceDiv, Nat.reduceMod, Nat.reduceLeDiff, Nat.reduceLT, Nat.reduceBEq, Int.reduceToNat, Int.reduceLT, Int.reduceLE, Int.reduceEq, hg, hl, hh, beq_self_eq_true, true_and, and_true, false_and, eq_agg2, decide_true, decide_false, Bool.and_true, Bool.true_and, Bool.false_and, Bool.and_false, h4]
      · simp only [go_sem, Nat.reduceAdd, Nat.reduceSub, Nat.reduceMul, Nat.reduceDiv, Nat.reduceMod, Nat.reduceLeDiff, Nat.reduceLT, Nat.reduceBEq, Int.reduceToNat, Int.reduceLT, Int.reduceLE, Int.reduceEq, hg, hl, hh, beq_self_eq_true, true_and, and_true, false_and, eq_agg2, decide_true, decide_false, Bool.and_true, Bool.true_and, Bool.false_and, Bool.and_false, h3]
    · simp only [go_sem, Nat.reduceAdd, Nat.reduceSub, Nat.reduceMul, Nat.reduceDiv, Nat.reduceMod, Nat.reduceLeDiff, Nat.reduceLT, Nat.reduceBEq, Int.reduceToNat, Int.reduceLT, Int.reduceLE, Int.reduceEq, hg, hl, hh, beq_self_eq_true, true_and, and_true, false_and, eq_agg2, decide_true, decide_false, Bool.and_true, Bool.true_and, Bool.false_and, Bool.and_false, h2]
  · have e : (f1 == g1) = false := by simpa using h1
    simp only [go_sem, Nat.reduceAdd, Nat.reduceSub, Nat.reduceMul, Nat.reduceDiv, Nat.reduceMod, Nat.reduceLeDiff, Nat.reduceLT, Nat.reduceBEq, Int.reduceToNat, Int.reduceLT, Int.reduceLE, Int.reduceEq, hg, hl, hh, beq_self_eq_true, true_and, and_true, false_and, eq_agg2, decide_true, decide_false, Bool.and_true, Bool.true_and, Bool.false_and, Bool.and_false, h1, e]
def x19 (b : Bool) : AExit × S := match b with
  | true => (.exit 0, ⟨[.junk, .junk, .junk, .junk, .junk, .junk, .junk, .junk, .junk], [], none⟩)
  | false => (.ret, ⟨[.junk, .junk, .imm (.bool false), .junk, .junk, .junk, .junk, .junk, .junk], [], none⟩)
def sameSteps : List Stp → List Stp → Bool
  | [], [] => true
  | a :: r, b :: r' => sameStep a b && sameSteps r r'
  | _, _ => false
theorem l19 {n : Nat} {b1 b2 : Bool} {l m : List Stp} (hl : l.length < 4000000000) (hf : ∀ s ∈ l, s.Fit) : ∀ (r r' : List Stp) (i : Nat), l.drop i = r → m.drop i = r' → r.length = r'.length →
    outC ⟨0, false⟩ [0, 0, 1, 0, 0, 0, 0, 0, 0] (rnd (aCode (level E (n + 2)) ⟨0, false⟩ b19_0) (head ⟨0, false⟩ [0, 0, 0, 1, 1, 1, 0, 0, 0])
      ⟨[.junk, .junk, .junk, .ptr 0 0, .ptr 1 0, .imm (.int .i64 i), .junk, .junk, .junk], [.box [.imm (slD b1 9 (l.map enT))], .box [.imm (slD b2 9 (m.map enT))]], none⟩) = some (x19 (sameSteps r r'))
  | [], r', i, h, h', hr => by
    have : r' = [] := List.length_eq_zero_iff.1 hr.symm
    subst this
    rw [rnd_eq]
    simp only [go_sem, Nat.reduceAdd, Nat.reduceSub, Nat.reduceMul, Nat.reduceDiv, Nat.reduceMod, Nat.reduceLeDiff, Nat.reduceLT, Nat.reduceBEq, Int.reduceToNat, Int.reduceLT, Int.reduceLE, Int.reduceEq, lt_f (drop_n h), x19, sameSteps]
  | s :: r, [], i, h, h', hr => by simp at hr
  | s :: r, s' :: r', i, h, h', hr => by
    obtain ⟨h1, h2, h3⟩ := drop_c h
    obtain ⟨h1', h2', h3'⟩ := drop_c h'
    have h6 := wrpS (i := i) (by omega)
    have h14 := ok14 n s s' (hf s (List.mem_of_getElem? h1))
    have IH := l19 (n := n) (b1 := b1) (b2 := b2) hl hf r r' (i + 1) h3 h3' (by simpa using hr)
    rw [rnd_eq]
    simp only [go_sem, Nat.reduceAdd, Nat.reduceSub, Nat.reduceMul, Nat.reduceDiv, Nat.reduceMod, Nat.reduceLeDiff, Nat.reduceLT, Nat.reduceBEq, Int.reduceToNat, Int.reduceLT, Int.reduceLE, Int.reduceEq] at h14
    cases hs : sameStep s s' <;> rw [hs] at h14
    · simp only [go_sem, Nat.reduceAdd, Nat.reduceSub, Nat.reduceMul, Nat.reduceDiv, Nat.reduceMod, Nat.reduceLeDiff, Nat.reduceLT, Nat.reduceBEq, Int.reduceToNat, Int.reduceLT, Int.reduceLE, Int.reduceEq, lt_t h2, lt_t h2', h1, h1', h6, h14, sameSteps, hs, Bool.false_and, x19]
    · simp only [go_sem, Nat.reduceAdd, Nat.reduceSub, Nat.reduceMul, Nat.reduceDiv, Nat.reduceMod, Nat.reduceLeDiff, Nat.reduceLT, Nat.reduceBEq, Int.reduceToNat, Int.reduceLT, Int.reduceLE, Int.reduceEq, lt_t h2, lt_t h2', h1, h1', h6, h14, sameSteps, hs, Bool.true_and]
      exact IH
def sameProof (l m : List Stp) : Bool := decide (l.length = m.length) && sameSteps l m
theorem ok19 (n : Nat) (b1 b2 : Bool) (l m : List Stp) (hl : l.length < 4000000000) (hf : ∀ s ∈ l, s.Fit) : callP (level E (n+3)) 19 [.agg [slD b1 9 (l.map enT)], .agg [slD b2 9 (m.map enT)]] = some (.bool (sameProof l m)) := by
  rw [p19]
  unfold sameProof
  by_cases h : l.length = m.length
  · have hh := l19 (n := n) (b1 := b1) (b2 := b2) hl hf l m 0 rfl rfl h
    rw [cast0] at hh
    have h' : ((l.length : Nat) : Int) = m.length := by omega
    cases hd : sameSteps l m <;> rw [hd] at hh <;> simp only [go_sem, Nat.reduceAdd, Nat.reduceSub, Nat.reduceMul, Nat.reduceDiv, Nat.reduceMod, Nat.reduceLeDiff, Nat.reduceLT, Nat.reduceBEq, Int.reduceToNat, Int.reduceLT, Int.reduceLE, Int.reduceEq, x19] at hh <;> simp only [go_sem, Nat.reduceAdd, Nat.reduceSub, Nat.reduceMul, Nat.reduceDiv, Nat.reduceMod, Nat.reduceLeDiff, Nat.reduceLT, Nat.reduceBEq, Int.reduceToNat, Int.reduceLT, Int.reduceLE, Int.reduceEq, h', ne_eq, not_true_eq_false, hh, h, decide_true, Bool.true_and]
  · have h' : ¬ ((l.length : Nat) : Int) = m.length := by omega
    simp only [go_sem, Nat.reduceAdd, Nat.reduceSub, Nat.reduceMul, Nat.reduceDiv, Nat.reduceMod, Nat.reduceLeDiff, Nat.reduceLT, Nat.reduceBEq, Int.reduceToNat, Int.reduceLT, Int.reduceLE, Int.reduceEq, h', h, ne_eq, not_false_eq_true, decide_false, Bool.false_and]
end Go.Vm.P12

/- Chapter 12, the laws: copies of claims and proofs. -/
set_option maxRecDepth 100000
namespace Go.Vm.P12
open Go Go.Vm
theorem l20 {lo : Lower} {b : Bool} {l : List Stp} (hl : l.length < 1000000000) : ∀ (r acc : List Stp) (i : Nat), l.drop i = r → acc.length = i →
    outC ⟨0, false⟩ [0, 1, 0, 1, 0, 0, 0, 0, 0] (rnd (aCode lo ⟨0, false⟩ b20_0) (head ⟨0, false⟩ [0, 1, 0, 1, 0, 1, 1, 1, 0])
      ⟨[.junk, .ptr 0 0, .junk, .ptr 1 0, .junk, .imm (slD b 9 (l.map enT)), .imm (.int .i64 l.length), .imm (.int .i64 i), .junk],
       [.box [.imm .nil], .box [vK 2 9 (acc.map enT)]] ++ oK 9 (acc.map enT), none⟩) =
      some (.exit 0, ⟨[.junk, .ptr 0 0, .junk, .ptr 1 0, .junk, .junk, .junk, .junk, .junk],
       [.box [.imm .nil], .box [vK 2 9 ((acc ++ r).map enT)]] ++ oK 9 ((acc ++ r).map enT), none⟩)
  | [], acc, i, h, ha => by
    rw [rnd_eq]
    cases acc <;> simp only [go_sem, Nat.reduceAdd, Nat.reduceSub, Nat.reduceMul, Nat.reduceDiv, Nat.reduceMod, Nat.reduceLeDiff, Nat.reduceLT, Nat.reduceBEq, Int.reduceToNat, Int.reduceLT, Int.reduceLE, Int.reduceEq, vK, oK, lt_f (drop_n h)]
  | s :: r, acc, i, h, ha => by
    obtain ⟨h1, h2, h3⟩ := drop_c h
    have h6 := wrpS (i := i) (by omega)
    have IH := l20 (lo := lo) (b := b) hl r (acc ++ [s]) (i + 1) h3 (by simp [ha])
    rw [rnd_eq]
    cases acc with
    | nil =>
      simp only [go_sem, Nat.reduceAdd, Nat.reduceSub, Nat.reduceMul, Nat.reduceDiv, Nat.reduceMod, Nat.reduceLeDiff, Nat.reduceLT, Nat.reduceBEq, Int.reduceToNat, Int.reduceLT, Int.reduceLE, Int.reduceEq, vK, oK] at IH
      simp only [go_sem, Nat.reduceAdd, Nat.reduceSub, Nat.reduceMul, Nat.reduceDiv, Nat.reduceMod, Nat.reduceLeDiff, Nat.reduceLT, Nat.reduceBEq, Int.reduceToNat, Int.reduceLT, Int.reduceLE, Int.reduceEq, vK, oK, lt_t h2, h1, h6]
      exact IH
    | cons x acc =>
      have h5 : (acc.length + 1 + 1) * 121 ≤ 70368744177664 := by simp at ha; omega
      have e7 : acc.length + (r.length + 1) + 1 = acc.length + 1 + r.length + 1 := by omega
      have e8 : ∀ (L : List (List D)) (y : List D), List.map enT acc ++ y :: L = List.map enT acc ++ [y] ++ L := fun L y => by simp
      simp only [go_sem, Nat.reduceAdd, Nat.reduceSub, Nat.reduceMul, Nat.reduceDiv, Nat.reduceMod, Nat.reduceLeDiff, Nat.reduceLT, Nat.reduceBEq, Int.reduceToNat, Int.reduceLT, Int.reduceLE, Int.reduceEq, vK, oK] at IH
      simp only [go_sem, Nat.reduceAdd, Nat.reduceSub, Nat.reduceMul, Nat.reduceDiv, Nat.reduceMod, Nat.reduceLeDiff, Nat.reduceLT, Nat.reduceBEq, Int.reduceToNat, Int.reduceLT, Int.reduceLE, Int.reduceEq, vK, oK, lt_t h2, h1, h6, h5, e7, e8 (List.map enT r)]
      exact IH
theorem ok20 (n : Nat) (b : Bool) (l : List Stp) (hl : l.length < 1000000000) : callP (level E (n+1)) 20 [.agg [slD b 9 (l.map enT)]] = some (.agg [slD true 9 (l.map enT)]) := by
  have h := l20 (lo := level E n) (b := b) hl l [] 0 rfl rfl
  rw [cast0] at h
  rw [p20]
  cases l with
  | nil =>
    simp only [go_sem, Nat.reduceAdd, Nat.reduceSub, Nat.reduceMul, Nat.reduceDiv, Nat.reduceMod, Nat.reduceLeDiff, Nat.reduceLT, Nat.reduceBEq, Int.reduceToNat, Int.reduceLT, Int.reduceLE, Int.reduceEq, vK, oK] at h
    simp only [go_sem, Nat.reduceAdd, Nat.reduceSub, Nat.reduceMul, Nat.reduceDiv, Nat.reduceMod, Nat.reduceLeDiff, Nat.reduceLT, Nat.reduceBEq, Int.reduceToNat, Int.reduceLT, Int.reduceLE, Int.reduceEq, h]
    rfl
  | cons x l =>
    simp only [go_sem, Nat.reduceAdd, Nat.reduceSub, Nat.reduceMul, Nat.reduceDiv, Nat.reduceMod, Nat.reduceLeDiff, Nat.reduceLT, Nat.reduceBEq, Int.reduceToNat, Int.reduceLT, Int.reduceLE, Int.reduceEq, vK, oK] at h
    simp only [go_sem, Nat.reduceAdd, Nat.reduceSub, Nat.reduceMul, Nat.reduceDiv, Nat.reduceMod, Nat.reduceLeDiff, Nat.reduceLT, Nat.reduceBEq, Int.reduceToNat, Int.reduceLT, Int.reduceLE, Int.reduceEq, h]
    rfl
def lnc (x : Ln) : Ln := { x with nl := false }
theorem ok25 (n : Nat) (x : Ln) (h : x.co.length < 1000000000) : callP (level E (n+1)) 25 [.agg (enL x)] = some (.agg (enL (lnc x))) := by
  obtain ⟨nl, co, c⟩ := x
  simp only at h
  rw [p25]
  cases co with
  | nil => cases nl <;> simp only [go_sem, Nat.reduceAdd, Nat.reduceSub, Nat.reduceMul, Nat.reduceDiv, Nat.reduceMod, Nat.reduceLeDiff, Nat.reduceLT, Nat.reduceBEq, Int.reduceToNat, Int.reduceLT, Int.reduceLE, Int.reduceEq, lnc, slD_nil, slD_f]
  | cons y co =>
    have h5 : (co.length + 1) * 9 ≤ 70368744177664 := by simp at h; omega
    simp only [go_sem, Nat.reduceAdd, Nat.reduceSub, Nat.reduceMul, Nat.reduceDiv, Nat.reduceMod, Nat.reduceLeDiff, Nat.reduceLT, Nat.reduceBEq, Int.reduceToNat, Int.reduceLT, Int.reduceLE, Int.reduceEq, lnc, slD_cons, h5]
theorem l36 {lo : Lower} {b : Bool} {l : List Sp} (hl : l.length < 1000000000) : ∀ (r acc : List Sp) (i : Nat), l.drop i = r → acc.length = i →
    outC ⟨0, false⟩ [0, 0, 1, 0, 0, 0, 0, 0] (rnd (aCode lo ⟨0, false⟩ b36_0) (head ⟨0, false⟩ [0, 0, 1, 0, 1, 1, 1, 0])
      ⟨[.junk, .junk, vK 0 2 (acc.map enS), .junk, .imm (slD b 2 (l.map enS)), .imm (.int .i64 l.length), .imm (.int .i64 i), .junk], oK 2 (acc.map enS), none⟩) =
      some (.exit 0, ⟨[.junk, .junk, vK 0 2 ((acc ++ r).map enS), .junk, .junk, .junk, .junk, .junk], oK 2 ((acc ++ r).map enS), none⟩)
  | [], acc, i, h, ha => by
    rw [rnd_eq]
    cases acc <;> simp only [go_sem, Nat.reduceAdd, Nat.reduceSub, Nat.reduceMul, Nat.reduceDiv, Nat.reduceMod, Nat.reduceLeDiff, Nat.reduceLT, Nat.reduceBEq, Int.reduceToNat, Int.reduceLT, Int.reduceLE, Int.reduceEq, vK, oK, lt_f (drop_n h)]
  | s :: r, acc, i, h, ha => by
    obtain ⟨h1, h2, h3⟩ := drop_c h
    have h6 := wrpS (i := i) (by omega)
    have IH := l36 (lo := lo) (b := b) hl r (acc ++ [s]) (i + 1) h3 (by simp [ha])
    rw [rnd_eq]
    cases acc with
    | nil =>
      simp only [go_sem, Nat.reduceAdd, Nat.reduceSub, Nat.reduceMul, Nat.reduceDiv, Nat.reduceMod, Nat.reduceLeDiff, Nat.reduceLT, Nat.reduceBEq, Int.reduceToNat, Int.reduceLT, Int.reduceLE, Int.reduceEq, vK, oK] at IH
      simp only [go_sem, Nat.reduceAdd, Nat.reduceSub, Nat.reduceMul, Nat.reduceDiv, Nat.reduceMod, Nat.reduceLeDiff, Nat.reduceLT, Nat.reduceBEq, Int.reduceToNat, Int.reduceLT, Int.reduceLE, Int.reduceEq, vK, oK, lt_t h2, h1, h6]
      exact IH
    | cons x acc =>
      have h5 : (acc.length + 1 + 1) * 17 ≤ 70368744177664 := by simp at ha; omega
      have e7 : acc.length + (r.length + 1) + 1 = acc.length + 1 + r.length + 1 := by omega
      have e8 : ∀ (L : List (List D)) (y : List D), List.map enS acc ++ y :: L = List.map enS acc ++ [y] ++ L := fun L y => by simp
      simp only [go_sem, Nat.reduceAdd, Nat.reduceSub, Nat.reduceMul, Nat.reduceDiv, Nat.reduceMod, Nat.reduceLeDiff, Nat.reduceLT, Nat.reduceBEq, Int.reduceToNat, Int.reduceLT, Int.reduceLE, Int.reduceEq, vK, oK] at IH
      simp only [go_sem, Nat.reduceAdd, Nat.reduceSub, Nat.reduceMul, Nat.reduceDiv, Nat.reduceMod, Nat.reduceLeDiff, Nat.reduceLT, Nat.reduceBEq, Int.reduceToNat, Int.reduceLT, Int.reduceLE, Int.reduceEq, vK, oK, lt_t h2, h1, h6, h5, e7, e8 (List.map enS r)]
      exact IH
theorem ok36 (n : Nat) (b : Bool) (l : List Sp) (hl : l.length < 1000000000) : callP (level E (n+1)) 36 [slD b 2 (l.map enS)] = some (slD true 2 (l.map enS)) := by
  have h := l36 (lo := level E n) (b := b) hl l [] 0 rfl rfl
  rw [cast0] at h
  rw [p36]
  cases l with
  | nil =>
    simp only [go_sem, Nat.reduceAdd, Nat.reduceSub, Nat.reduceMul, Nat.reduceDiv, Nat.reduceMod, Nat.reduceLeDiff, Nat.reduceLT, Nat.reduceBEq, Int.reduceToNat, Int.reduceLT, Int.reduceLE, Int.reduceEq, vK, oK] at h
    simp only [go_sem, Nat.reduceAdd, Nat.reduceSub, Nat.reduceMul, Nat.reduceDiv, Nat.reduceMod, Nat.reduceLeDiff, Nat.reduceLT, Nat.reduceBEq, Int.reduceToNat, Int.reduceLT, Int.reduceLE, Int.reduceEq, h]
    rfl
  | cons x l =>
    simp only [go_sem, Nat.reduceAdd, Nat.reduceSub, Nat.reduceMul, Nat.reduceDiv, Nat.reduceMod, Nat.reduceLeDiff, Nat.reduceLT, Nat.reduceBEq, Int.reduceToNat, Int.reduceLT, Int.reduceLE, Int.reduceEq, vK, oK] at h
    simp only [go_sem, Nat.reduceAdd, Nat.reduceSub, Nat.reduceMul, Nat.reduceDiv, Nat.reduceMod, Nat.reduceLeDiff, Nat.reduceLT, Nat.reduceBEq, Int.reduceToNat, Int.reduceLT, Int.reduceLE, Int.reduceEq, h]
    rfl
theorem l11 {n : Nat} {sp0 : D} {go : Ln} {b : Bool} {l : List Ln} (hl : l.length < 1000000000) (hx : ∀ x ∈ l, x.co.length < 1000000000) : ∀ (r acc : List Ln) (i : Nat), l.drop i = r → acc.length = i →
    outC ⟨0, false⟩ [0, 1, 0, 1, 0, 0, 0, 0, 0] (rnd (aCode (level E (n + 1)) ⟨0, false⟩ b11_0) (head ⟨0, false⟩ [0, 1, 0, 1, 0, 1, 1, 1, 0])
      ⟨[.junk, .ptr 0 0, .junk, .ptr 1 0, .junk, .imm (slD b 2 (l.map enL)), .imm (.int .i64 l.length), .imm (.int .i64 i), .junk],
       [.box [.imm .nil, .imm .nil, .imm .nil, .imm (.int .i64 0)], .box [.imm sp0, vK 2 2 (acc.map enL), .imm (slD go.nl 1 (go.co.map ic)), .imm (.int .i64 go.c)]] ++ oK 2 (acc.map enL), none⟩) =
      some (.exit 0, ⟨[.junk, .ptr 0 0, .junk, .ptr 1 0, .junk, .junk, .junk, .junk, .junk],
       [.box [.imm .nil, .imm .nil, .imm .nil, .imm (.int .i64 0)], .box [.imm sp0, vK 2 2 ((acc ++ r.map lnc).map enL), .imm (slD go.nl 1 (go.co.map ic)), .imm (.int .i64 go.c)]] ++ oK 2 ((acc ++ r.map lnc).map enL), none⟩)
  | [], acc, i, h, ha => by
    rw [rnd_eq]
    cases acc <;> simp only [go_sem, Nat.reduceAdd, Nat.reduceSub, Nat.reduceMul, Nat.reduceDiv, Nat.reduceMod, Nat.reduceLeDiff, Nat.reduceLT, Nat.reduceBEq, Int.reduceToNat, Int.reduceLT, Int.reduceLE, Int.reduceEq, vK, oK, lt_f (drop_n h)]
  | s :: r, acc, i, h, ha => by
    obtain ⟨h1, h2, h3⟩ := drop_c h
    have h6 := wrpS (i := i) (by omega)
    have h25 := ok25 n s (hx s (List.mem_of_getElem? h1))
    have IH := l11 (n := n) (sp0 := sp0) (go := go) (b := b) hl hx r (acc ++ [lnc s]) (i + 1) h3 (by simp [ha])
    rw [rnd_eq]
    simp only [go_sem, Nat.reduceAdd, Nat.reduceSub, Nat.reduceMul, Nat.reduceDiv, Nat.reduceMod, Nat.reduceLeDiff, Nat.reduceLT, Nat.reduceBEq, Int.reduceToNat, Int.reduceLT, Int.reduceLE, Int.reduceEq] at h25
    cases acc with
    | nil =>
      simp only [go_sem, Nat.reduceAdd, Nat.reduceSub, Nat.reduceMul, Nat.reduceDiv, Nat.reduceMod, Nat.reduceLeDiff, Nat.reduceLT, Nat.reduceBEq, Int.reduceToNat, Int.reduceLT, Int.reduceLE, Int.reduceEq, vK, oK] at IH
      simp only [go_sem, Nat.reduceAdd, Nat.reduceSub, Nat.reduceMul, Nat.reduceDiv, Nat.reduceMod, Nat.reduceLeDiff, Nat.reduceLT, Nat.reduceBEq, Int.reduceToNat, Int.reduceLT, Int.reduceLE, Int.reduceEq, vK, oK, lt_t h2, h1, h6, h25]
      exact IH
    | cons x acc =>
      have h5 : (acc.length + 1 + 1) * 33 ≤ 70368744177664 := by simp at ha; omega
      have e7 : acc.length + (r.length + 1) + 1 = acc.length + 1 + r.length + 1 := by omega
      have e8 : ∀ (L : List (List D)) (y : List D), List.map enL acc ++ y :: L = List.map enL acc ++ [y] ++ L := fun L y => by simp
      simp only [go_sem, Nat.reduceAdd, Nat.reduceSub, Nat.reduceMul, Nat.reduceDiv, Nat.reduceMod, Nat.reduceLeDiff, Nat.reduceLT, Nat.reduceBEq, Int.reduceToNat, Int.reduceLT, Int.reduceLE, Int.reduceEq, vK, oK] at IH
      simp only [go_sem, Nat.reduceAdd, Nat.reduceSub, Nat.reduceMul, Nat.reduceDiv, Nat.reduceMod, Nat.reduceLeDiff, Nat.reduceLT, Nat.reduceBEq, Int.reduceToNat, Int.reduceLT, Int.reduceLE, Int.reduceEq, vK, oK, lt_t h2, h1, h6, h5, h25, e7, e8 (List.map enL (List.map lnc r))]
      exact IH
def cpy (c : Cl) : Cl := ⟨true, c.sp, true, c.gv.map lnc, lnc c.go⟩
theorem ok11 (n : Nat) (c : Cl) (hf : c.Fit) : callP (level E (n+2)) 11 [.agg (enC c)] = some (.agg (enC (cpy c))) := by
  obtain ⟨sn, sp, gn, gv, go⟩ := c
  have h := l11 (n := n) (sp0 := slD true 2 (sp.map enS)) (go := lnc go) (b := gn) (l := gv) (by have := hf.gv; simp at this; omega) hf.ln gv [] 0 rfl rfl
  have h36 := ok36 n sn sp hf.sp
  have h25 := ok25 n go hf.go
  rw [cast0] at h
  rw [p11]
  simp only [go_sem, Nat.reduceAdd, Nat.reduceSub, Nat.reduceMul, Nat.reduceDiv, Nat.reduceMod, Nat.reduceLeDiff, Nat.reduceLT, Nat.reduceBEq, Int.reduceToNat, Int.reduceLT, Int.reduceLE, Int.reduceEq] at h25
  cases gv with
  | nil =>
    simp only [go_sem, Nat.reduceAdd, Nat.reduceSub, Nat.reduceMul, Nat.reduceDiv, Nat.reduceMod, Nat.reduceLeDiff, Nat.reduceLT, Nat.reduceBEq, Int.reduceToNat, Int.reduceLT, Int.reduceLE, Int.reduceEq, vK, oK] at h
    simp only [go_sem, Nat.reduceAdd, Nat.reduceSub, Nat.reduceMul, Nat.reduceDiv, Nat.reduceMod, Nat.reduceLeDiff, Nat.reduceLT, Nat.reduceBEq, Int.reduceToNat, Int.reduceLT, Int.reduceLE, Int.reduceEq, h, h36, h25, cpy]
    rfl
  | cons x l =>
    simp only [go_sem, Nat.reduceAdd, Nat.reduceSub, Nat.reduceMul, Nat.reduceDiv, Nat.reduceMod, Nat.reduceLeDiff, Nat.reduceLT, Nat.reduceBEq, Int.reduceToNat, Int.reduceLT, Int.reduceLE, Int.reduceEq, vK, oK] at h
    simp only [go_sem, Nat.reduceAdd, Nat.reduceSub, Nat.reduceMul, Nat.reduceDiv, Nat.reduceMod, Nat.reduceLeDiff, Nat.reduceLT, Nat.reduceBEq, Int.reduceToNat, Int.reduceLT, Int.reduceLE, Int.reduceEq, h, h36, h25, cpy]
    rfl
def x9 (b : Bool) : AExit × S := match b with
  | true => (.exit 0, ⟨[.junk, .junk, .junk, .junk, .junk, .junk, .junk], [], none⟩)
  | false => (.ret, ⟨[.junk, .imm (.bool false), .junk, .junk, .junk, .junk, .junk], [], none⟩)
def shortLn (x : Ln) : Bool := decide (x.co.length ≤ 8)
theorem l9 {n : Nat} {c : Cl} (hl : c.gv.length < 1000000000) : ∀ (r : List Ln) (i : Nat), c.gv.drop i = r →
    outC ⟨0, false⟩ [0, 1, 0, 0, 0, 0, 0] (rnd (aCode (level E (n + 1)) ⟨0, false⟩ b9_0) (head ⟨0, false⟩ [0, 0, 1, 1, 0, 0, 0])
      ⟨[.junk, .junk, .ptr 0 0, .imm (.int .i64 i), .junk, .junk, .junk], [.box ((enC c).map .imm)], none⟩) = some (x9 (r.all shortLn))
  | [], i, h => by
    rw [rnd_eq]
    simp only [go_sem, Nat.reduceAdd, Nat.reduceSub, Nat.reduceMul, Nat.reduceDiv, Nat.reduceMod, Nat.reduceLeDiff, Nat.reduceLT, Nat.reduceBEq, Int.reduceToNat, Int.reduceLT, Int.reduceLE, Int.reduceEq, lt_f (drop_n h), x9, List.all_nil]
  | s :: r, i, h => by
    obtain ⟨h1, h2, h3⟩ := drop_c h
    have h6 := wrpS (i := i) (by omega)
    have h51 := ok51 n s.nl s.co s.c
    have IH := l9 (n := n) (c := c) hl r (i + 1) h3
    rw [rnd_eq]
    simp only [go_sem, Nat.reduceAdd, Nat.reduceSub, Nat.reduceMul, Nat.reduceDiv, Nat.reduceMod, Nat.reduceLeDiff, Nat.reduceLT, Nat.reduceBEq, Int.reduceToNat, Int.reduceLT, Int.reduceLE, Int.reduceEq] at IH
    cases hs : decide (s.co.length ≤ 8)
    · rw [hs] at h51
      have e : (s :: r).all shortLn = false := by simp only [List.all_cons, shortLn, hs, Bool.false_and]
      simp only [go_sem, Nat.reduceAdd, Nat.reduceSub, Nat.reduceMul, Nat.reduceDiv, Nat.reduceMod, Nat.reduceLeDiff, Nat.reduceLT, Nat.reduceBEq, Int.reduceToNat, Int.reduceLT, Int.reduceLE, Int.reduceEq, lt_t h2, h1, h6, h51, e, x9]
    · rw [hs] at h51
      have e : (s :: r).all shortLn = r.all shortLn := by simp only [List.all_cons, shortLn, hs, Bool.true_and]
      simp only [go_sem, Nat.reduceAdd, Nat.reduceSub, Nat.reduceMul, Nat.reduceDiv, Nat.reduceMod, Nat.reduceLeDiff, Nat.reduceLT, Nat.reduceBEq, Int.reduceToNat, Int.reduceLT, Int.reduceLE, Int.reduceEq, lt_t h2, h1, h6, h51, e]
      exact IH
def short (c : Cl) : Bool := decide (c.sp.length ≤ 8 ∧ (c.gv.length ≤ 4 ∨ c.gv.length = 13)) && shortLn c.go && c.gv.all shortLn
theorem ok9 (n : Nat) (c : Cl) : callP (level E (n+2)) 9 [.agg (enC c)] = some (.bool (short c)) := by
  have h51 := ok51 n c.go.nl c.go.co c.go.c
  have eg : decide (c.go.co.length ≤ 8) = shortLn c.go := rfl
  rw [p9]
  unfold short
  by_cases a1 : (8 : Int) < ((c.sp.length : Nat) : Int)
  · have e : decide (c.sp.length ≤ 8 ∧ (c.gv.length ≤ 4 ∨ c.gv.length = 13)) = false := decide_eq_false (by omega)
    simp only [go_sem, Nat.reduceAdd, Nat.reduceSub, Nat.reduceMul, Nat.reduceDiv, Nat.reduceMod, Nat.reduceLeDiff, Nat.reduceLT, Nat.reduceBEq, Int.reduceToNat, Int.reduceLT, Int.reduceLE, Int.reduceEq, a1, e, Bool.false_and]
  · by_cases a2 : (4 : Int) < ((c.gv.length : Nat) : Int)
    · by_cases a3 : ((c.gv.length : Nat) : Int) = 13
      · have e : decide (c.sp.length ≤ 8 ∧ (c.gv.length ≤ 4 ∨ c.gv.length = 13)) = true := decide_eq_true (by omega)
        have h := l9 (n := n) (c := c) (by omega) c.gv 0 rfl
        rw [cast0] at h
        have b1 : (4 : Int) < 13 := by decide
        cases hg : shortLn c.go <;> rw [hg] at eg <;> rw [eg] at h51
        · simp only [go_sem, Nat.reduceAdd, Nat.reduceSub, Nat.reduceMul, Nat.reduceDiv, Nat.reduceMod, Nat.reduceLeDiff, Nat.reduceLT, Nat.reduceBEq, Int.reduceToNat, Int.reduceLT, Int.reduceLE, Int.reduceEq, a1, a3, b1, h51, e, ne_eq, not_true_eq_false, Bool.and_false, Bool.false_and, Bool.true_and]
        · cases ha : c.gv.all shortLn <;> rw [ha] at h <;> simp only [go_sem, Nat.reduceAdd, Nat.reduceSub, Nat.reduceMul, Nat.reduceDiv, Nat.reduceMod, Nat.reduceLeDiff, Nat.reduceLT, Nat.reduceBEq, Int.reduceToNat, Int.reduceLT, Int.reduceLE, Int.reduceEq, x9] at h <;>
          simp only [go_sem, Nat.reduceAdd, Nat.reduceSub, Nat.reduceMul, Nat.reduceDiv, Nat.reduceMod, Nat.reduceLeDiff, Nat.reduceLT, Nat.reduceBEq, Int.reduceToNat, Int.reduceLT, Int.reduceLE, Int.reduceEq, a1, a3, b1, h51, h, e, ne_eq, not_true_eq_false, Bool.and_false, Bool.false_and, Bool.true_and]
      · have e : decide (c.sp.length ≤ 8 ∧ (c.gv.length ≤ 4 ∨ c.gv.length = 13)) = false := decide_eq_false (by omega)
        simp only [go_sem, Nat.reduceAdd, Nat.reduceSub, Nat.reduceMul, Nat.reduceDiv, Nat.reduceMod, Nat.reduceLeDiff, Nat.reduceLT, Nat.reduceBEq, Int.reduceToNat, Int.reduceLT, Int.reduceLE, Int.reduceEq, a1, a2, a3, e, ne_eq, not_false_eq_true, Bool.false_and]
    · have e : decide (c.sp.length ≤ 8 ∧ (c.gv.length ≤ 4 ∨ c.gv.length = 13)) = true := decide_eq_true (by omega)
      have h := l9 (n := n) (c := c) (by omega) c.gv 0 rfl
      rw [cast0] at h
      cases hg : shortLn c.go <;> rw [hg] at eg <;> rw [eg] at h51
      · simp only [go_sem, Nat.reduceAdd, Nat.reduceSub, Nat.reduceMul, Nat.reduceDiv, Nat.reduceMod, Nat.reduceLeDiff, Nat.reduceLT, Nat.reduceBEq, Int.reduceToNat, Int.reduceLT, Int.reduceLE, Int.reduceEq, a1, a2, h51, e, Bool.and_false, Bool.false_and, Bool.true_and]
      · cases ha : c.gv.all shortLn <;> rw [ha] at h <;> simp only [go_sem, Nat.reduceAdd, Nat.reduceSub, Nat.reduceMul, Nat.reduceDiv, Nat.reduceMod, Nat.reduceLeDiff, Nat.reduceLT, Nat.reduceBEq, Int.reduceToNat, Int.reduceLT, Int.reduceLE, Int.reduceEq, x9] at h <;>
        simp only [go_sem, Nat.reduceAdd, Nat.reduceSub, Nat.reduceMul, Nat.reduceDiv, Nat.reduceMod, Nat.reduceLeDiff, Nat.reduceLT, Nat.reduceBEq, Int.reduceToNat, Int.reduceLT, Int.reduceLE, Int.reduceEq, a1, a2, h51, h, e, Bool.and_false, Bool.false_and, Bool.true_and]
end Go.Vm.P12

/- Chapter 12, plain laws: the errors of claims; a claim and its copy. -/
set_option maxRecDepth 100000
namespace Go.Vm.P12
open Go Go.Vm
theorem fnz_app : ∀ (l r : List Int), fnz (l ++ r) = if fnz l = 0 then fnz r else fnz l
  | [], r => by simp [fnz]
  | x :: l, r => by
    rw [List.cons_append, fnz_cons, fnz_cons, fnz_app l r]
    by_cases h : x = 0
    · simp [h]
    · simp [h]
theorem ck_off (a b c : Int) : ckR a b c = if offB a b c then 3 else 0 := by
  unfold ckR offB
  by_cases h1 : a < b <;> by_cases h2 : c < a <;> simp [h1, h2]
theorem sp1_eq (s : Sp) : spErr1 s = rSp1 s := by
  unfold spErr1 rSp1
  rw [ck_off, ck_off]
  cases offB s.lo (-1048576) 1048576 <;> cases offB s.hi (-1048576) 1048576 <;> simp [fnz]
theorem sp_eq (l : List Sp) : spErr l = rSpErr l := by
  unfold spErr rSpErr
  rw [show spErr1 = rSp1 from funext sp1_eq]
theorem fnz_ck : ∀ l : List Int, fnz (l.map ckC) = if l.any (fun c => offB c (-1048576) 1048576) then 3 else 0
  | [] => rfl
  | x :: l => by
    rw [List.map_cons, fnz_cons, fnz_ck l, ckC, ck_off, List.any_cons]
    cases offB x (-1048576) 1048576 <;> simp
theorem ln_eq (x : Ln) (m : Nat) : lnErr x m = rLnErr x m := by
  unfold lnErr rLnErr
  rw [fnz_ck, ck_off]
  by_cases h : x.co.length = m
  · have h' : (x.co.length : Int) = m := by omega
    cases x.co.any (fun c => offB c (-1048576) 1048576) <;> cases offB x.c (-1099511627776) 1099511627776 <;> simp [fnz, h]
  · have h' : ¬ (x.co.length : Int) = m := by omega
    simp [fnz, h, h']
theorem cl_eq (c : Cl) : clErr c = rClErr c := by
  unfold clErr rClErr clE0
  rw [sp_eq]
  have e : ((c.gv ++ [c.go]).map fun l => lnErr l c.sp.length) = (c.gv.map fun l => rLnErr l c.sp.length) ++ [rLnErr c.go c.sp.length] := by
    rw [List.map_append, List.map_cons, List.map_nil, ln_eq]
    congr 1
    exact List.map_congr_left fun l _ => ln_eq l _
  rw [e, fnz_app]
  by_cases h0 : rSpErr c.sp = 0
  · by_cases h1 : (12 : Int) < c.gv.length
    · simp [fnz, h0, h1]
    · simp only [fnz, h0, h1, decide_false, Bool.false_eq_true, if_false, if_true]
      by_cases h2 : fnz (c.gv.map fun l => rLnErr l c.sp.length) = 0
      · simp only [h2, if_true]
        by_cases h3 : rLnErr c.go c.sp.length = 0 <;> simp [h3]
      · simp only [h2, if_false]
  · simp [fnz, h0]
theorem cpy_err (c : Cl) : clErr (cpy c) = clErr c := by
  unfold clErr clE0
  have e : (((cpy c).gv ++ [(cpy c).go]).map fun l => lnErr l (cpy c).sp.length) = ((c.gv ++ [c.go]).map fun l => lnErr l c.sp.length) := by
    simp only [cpy, List.map_append, List.map_map, List.map_cons, List.map_nil]
    rfl
  rw [e]
  simp only [cpy, List.length_map]
theorem cpy_fit {c : Cl} (h : c.Fit) : (cpy c).Fit := by
  refine ⟨h.sp, by simpa [cpy] using h.gv, ?_, h.go⟩
  intro x hx
  simp only [cpy, List.mem_map] at hx
  obtain ⟨y, hy, rfl⟩ := hx
  exact h.ln y hy
theorem cpy_even {c : Cl} (h : c.Even) : (cpy c).Even := by
  refine ⟨cpy_fit h.fit, ?_, h.go⟩
  intro x hx
  simp only [cpy, List.mem_map] at hx
  obtain ⟨y, hy, rfl⟩ := hx
  exact h.gv y hy
theorem fz0 : ∀ l : List Int, fnz l = 0 → ∀ x ∈ l, x = 0
  | [], _, x, hx => by cases hx
  | y :: l, h, x, hx => by
    rw [fnz_cons] at h
    by_cases hy : y = 0
    · rw [if_pos hy] at h
      rcases List.mem_cons.1 hx with rfl | hx
      · exact hy
      · exact fz0 l h x hx
    · rw [if_neg hy] at h; exact absurd h hy
theorem off_f {a lo hi : Int} (h : offB a lo hi = false) : lo ≤ a ∧ a ≤ hi := by
  simp only [offB, Bool.or_eq_false_iff, decide_eq_false_iff_not] at h
  omega
theorem clErr_sp {c : Cl} (h : clErr c = 0) : SpOk c.sp := by
  have h0 : spErr c.sp = 0 := by
    unfold clErr at h
    split at h
    · rename_i h1; exact fz0 _ h1 _ (by simp)
    · rename_i h1; exact absurd h h1
  have h1 : fnz (c.sp.map spErr1) = 0 := by
    unfold spErr at h0
    split at h0
    · cases h0
    · exact h0
  intro s hs
  have h2 := fz0 _ h1 _ (List.mem_map.2 ⟨s, hs, rfl⟩)
  have h3 := fz0 _ h2 (if offB s.lo (-1048576) 1048576 || offB s.hi (-1048576) 1048576 then 3 else 0) (by simp)
  have h4 := fz0 _ h2 (if decide (s.hi < s.lo) then 9 else 0) (by simp)
  cases a : offB s.lo (-1048576) 1048576
  · cases b : offB s.hi (-1048576) 1048576
    · have := off_f a
      have := off_f b
      by_cases hh : s.hi < s.lo
      · simp [hh] at h4
      · omega
    · rw [a, b] at h3; simp at h3
  · rw [a] at h3; simp at h3
theorem clErr_go {c : Cl} (h : clErr c = 0) : GoOk c := by
  have h0 : lnErr c.go c.sp.length = 0 := by
    unfold clErr at h
    split at h
    · exact fz0 _ h _ (by simp)
    · rename_i h1; exact absurd h h1
  have h3 := fz0 _ h0 (if c.go.co.any (fun c => offB c (-1048576) 1048576) || offB c.go.c (-1099511627776) 1099511627776 then 3 else 0) (by simp)
  cases a : c.go.co.any (fun c => offB c (-1048576) 1048576)
  · cases b : offB c.go.c (-1099511627776) 1099511627776
    · refine ⟨fun x hx => ?_, ?_⟩
      · have := List.any_eq_false.1 a x hx
        have := off_f (Bool.not_eq_true _ ▸ this)
        unfold Rng; omega
      · have := off_f b
        unfold Rng; omega
    · rw [a, b] at h3; simp at h3
  · rw [a] at h3; simp at h3
theorem cpy_left (y : Stp) (c : Cl) : (left y (cpy c)).co = (left y c).co ∧ (left y (cpy c)).c = (left y c).c := by
  have key : ∀ (gs : List Ln) (ks : List Int) (x z : Ln), x.co = z.co → x.c = z.c → (lft x (gs.map lnc) ks).co = (lft z gs ks).co ∧ (lft x (gs.map lnc) ks).c = (lft z gs ks).c := by
    intro gs
    induction gs with
    | nil => intro ks x z h1 h2; cases ks <;> exact ⟨h1, h2⟩
    | cons g gs ih =>
      intro ks x z h1 h2
      cases ks with
      | nil => exact ⟨h1, h2⟩
      | cons k ks =>
        simp only [List.map_cons, lft]
        refine ih ks _ _ ?_ ?_
        · simp only [pls, h1]; rfl
        · simp only [pls, h2]; rfl
  exact key c.gv y.gv _ _ rfl rfl
theorem cpy_prv (y : Stp) (c : Cl) : prv y (cpy c) = prv y c := by
  obtain ⟨h1, h2⟩ := cpy_left y c
  simp only [prv, h1, h2]; rfl
theorem cpy_leaf (c : Cl) (goal : Int) (g : List Int) : leafOf (cpy c) goal g = leafOf c goal g := by
  simp only [leafOf, (cpy_left _ c).1]
theorem cpy_leaves (c : Cl) : leaves (cpy c) = leaves c := by
  have el : (cpy c).gv.length = c.gv.length := by simp [cpy]
  have hs : ∀ (g : Int) (i k m : Nat), lfs (cpy c) g i m k = lfs c g i m k := by
    intro g i k
    induction k with
    | zero => intro m; rfl
    | succ k ih => intro m; simp only [lfs, ih, lf, cpy_leaf, el]
  have hg : ∀ (g : Int) (M r i : Nat), lfg (cpy c) g M i r = lfg c g M i r := by
    intro g M r
    induction r with
    | zero => intro i; rfl
    | succ r ih => intro i; simp only [lfg, ih, hs]
  simp only [leaves, hg, el, lf0, cpy_leaf]
theorem cpy_dir (c : Cl) : dir (cpy c) = dir c := by
  simp only [dir, cpy_leaves, cpy_prv]
theorem cpy_nar (c : Cl) (v : Nat) (s : Sp) : nar (cpy c) v s = { cpy (nar c v s) with sn := false } := rfl
theorem sn_left (y : Stp) (c : Cl) (b : Bool) : left y { c with sn := b } = left y c := rfl
theorem sn_dir (c : Cl) (b : Bool) : dir { c with sn := b } = dir c := by
  have hl : ∀ (goal : Int) (g : List Int), leafOf { c with sn := b } goal g = leafOf c goal g := fun _ _ => rfl
  have hs : ∀ (g : Int) (i k m : Nat), lfs { c with sn := b } g i m k = lfs c g i m k := by
    intro g i k
    induction k with
    | zero => intro m; rfl
    | succ k ih => intro m; simp only [lfs, ih]; rfl
  have hg : ∀ (g : Int) (M r i : Nat), lfg { c with sn := b } g M i r = lfg c g M i r := by
    intro g M r
    induction r with
    | zero => intro i; rfl
    | succ r ih => intro i; simp only [lfg, ih, hs]
  have e : leaves { c with sn := b } = leaves c := by
    simp only [leaves, hg]; rfl
  simp only [dir, e]
  rfl
theorem sn_dec : ∀ (f t : Nat) (c : Cl) (b : Bool) (st : List Stp), dec f t { c with sn := b } st = dec f t c st
  | 0, t, c, b, st => rfl
  | f + 1, 0, c, b, st => rfl
  | f + 1, t + 1, c, b, st => by
    simp only [dec, sn_dir]
    rfl
theorem cpy_dec : ∀ (f t : Nat) (c : Cl) (st : List Stp), dec f t (cpy c) st = dec f t c st
  | 0, t, c, st => rfl
  | f + 1, 0, c, st => rfl
  | f + 1, t + 1, c, st => by
    have IH : ∀ (t : Nat) (v : Nat) (s : Sp) (st : List Stp), dec f t (nar (cpy c) v s) st = dec f t (nar c v s) st := fun t v s st => by
      rw [cpy_nar, sn_dec, cpy_dec]
    simp only [dec, cpy_dir, IH]
    rfl
end Go.Vm.P12
