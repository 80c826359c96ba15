/- A part of the proof that the law answers true for every input; the conditions are those of the card: the listed variable reads as the program lays it. -/
import Derived.Test.YtfhjkkjaaeohhaaDoorV5
import Derived.KernelRfl
import Derived.ProofKit
import Derived.LaidMore
import Derived.Stop.Joined
import Derived.SevenTiedAt
import Derived.Test.YtfhjkkjaaeohhaaDoorTie
import Derived.Test.YtfhjkkjaaeohhaaDoorCards
set_option linter.unusedSimpArgs false
set_option linter.unusedVariables false
/- Chapter 12, functions: least values, refuting. -/
set_option maxRecDepth 100000
namespace Go.Vm.P12
open Go Go.Vm
def exs (g : Bool) : List Int → List Sp → Int → Int
  | x :: r, s :: t, a => exs g r t (ad a (ml x (if decide (0 < x) = g then s.hi else s.lo)))
  | _, _, a => a
theorem b00 : (false == false) = true := rfl
theorem b01 : (false == true) = false := rfl
theorem b10 : (true == false) = false := rfl
theorem b11 : (true == true) = true := rfl
theorem l80 {lo : Lower} {b1 b2 g : Bool} {co : List Int} {sp : List Sp} (hl : co.length ≤ sp.length) (hb : co.length < 1000000000) : ∀ (r : List Int) (t : List Sp) (i : Nat) (a : Int), co.drop i = r → sp.drop i = t →
    outC ⟨0, false⟩ [0, 0, 0, 0, 0, 1, 0, 0, 0, 0, 0, 0, 0, 0] (rnd (aCode lo ⟨0, false⟩ b80_0) (head ⟨0, false⟩ [0, 1, 1, 0, 0, 1, 0, 0, 0, 1, 1, 1, 0, 0])
      ⟨[.junk, .imm (slD b2 2 (sp.map enS)), .imm (.bool g), .junk, .junk, .imm (.int .i64 a), .junk, .junk, .junk, .imm (slD b1 1 (co.map ic)), .imm (.int .i64 co.length), .imm (.int .i64 i), .junk, .junk], [], none⟩) =
      some (.exit 0, ⟨[.junk, .junk, .junk, .junk, .junk, .imm (.int .i64 (exs g r t a)), .junk, .junk, .junk, .junk, .junk, .junk, .junk, .junk], [], none⟩)
  | [], t, i, a, h, h' => by
    rw [rnd_eq]
    simp only [go_sem, Nat.reduceAdd, Nat.reduceSub, Nat.reduceMul, Nat.reduceDiv, Nat.reduceMod, Nat.reduceLeDiff, Nat.reduceLT, Nat.reduceBEq, Int.reduceToNat, Int.reduceLT, Int.reduceLE, Int.reduceEq, lt_f (drop_n h), exs]
  | x :: r, [], i, a, h, h' => by
    obtain ⟨h1, h2, h3⟩ := drop_c h
    have := drop_n h'
    omega
  | x :: r, s :: t, i, a, h, h' => by
    obtain ⟨h1, h2, h3⟩ := drop_c h
    obtain ⟨h1', h2', h3'⟩ := drop_c h'
    have h6 := wrpS (i := i) (by omega)
    have IH := l80 (lo := lo) (b1 := b1) (b2 := b2) (g := g) hl hb r t (i + 1) (ad a (ml x (if decide (0 < x) = g then s.hi else s.lo))) h3 h3'
    rw [rnd_eq]
    simp only [exs]
    have hx : ∀ y : Int, wrp .i64 (a + wrp .i64 (x * y)) = ad a (ml x y) := fun _ => rfl
    cases h0 : decide ((0 : Int) < x) <;> cases g <;> rw [h0] at IH <;> simp only [Bool.false_eq_true, reduceCtorEq, if_true, if_false] at IH ⊢ <;>
      simp only [go_sem, Nat.reduceAdd, Nat.reduceSub, Nat.reduceMul, Nat.reduceDiv, Nat.reduceMod, Nat.reduceLeDiff, Nat.reduceLT, Nat.reduceBEq, Int.reduceToNat, Int.reduceLT, Int.reduceLE, Int.reduceEq, lt_t h2, lt_t h2', h1, h1', h6, h0, hx, b00, b01, b10, b11] <;> exact IH
theorem ok80 (n : Nat) (x : Ln) (b : Bool) (sp : List Sp) (g : Bool) (hl : x.co.length ≤ sp.length) (hb : x.co.length < 1000000000) : callP (level E (n+1)) 80 [.agg (enL x), slD b 2 (sp.map enS), .bool g] = some (.int .i64 (exs g x.co sp x.c)) := by
  have h := l80 (lo := level E n) (b1 := x.nl) (b2 := b) (g := g) hl hb x.co sp 0 x.c rfl rfl
  rw [cast0] at h
  rw [p80]
  simp only [go_sem, Nat.reduceAdd, Nat.reduceSub, Nat.reduceMul, Nat.reduceDiv, Nat.reduceMod, Nat.reduceLeDiff, Nat.reduceLT, Nat.reduceBEq, Int.reduceToNat, Int.reduceLT, Int.reduceLE, Int.reduceEq, h]
def bxErr (x : Ln) (sp : List Sp) : Int := fnz [lnErr x sp.length, spErr sp]
theorem ok79 (n : Nat) (x : Ln) (b : Bool) (sp : List Sp) (hx : x.co.length < 1000000000) (hs : sp.length < 1000000000) : callP (level E (n+6)) 79 [.agg (enL x), slD b 2 (sp.map enS)] = some (.int .i64 (bxErr x sp)) := by
  have h68 := ok68 n x sp.length hx
  have h71 := ok71 (n+2) b sp hs
  have h57 := ok57_2 (n+4) (lnErr x sp.length) (spErr sp)
  rw [p79]
  simp only [go_sem, Nat.reduceAdd, Nat.reduceSub, Nat.reduceMul, Nat.reduceDiv, Nat.reduceMod, Nat.reduceLeDiff, Nat.reduceLT, Nat.reduceBEq, Int.reduceToNat, Int.reduceLT, Int.reduceLE, Int.reduceEq] at h68
  simp only [go_sem, Nat.reduceAdd, Nat.reduceSub, Nat.reduceMul, Nat.reduceDiv, Nat.reduceMod, Nat.reduceLeDiff, Nat.reduceLT, Nat.reduceBEq, Int.reduceToNat, Int.reduceLT, Int.reduceLE, Int.reduceEq, h68, h71, h57, bxErr]
theorem bxErr0 {x : Ln} {sp : List Sp} (h : bxErr x sp = 0) : x.co.length = sp.length := by
  unfold bxErr at h
  by_cases hl : lnErr x sp.length = 0
  · unfold lnErr at hl
    by_cases he : (x.co.length : Int) = sp.length
    · omega
    · simp [fnz, he] at hl
  · simp [fnz, hl] at h
def least (g : Bool) (x : Ln) (sp : List Sp) : D := if bxErr x sp = 0 then .tup [.int .i64 (exs g x.co sp x.c), .int .i64 0] else .tup [.int .i64 0, .int .i64 (bxErr x sp)]
theorem ok35 (n : Nat) (x : Ln) (b : Bool) (sp : List Sp) (hx : x.co.length < 1000000000) (hs : sp.length < 1000000000) : callP (level E (n+7)) 35 [.agg (enL x), slD b 2 (sp.map enS)] = some (least false x sp) := by
  have h79 := ok79 n x b sp hx hs
  rw [p35]
  simp only [go_sem, Nat.reduceAdd, Nat.reduceSub, Nat.reduceMul, Nat.reduceDiv, Nat.reduceMod, Nat.reduceLeDiff, Nat.reduceLT, Nat.reduceBEq, Int.reduceToNat, Int.reduceLT, Int.reduceLE, Int.reduceEq] at h79
  unfold least
  by_cases h0 : bxErr x sp = 0
  · have h80 := ok80 (n+5) x b sp false (Nat.le_of_eq (bxErr0 h0)) hx
    simp only [go_sem, Nat.reduceAdd, Nat.reduceSub, Nat.reduceMul, Nat.reduceDiv, Nat.reduceMod, Nat.reduceLeDiff, Nat.reduceLT, Nat.reduceBEq, Int.reduceToNat, Int.reduceLT, Int.reduceLE, Int.reduceEq] at h80
    simp only [go_sem, Nat.reduceAdd, Nat.reduceSub, Nat.reduceMul, Nat.reduceDiv, Nat.reduceMod, Nat.reduceLeDiff, Nat.reduceLT, Nat.reduceBEq, Int.reduceToNat, Int.reduceLT, Int.reduceLE, Int.reduceEq, h79, h80, h0, ne_eq, not_true_eq_false]
  · simp only [go_sem, Nat.reduceAdd, Nat.reduceSub, Nat.reduceMul, Nat.reduceDiv, Nat.reduceMod, Nat.reduceLeDiff, Nat.reduceLT, Nat.reduceBEq, Int.reduceToNat, Int.reduceLT, Int.reduceLE, Int.reduceEq, h79, h0, ne_eq, not_false_eq_true]
theorem ok37 (n : Nat) (x : Ln) (b : Bool) (sp : List Sp) (hx : x.co.length < 1000000000) (hs : sp.length < 1000000000) : callP (level E (n+7)) 37 [.agg (enL x), slD b 2 (sp.map enS)] = some (least true x sp) := by
  have h79 := ok79 n x b sp hx hs
  rw [p37]
  simp only [go_sem, Nat.reduceAdd, Nat.reduceSub, Nat.reduceMul, Nat.reduceDiv, Nat.reduceMod, Nat.reduceLeDiff, Nat.reduceLT, Nat.reduceBEq, Int.reduceToNat, Int.reduceLT, Int.reduceLE, Int.reduceEq] at h79
  unfold least
  by_cases h0 : bxErr x sp = 0
  · have h80 := ok80 (n+5) x b sp true (Nat.le_of_eq (bxErr0 h0)) hx
    simp only [go_sem, Nat.reduceAdd, Nat.reduceSub, Nat.reduceMul, Nat.reduceDiv, Nat.reduceMod, Nat.reduceLeDiff, Nat.reduceLT, Nat.reduceBEq, Int.reduceToNat, Int.reduceLT, Int.reduceLE, Int.reduceEq] at h80
    simp only [go_sem, Nat.reduceAdd, Nat.reduceSub, Nat.reduceMul, Nat.reduceDiv, Nat.reduceMod, Nat.reduceLeDiff, Nat.reduceLT, Nat.reduceBEq, Int.reduceToNat, Int.reduceLT, Int.reduceLE, Int.reduceEq, h79, h80, h0, ne_eq, not_true_eq_false]
  · simp only [go_sem, Nat.reduceAdd, Nat.reduceSub, Nat.reduceMul, Nat.reduceDiv, Nat.reduceMod, Nat.reduceLeDiff, Nat.reduceLT, Nat.reduceBEq, Int.reduceToNat, Int.reduceLT, Int.reduceLE, Int.reduceEq, h79, h0, ne_eq, not_false_eq_true]
def vl : List Int → List Int → Int → Int
  | x :: r, p :: q, a => vl r q (ad a (ml x p))
  | _, _, a => a
theorem l62 {lo : Lower} {b1 b2 : Bool} {co pt : List Int} (hl : co.length ≤ pt.length) (hb : co.length < 1000000000) : ∀ (r t : List Int) (i : Nat) (a : Int), co.drop i = r → pt.drop i = t →
    outC ⟨0, false⟩ [0, 0, 0, 0, 1, 0, 0, 0, 0, 0, 0] (rnd (aCode lo ⟨0, false⟩ b62_0) (head ⟨0, false⟩ [0, 1, 0, 0, 1, 0, 0, 1, 1, 1, 0])
      ⟨[.junk, .imm (slD b2 1 (pt.map ic)), .junk, .junk, .imm (.int .i64 a), .junk, .junk, .imm (slD b1 1 (co.map ic)), .imm (.int .i64 co.length), .imm (.int .i64 i), .junk], [], none⟩) =
      some (.exit 0, ⟨[.junk, .junk, .junk, .junk, .imm (.int .i64 (vl r t a)), .junk, .junk, .junk, .junk, .junk, .junk], [], none⟩)
  | [], t, i, a, h, h' => by
    rw [rnd_eq]
    simp only [go_sem, Nat.reduceAdd, Nat.reduceSub, Nat.reduceMul, Nat.reduceDiv, Nat.reduceMod, Nat.reduceLeDiff, Nat.reduceLT, Nat.reduceBEq, Int.reduceToNat, Int.reduceLT, Int.reduceLE, Int.reduceEq, lt_f (drop_n h), vl]
  | x :: r, [], i, a, h, h' => by
    obtain ⟨h1, h2, h3⟩ := drop_c h
    have := drop_n h'
    omega
  | x :: r, s :: t, i, a, h, h' => by
    obtain ⟨h1, h2, h3⟩ := drop_c h
    obtain ⟨h1', h2', h3'⟩ := drop_c h'
    have h6 := wrpS (i := i) (by omega)
    have IH := l62 (lo := lo) (b1 := b1) (b2 := b2) hl hb r t (i + 1) (ad a (ml x s)) h3 h3'
    rw [rnd_eq]
    simp only [vl]
    have hx : wrp .i64 (a + wrp .i64 (x * s)) = ad a (ml x s) := rfl
    simp only [go_sem, Nat.reduceAdd, Nat.reduceSub, Nat.reduceMul, Nat.reduceDiv, Nat.reduceMod, Nat.reduceLeDiff, Nat.reduceLT, Nat.reduceBEq, Int.reduceToNat, Int.reduceLT, Int.reduceLE, Int.reduceEq, lt_t h2, lt_t h2', h1, h1', h6, hx]
    exact IH
theorem ok62 (n : Nat) (x : Ln) (b : Bool) (pt : List Int) (hl : x.co.length ≤ pt.length) (hb : x.co.length < 1000000000) : callP (level E (n+1)) 62 [.agg (enL x), slD b 1 (pt.map ic)] = some (.int .i64 (vl x.co pt x.c)) := by
  have h := l62 (lo := level E n) (b1 := x.nl) (b2 := b) hl hb x.co pt 0 x.c rfl rfl
  rw [cast0] at h
  rw [p62]
  simp only [go_sem, Nat.reduceAdd, Nat.reduceSub, Nat.reduceMul, Nat.reduceDiv, Nat.reduceMod, Nat.reduceLeDiff, Nat.reduceLT, Nat.reduceBEq, Int.reduceToNat, Int.reduceLT, Int.reduceLE, Int.reduceEq, h]
def neg1 (pt : List Int) (x : Ln) : Bool := decide (vl x.co pt x.c < 0)
theorem ok63 (n : Nat) (x : Ln) (b : Bool) (pt : List Int) (hl : x.co.length ≤ pt.length) (hb : x.co.length < 1000000000) : callP (level E (n+2)) 63 [.agg (enL x), .ptr [.fn 62 [] []], .ptr [slD b 1 (pt.map ic)]] = some (.bool (neg1 pt x)) := by
  have h := ok62 n x b pt hl hb
  rw [p63]
  simp only [go_sem, Nat.reduceAdd, Nat.reduceSub, Nat.reduceMul, Nat.reduceDiv, Nat.reduceMod, Nat.reduceLeDiff, Nat.reduceLT, Nat.reduceBEq, Int.reduceToNat, Int.reduceLT, Int.reduceLE, Int.reduceEq] at h
  simp only [go_sem, Nat.reduceAdd, Nat.reduceSub, Nat.reduceMul, Nat.reduceDiv, Nat.reduceMod, Nat.reduceLeDiff, Nat.reduceLT, Nat.reduceBEq, Int.reduceToNat, Int.reduceLT, Int.reduceLE, Int.reduceEq, h, neg1]
def ins : List Int → List Sp → Bool
  | p :: r, s :: t => !offB p s.lo s.hi && ins r t
  | _, _ => true
def x64 (b : Bool) : AExit × S := match b with
  | true => (.exit 0, ⟨[.junk, .junk, .junk, .junk, .junk, .junk, .junk, .junk, .junk, .junk], [], none⟩)
  | false => (.ret, ⟨[.junk, .junk, .imm (.bool false), .junk, .junk, .junk, .junk, .junk, .junk, .junk], [], none⟩)
theorem l64 {n : Nat} {b1 b2 : Bool} {pt : List Int} {sp : List Sp} (hl : pt.length ≤ sp.length) (hb : pt.length < 1000000000) : ∀ (r : List Int) (t : List Sp) (i : Nat), pt.drop i = r → sp.drop i = t →
    outC ⟨0, false⟩ [0, 0, 1, 0, 0, 0, 0, 0, 0, 0] (rnd (aCode (level E (n+1)) ⟨0, false⟩ b64_0) (head ⟨0, false⟩ [1, 0, 0, 0, 0, 1, 1, 1, 0, 0])
      ⟨[.imm (slD b2 2 (sp.map enS)), .junk, .junk, .junk, .junk, .imm (slD b1 1 (pt.map ic)), .imm (.int .i64 pt.length), .imm (.int .i64 i), .junk, .junk], [], none⟩) =
      some (x64 (ins r t))
  | [], t, i, h, h' => by
    rw [rnd_eq]
    simp only [go_sem, Nat.reduceAdd, Nat.reduceSub, Nat.reduceMul, Nat.reduceDiv, Nat.reduceMod, Nat.reduceLeDiff, Nat.reduceLT, Nat.reduceBEq, Int.reduceToNat, Int.reduceLT, Int.reduceLE, Int.reduceEq, lt_f (drop_n h), ins, x64]
  | x :: r, [], i, h, h' => by
    obtain ⟨h1, h2, h3⟩ := drop_c h
    have := drop_n h'
    omega
  | x :: r, s :: t, i, h, h' => by
    obtain ⟨h1, h2, h3⟩ := drop_c h
    obtain ⟨h1', h2', h3'⟩ := drop_c h'
    have h6 := wrpS (i := i) (by omega)
    have h59 := ok59 n x s.lo s.hi
    have IH := l64 (n := n) (b1 := b1) (b2 := b2) hl hb r t (i + 1) h3 h3'
    rw [rnd_eq]
    simp only [ins]
    cases h0 : offB x s.lo s.hi <;> rw [h0] at h59
    · simp only [go_sem, Nat.reduceAdd, Nat.reduceSub, Nat.reduceMul, Nat.reduceDiv, Nat.reduceMod, Nat.reduceLeDiff, Nat.reduceLT, Nat.reduceBEq, Int.reduceToNat, Int.reduceLT, Int.reduceLE, Int.reduceEq, lt_t h2, lt_t h2', h1, h1', h6, h59, Bool.not_false, Bool.true_and]
      exact IH
    · simp only [go_sem, Nat.reduceAdd, Nat.reduceSub, Nat.reduceMul, Nat.reduceDiv, Nat.reduceMod, Nat.reduceLeDiff, Nat.reduceLT, Nat.reduceBEq, Int.reduceToNat, Int.reduceLT, Int.reduceLE, Int.reduceEq, lt_t h2, lt_t h2', h1, h1', h6, h59, Bool.not_true, Bool.false_and, x64]
theorem ok64 (n : Nat) (b1 b2 : Bool) (pt : List Int) (sp : List Sp) (hl : pt.length ≤ sp.length) (hb : pt.length < 1000000000) : callP (level E (n+2)) 64 [slD b2 2 (sp.map enS), slD b1 1 (pt.map ic)] = some (.bool (ins pt sp)) := by
  have h := l64 (n := n) (b1 := b1) (b2 := b2) hl hb pt sp 0 rfl rfl
  rw [cast0] at h
  rw [p64]
  cases h0 : ins pt sp <;> rw [h0] at h <;> simp only [go_sem, Nat.reduceAdd, Nat.reduceSub, Nat.reduceMul, Nat.reduceDiv, Nat.reduceMod, Nat.reduceLeDiff, Nat.reduceLT, Nat.reduceBEq, Int.reduceToNat, Int.reduceLT, Int.reduceLE, Int.reduceEq, x64] at h <;> simp only [go_sem, Nat.reduceAdd, Nat.reduceSub, Nat.reduceMul, Nat.reduceDiv, Nat.reduceMod, Nat.reduceLeDiff, Nat.reduceLT, Nat.reduceBEq, Int.reduceToNat, Int.reduceLT, Int.reduceLE, Int.reduceEq, h]
theorem l90 {n : Nat} {b : Bool} {l : List Ln} {g : FuncId} {cs : List D} {p : Ln → Bool} (H : ∀ x ∈ l, callP (level E n) g (.agg (enL x) :: cs) = some (.bool (p x))) (hl : l.length < 1000000000) : ∀ (r : List Ln) (i : Nat), l.drop i = r →
    outC ⟨0, false⟩ [0, 0, 1, 0, 0, 0, 0, 0] (rnd (aCode (level E n) ⟨0, false⟩ b90_0) (head ⟨0, false⟩ [1, 1, 0, 0, 1, 1, 0, 0]) ⟨[.imm (slD b 2 (l.map enL)), .imm (.fn g [] cs), .junk, .junk, .imm (.int .i64 l.length), .imm (.int .i64 i), .junk, .junk], [], none⟩) =
      some (if r.any p then (.ret, ⟨[.junk, .junk, .imm (.int .i64 (fidx p r i)), .junk, .junk, .junk, .junk, .junk], [], none⟩) else (.exit 0, ⟨[.junk, .junk, .junk, .junk, .junk, .junk, .junk, .junk], [], none⟩))
  | [], i, h => by
    rw [rnd_eq]
    simp only [go_sem, Nat.reduceAdd, Nat.reduceSub, Nat.reduceMul, Nat.reduceDiv, Nat.reduceMod, Nat.reduceLeDiff, Nat.reduceLT, Nat.reduceBEq, Int.reduceToNat, Int.reduceLT, Int.reduceLE, Int.reduceEq, lt_f (drop_n h), List.any_nil, Bool.false_eq_true]
  | x :: r, i, h => by
    obtain ⟨h1, h2, h3⟩ := drop_c h
    have H' := H x (List.mem_of_getElem? h1)
    simp only [go_sem, Nat.reduceAdd, Nat.reduceSub, Nat.reduceMul, Nat.reduceDiv, Nat.reduceMod, Nat.reduceLeDiff, Nat.reduceLT, Nat.reduceBEq, Int.reduceToNat, Int.reduceLT, Int.reduceLE, Int.reduceEq] at H'
    rw [rnd_eq]
    cases h0 : p x
    · simp only [go_sem, Nat.reduceAdd, Nat.reduceSub, Nat.reduceMul, Nat.reduceDiv, Nat.reduceMod, Nat.reduceLeDiff, Nat.reduceLT, Nat.reduceBEq, Int.reduceToNat, Int.reduceLT, Int.reduceLE, Int.reduceEq, lt_t h2, h1, H', h0, List.any_cons, fidx, Bool.false_eq_true]
      rw [wrpS (by omega)]
      exact l90 H hl r (i + 1) h3
    · simp only [go_sem, Nat.reduceAdd, Nat.reduceSub, Nat.reduceMul, Nat.reduceDiv, Nat.reduceMod, Nat.reduceLeDiff, Nat.reduceLT, Nat.reduceBEq, Int.reduceToNat, Int.reduceLT, Int.reduceLE, Int.reduceEq, lt_t h2, h1, H', h0, List.any_cons, fidx]
theorem ok90 (n : Nat) (b : Bool) (l : List Ln) (g : FuncId) (cs : List D) (p : Ln → Bool) (H : ∀ x ∈ l, callP (level E n) g (.agg (enL x) :: cs) = some (.bool (p x))) (hl : l.length < 1000000000) :
    callP (level E (n+1)) 90 [slD b 2 (l.map enL), .fn g [] cs] = some (.int .i64 (fidx p l 0)) := by
  rw [p90]
  have h := l90 (b := b) H hl l 0
  have h1 : l.any p = false → fidx p l 0 = -1 := by
    intro h
    have : ∀ (l : List Ln) (i : Nat), l.any p = false → fidx p l i = -1 := by
      intro l
      induction l with
      | nil => intros; rfl
      | cons x r ih => intro i h; simp only [List.any_cons, Bool.or_eq_false_iff] at h; simp only [fidx, h.1, Bool.false_eq_true, if_false]; exact ih _ h.2
    exact this l 0 h
  rw [cast0] at h
  simp only [go_sem, Nat.reduceAdd, Nat.reduceSub, Nat.reduceMul, Nat.reduceDiv, Nat.reduceMod, Nat.reduceLeDiff, Nat.reduceLT, Nat.reduceBEq, Int.reduceToNat, Int.reduceLT, Int.reduceLE, Int.reduceEq]
  rw [h rfl]
  cases h0 : l.any p
  · simp only [go_sem, Nat.reduceAdd, Nat.reduceSub, Nat.reduceMul, Nat.reduceDiv, Nat.reduceMod, Nat.reduceLeDiff, Nat.reduceLT, Nat.reduceBEq, Int.reduceToNat, Int.reduceLT, Int.reduceLE, Int.reduceEq, Bool.false_eq_true, h1 h0]
  · simp only [go_sem, Nat.reduceAdd, Nat.reduceSub, Nat.reduceMul, Nat.reduceDiv, Nat.reduceMod, Nat.reduceLeDiff, Nat.reduceLT, Nat.reduceBEq, Int.reduceToNat, Int.reduceLT, Int.reduceLE, Int.reduceEq]
theorem ok65 (n : Nat) (b : Bool) (l : List Ln) (g : FuncId) (cs : List D) (p : Ln → Bool) (H : ∀ x ∈ l, callP (level E n) g (.agg (enL x) :: cs) = some (.bool (p x))) (hl : l.length < 1000000000) :
    callP (level E (n+2)) 65 [slD b 2 (l.map enL), .fn g [] cs] = some (.bool (l.any p)) := by
  rw [p65]
  simp only [go_sem, Nat.reduceAdd, Nat.reduceSub, Nat.reduceMul, Nat.reduceDiv, Nat.reduceMod, Nat.reduceLeDiff, Nat.reduceLT, Nat.reduceBEq, Int.reduceToNat, Int.reduceLT, Int.reduceLE, Int.reduceEq, ok90 n b l g cs p H hl, fidx_ge]
def rfE (c : Cl) (pt : List Int) : Int := fnz [clErr c, if decide (pt.length ≠ c.sp.length) then 2 else 0]
def rfB (c : Cl) (pt : List Int) : Bool := ins pt c.sp && !c.gv.any (neg1 pt) && neg1 pt c.go
def refutes (c : Cl) (pt : List Int) : D := if rfE c pt = 0 then .tup [.bool (rfB c pt), .int .i64 0] else .tup [.bool false, .int .i64 (rfE c pt)]
theorem ok23 (n : Nat) (c : Cl) (b : Bool) (pt : List Int) (hf : c.Fit) (hp : pt.length < 1000000000) : callP (level E (n+9)) 23 [.agg (enC c), slD b 1 (pt.map ic)] = some (refutes c pt) := by
  have h28 := ok28 n c hf
  have h57 := ok57_2 (n + 7) (clErr c) (if decide (pt.length ≠ c.sp.length) then 2 else 0)
  have h58 := ok58 (n + 7) (decide (pt.length ≠ c.sp.length)) 2
  have hd : decide (¬ ((pt.length : Nat) : Int) = c.sp.length) = decide (pt.length ≠ c.sp.length) := by
    apply decide_eq_decide.2; omega
  have hE : rfE c pt = fnz [clErr c, if decide (pt.length ≠ c.sp.length) then 2 else 0] := rfl
  rw [← hE] at h57
  rw [p23]
  unfold refutes
  simp only [go_sem, Nat.reduceAdd, Nat.reduceSub, Nat.reduceMul, Nat.reduceDiv, Nat.reduceMod, Nat.reduceLeDiff, Nat.reduceLT, Nat.reduceBEq, Int.reduceToNat, Int.reduceLT, Int.reduceLE, Int.reduceEq] at h28 h57 h58
  generalize decide (pt.length ≠ c.sp.length) = db at hd h57 h58 hE
  by_cases h0 : rfE c pt = 0
  · have h00 := h0
    rw [hE] at h0
    have hcl : clErr c = 0 := by
      by_cases h : clErr c = 0
      · exact h
      · simp [fnz, h] at h0
    have hdb : db = false := by
      cases db
      · rfl
      · rw [hcl] at h0; simp [fnz] at h0
    subst hdb
    simp only [Bool.false_eq_true, if_false] at h57 h58
    have hpl : pt.length = c.sp.length := by
      have : ((pt.length : Nat) : Int) = c.sp.length := by simpa using hd.symm
      omega
    have hev := clErr_even hf hcl
    have h64 := ok64 (n + 6) b c.sn pt c.sp (Nat.le_of_eq hpl) hp
    have H : ∀ x ∈ c.gv, callP (level E (n + 6)) 63 (.agg (enL x) :: [.ptr [.fn 62 [] []], .ptr [slD b 1 (pt.map ic)]]) = some (.bool (neg1 pt x)) := fun x hx => ok63 (n + 4) x b pt (by rw [hev.gv x hx]; omega) (hf.ln x hx)
    have h65 := ok65 (n + 6) c.gn c.gv 63 [.ptr [.fn 62 [] []], .ptr [slD b 1 (pt.map ic)]] (neg1 pt) H (by have := hf.gv; omega)
    have h63 := ok63 (n + 6) c.go b pt (by rw [hev.go]; omega) hf.go
    simp only [go_sem, Nat.reduceAdd, Nat.reduceSub, Nat.reduceMul, Nat.reduceDiv, Nat.reduceMod, Nat.reduceLeDiff, Nat.reduceLT, Nat.reduceBEq, Int.reduceToNat, Int.reduceLT, Int.reduceLE, Int.reduceEq] at h63
    simp only [go_sem, Nat.reduceAdd, Nat.reduceSub, Nat.reduceMul, Nat.reduceDiv, Nat.reduceMod, Nat.reduceLeDiff, Nat.reduceLT, Nat.reduceBEq, Int.reduceToNat, Int.reduceLT, Int.reduceLE, Int.reduceEq, h28, h57, h58, ne_eq, hd, h00, rfB, not_true_eq_false]
    cases i1 : ins pt c.sp <;> rw [i1] at h64
    · simp only [go_sem, Nat.reduceAdd, Nat.reduceSub, Nat.reduceMul, Nat.reduceDiv, Nat.reduceMod, Nat.reduceLeDiff, Nat.reduceLT, Nat.reduceBEq, Int.reduceToNat, Int.reduceLT, Int.reduceLE, Int.reduceEq, h64, Bool.false_and]
    · cases i2 : c.gv.any (neg1 pt) <;> rw [i2] at h65
      · cases i3 : neg1 pt c.go <;> rw [i3] at h63 <;> simp only [go_sem, Nat.reduceAdd, Nat.reduceSub, Nat.reduceMul, Nat.reduceDiv, Nat.reduceMod, Nat.reduceLeDiff, Nat.reduceLT, Nat.reduceBEq, Int.reduceToNat, Int.reduceLT, Int.reduceLE, Int.reduceEq, h64, h65, h63, Bool.not_false, Bool.true_and]
      · simp only [go_sem, Nat.reduceAdd, Nat.reduceSub, Nat.reduceMul, Nat.reduceDiv, Nat.reduceMod, Nat.reduceLeDiff, Nat.reduceLT, Nat.reduceBEq, Int.reduceToNat, Int.reduceLT, Int.reduceLE, Int.reduceEq, h64, h65, Bool.not_true, Bool.true_and, Bool.false_and]
  · simp only [go_sem, Nat.reduceAdd, Nat.reduceSub, Nat.reduceMul, Nat.reduceDiv, Nat.reduceMod, Nat.reduceLeDiff, Nat.reduceLT, Nat.reduceBEq, Int.reduceToNat, Int.reduceLT, Int.reduceLE, Int.reduceEq, h28, h57, h58, h0, ne_eq, hd, not_false_eq_true]
end Go.Vm.P12

/- Chapter 12, functions: the form of a proof. -/
set_option maxRecDepth 100000
namespace Go.Vm.P12
open Go Go.Vm
section
variable {lo : Lower} {cx : Cx} {v0 v1 v2 v5 v6 v7 v8 v9 : AV}
def lf1 (y : Stp) (c : Cl) : Bool := decide (¬ (y.gv.length : Int) = c.gv.length) || decide (¬ (y.lw.length : Int) = c.sp.length) || decide (¬ (y.hg.length : Int) = c.sp.length)
@[go_sem high] theorem r75_3 {y : Stp} {c : Cl} {b0 b1 b2 b3 b4 b5 d1 d2 : D} :
    aCode lo cx (.region [
  ⟨none, none, .faddr 2 (.var 3)⟩,
  ⟨none, none, .load false 1 (.loc 0)⟩,
  ⟨none, none, .len .sl (.loc 1)⟩,
  ⟨none, none, .faddr 1 (.var 4)⟩,
  ⟨none, none, .load false 1 (.loc 3)⟩,
  ⟨none, none, .len .sl (.loc 4)⟩,
  ⟨none, none, .bin .neq (.loc 2) (.loc 5)⟩,
  ⟨none, none, .mv (.loc 6)⟩,
  ⟨none, some (7, false), .faddr 3 (.var 3)⟩,
  ⟨none, some (7, false), .load false 1 (.loc 8)⟩,
  ⟨none, some (7, false), .len .sl (.loc 9)⟩,
  ⟨none, some (7, false), .faddr 0 (.var 4)⟩,
  ⟨none, some (7, false), .load false 1 (.loc 11)⟩,
  ⟨none, some (7, false), .len .sl (.loc 12)⟩,
  ⟨none, some (7, false), .bin .neq (.loc 10) (.loc 13)⟩,
  ⟨none, none, .pick (.loc 7) (.k (.bool true)) (.loc 14)⟩,
  ⟨none, none, .mv (.loc 15)⟩,
  ⟨none, some (16, false), .faddr 4 (.var 3)⟩,
  ⟨none, some (16, false), .load false 1 (.loc 17)⟩,
  ⟨none, some (16, false), .len .sl (.loc 18)⟩,
  ⟨none, some (16, false), .faddr 0 (.var 4)⟩,
  ⟨none, some (16, false), .load false 1 (.loc 20)⟩,
  ⟨none, some (16, false), .len .sl (.loc 21)⟩,
  ⟨none, some (16, false), .bin .neq (.loc 19) (.loc 22)⟩,
  ⟨none, none, .pick (.loc 16) (.k (.bool true)) (.loc 23)⟩,
  ⟨(some 8), none, .mv (.loc 24)⟩] none) ⟨[v0, v1, v2, .ptr 0 0, .ptr 1 0, v5, v6, v7, v8, v9], [.box [.imm b0, .imm b1, .imm (slD y.gn 1 (y.gv.map ic)), .imm (slD y.ln 1 (y.lw.map ic)), .imm (slD y.hn 1 (y.hg.map ic)), .imm b2, .imm b3, .imm b4, .imm b5], .box [.imm (slD c.sn 2 (c.sp.map enS)), .imm (slD c.gn 2 (c.gv.map enL)), .imm d1, .imm d2]], none⟩ =
      some (.normal, ⟨[v0, v1, v2, .ptr 0 0, .ptr 1 0, v5, v6, v7, .imm (.bool (lf1 y c)), v9], [.box [.imm b0, .imm b1, .imm (slD y.gn 1 (y.gv.map ic)), .imm (slD y.ln 1 (y.lw.map ic)), .imm (slD y.hn 1 (y.hg.map ic)), .imm b2, .imm b3, .imm b4, .imm b5], .box [.imm (slD c.sn 2 (c.sp.map enS)), .imm (slD c.gn 2 (c.gv.map enL)), .imm d1, .imm d2]], none⟩) := by
  unfold lf1
  cases h1 : decide (¬ (y.gv.length : Int) = c.gv.length) <;> cases h2 : decide (¬ (y.lw.length : Int) = c.sp.length) <;>
    simp only [go_sem, Nat.reduceAdd, Nat.reduceSub, Nat.reduceMul, Nat.reduceDiv, Nat.reduceMod, Nat.reduceLeDiff, Nat.reduceLT, Nat.reduceBEq, Int.reduceToNat, Int.reduceLT, Int.reduceLE, Int.reduceEq, ne_eq, h1, h2, Bool.true_or, Bool.false_or]
def lf2 (y : Stp) : Bool := offB y.goal 0 1000 || y.gv.any (fun x => offB x 0 1000) || y.lw.any (fun x => offB x 0 34359738368) || y.hg.any (fun x => offB x 0 34359738368)
structure Stp.Fits (s : Stp) : Prop where
  gv : s.gv.length < 1000000000
  lw : s.lw.length < 1000000000
  hg : s.hg.length < 1000000000
@[go_sem high] theorem r75_4 {n : Nat} {y : Stp} {o : AO} {b0 : D} (hy : y.Fits) :
    aCode (level E (n + 4)) cx (.region [
  ⟨none, none, .mv (.var 6)⟩,
  ⟨none, none, .faddr 1 (.var 3)⟩,
  ⟨none, none, .load false 1 (.loc 1)⟩,
  ⟨none, none, .call .pure (.loc 0) [(.loc 2)]⟩,
  ⟨none, none, .mv (.loc 3)⟩,
  ⟨none, some (4, false), .faddr 2 (.var 3)⟩,
  ⟨none, some (4, false), .load false 1 (.loc 5)⟩,
  ⟨none, some (4, false), .mv (.var 6)⟩,
  ⟨none, some (4, false), .call .pure (.k (.fn 67 [] [])) [(.loc 6), (.loc 7)]⟩,
  ⟨none, none, .pick (.loc 4) (.k (.bool true)) (.loc 8)⟩,
  ⟨none, none, .mv (.loc 9)⟩,
  ⟨none, some (10, false), .faddr 3 (.var 3)⟩,
  ⟨none, some (10, false), .load false 1 (.loc 11)⟩,
  ⟨none, some (10, false), .mv (.var 7)⟩,
  ⟨none, some (10, false), .call .pure (.k (.fn 67 [] [])) [(.loc 12), (.loc 13)]⟩,
  ⟨none, none, .pick (.loc 10) (.k (.bool true)) (.loc 14)⟩,
  ⟨none, none, .mv (.loc 15)⟩,
  ⟨none, some (16, false), .faddr 4 (.var 3)⟩,
  ⟨none, some (16, false), .load false 1 (.loc 17)⟩,
  ⟨none, some (16, false), .mv (.var 7)⟩,
  ⟨none, some (16, false), .call .pure (.k (.fn 67 [] [])) [(.loc 18), (.loc 19)]⟩,
  ⟨none, none, .pick (.loc 16) (.k (.bool true)) (.loc 20)⟩,
  ⟨(some 9), none, .mv (.loc 21)⟩] none) ⟨[v0, v1, v2, .ptr 0 0, v5, v7, .imm (.fn 95 [] [.ptr [.int .i64 1000]]), .imm (.fn 95 [] [.ptr [.int .i64 34359738368]]), v8, v9], [.box [.imm b0, .imm (.int .i64 y.goal), .imm (slD y.gn 1 (y.gv.map ic)), .imm (slD y.ln 1 (y.lw.map ic)), .imm (slD y.hn 1 (y.hg.map ic)), .imm (.int .i64 y.va), .imm (.int .i64 y.bo), .imm (.int .i64 y.k0), .imm (.int .i64 y.k1)], o], none⟩ =
      some (.normal, ⟨[v0, v1, v2, .ptr 0 0, v5, v7, .imm (.fn 95 [] [.ptr [.int .i64 1000]]), .imm (.fn 95 [] [.ptr [.int .i64 34359738368]]), v8, .imm (.bool (lf2 y))], [.box [.imm b0, .imm (.int .i64 y.goal), .imm (slD y.gn 1 (y.gv.map ic)), .imm (slD y.ln 1 (y.lw.map ic)), .imm (slD y.hn 1 (y.hg.map ic)), .imm (.int .i64 y.va), .imm (.int .i64 y.bo), .imm (.int .i64 y.k0), .imm (.int .i64 y.k1)], o], none⟩) := by
  have h0 := ok95 (n + 2) y.goal 1000 []
  have h1 := ok67 (n + 2) y.gn y.gv 95 [.ptr [.int .i64 1000]] (fun x => offB x 0 1000) (fun x _ => ok95 n x 1000 []) hy.gv
  have h2 := ok67 (n + 2) y.ln y.lw 95 [.ptr [.int .i64 34359738368]] (fun x => offB x 0 34359738368) (fun x _ => ok95 n x 34359738368 []) hy.lw
  have h3 := ok67 (n + 2) y.hn y.hg 95 [.ptr [.int .i64 34359738368]] (fun x => offB x 0 34359738368) (fun x _ => ok95 n x 34359738368 []) hy.hg
  unfold lf2
  cases a0 : offB y.goal 0 1000 <;> rw [a0] at h0 <;> cases a1 : y.gv.any (fun x => offB x 0 1000) <;> rw [a1] at h1 <;> cases a2 : y.lw.any (fun x => offB x 0 34359738368) <;> rw [a2] at h2 <;>
    simp only [go_sem, Nat.reduceAdd, Nat.reduceSub, Nat.reduceMul, Nat.reduceDiv, Nat.reduceMod, Nat.reduceLeDiff, Nat.reduceLT, Nat.reduceBEq, Int.reduceToNat, Int.reduceLT, Int.reduceLE, Int.reduceEq, h0, h1, h2, h3, Bool.true_or, Bool.false_or]
def lf3 (y : Stp) : Bool := decide (¬ y.va = 0) || decide (¬ y.bo = 0) || !(decide (y.k0 = 0) && decide (y.k1 = 0))
def lfErr (y : Stp) (c : Cl) : Int := fnz [if lf1 y c then 2 else 0, if lf2 y then 3 else 0, if lf3 y then 1 else 0]
@[go_sem high] theorem r75_5 {n : Nat} {y : Stp} {o : AO} {b0 : D} {e1 e2 : Bool} :
    aCode (level E (n + 1)) cx (.region [
  ⟨none, none, .mv (.var 8)⟩,
  ⟨none, none, .call .pure (.k (.fn 58 [] [])) [(.loc 0), (.k (.int .i64 2))]⟩,
  ⟨none, none, .mv (.var 9)⟩,
  ⟨none, none, .call .pure (.k (.fn 58 [] [])) [(.loc 2), (.k (.int .i64 3))]⟩,
  ⟨none, none, .faddr 5 (.var 3)⟩,
  ⟨none, none, .load false 1 (.loc 4)⟩,
  ⟨none, none, .bin .neq (.loc 5) (.k (.int .i64 0))⟩,
  ⟨none, none, .mv (.loc 6)⟩,
  ⟨none, some (7, false), .faddr 6 (.var 3)⟩,
  ⟨none, some (7, false), .load false 1 (.loc 8)⟩,
  ⟨none, some (7, false), .bin .neq (.loc 9) (.k (.int .i64 0))⟩,
  ⟨none, none, .pick (.loc 7) (.k (.bool true)) (.loc 10)⟩,
  ⟨none, none, .mv (.loc 11)⟩,
  ⟨none, some (12, false), .faddr 7 (.var 3)⟩,
  ⟨none, some (12, false), .load true 2 (.loc 13)⟩,
  ⟨none, some (12, false), .build [.int .i64 0, .int .i64 0] []⟩,
  ⟨none, some (12, false), .eqs true (.agg [(0, .int), (1, .int)]) (.loc 14) (.loc 15)⟩,
  ⟨none, none, .pick (.loc 12) (.k (.bool true)) (.loc 16)⟩,
  ⟨none, none, .call .pure (.k (.fn 58 [] [])) [(.loc 17), (.k (.int .i64 1))]⟩,
  ⟨none, none, .bslice false 1 [.int .i64 0] 3 [(0, (.loc 1)), (1, (.loc 3)), (2, (.loc 18))]⟩,
  ⟨none, none, .call .pure (.k (.fn 57 [] [])) [(.loc 19)]⟩,
  ⟨(some 2), none, .mv (.loc 20)⟩] (some (22, []))) ⟨[v0, v1, v2, .ptr 0 0, v5, v7, v6, v8, .imm (.bool e1), .imm (.bool e2)], [.box [.imm b0, .imm (.int .i64 y.goal), .imm (slD y.gn 1 (y.gv.map ic)), .imm (slD y.ln 1 (y.lw.map ic)), .imm (slD y.hn 1 (y.hg.map ic)), .imm (.int .i64 y.va), .imm (.int .i64 y.bo), .imm (.int .i64 y.k0), .imm (.int .i64 y.k1)], o], none⟩ =
      some (.normal, ⟨[v0, v1, .imm (.int .i64 (fnz [if e1 then 2 else 0, if e2 then 3 else 0, if lf3 y then 1 else 0])), .ptr 0 0, v5, v7, v6, v8, .imm (.bool e1), .imm (.bool e2)], [.box [.imm b0, .imm (.int .i64 y.goal), .imm (slD y.gn 1 (y.gv.map ic)), .imm (slD y.ln 1 (y.lw.map ic)), .imm (slD y.hn 1 (y.hg.map ic)), .imm (.int .i64 y.va), .imm (.int .i64 y.bo), .imm (.int .i64 y.k0), .imm (.int .i64 y.k1)], o], none⟩) := by
  have h1 := ok58 n e1 2
  have h2 := ok58 n e2 3
  have h3 := ok58 n (lf3 y) 1
  have h57 := ok57_3 n (if e1 then 2 else 0) (if e2 then 3 else 0) (if lf3 y then 1 else 0)
  have hl : lf3 y = (decide (¬ y.va = 0) || decide (¬ y.bo = 0) || !(decide (y.k0 = 0) && decide (y.k1 = 0))) := rfl
  cases a0 : decide (¬ y.va = 0) <;> rw [a0] at hl
  · cases a1 : decide (¬ y.bo = 0) <;> rw [a1] at hl
    · simp only [Bool.false_or] at hl
      simp only [← hl, go_sem, Nat.reduceAdd, Nat.reduceSub, Nat.reduceMul, Nat.reduceDiv, Nat.reduceMod, Nat.reduceLeDiff, Nat.reduceLT, Nat.reduceBEq, Int.reduceToNat, Int.reduceLT, Int.reduceLE, Int.reduceEq, ne_eq, a0, a1, h1, h2, h3, h57, eq_agg2]
    · simp only [Bool.true_or, Bool.false_or] at hl
      rw [hl] at h3 h57 ⊢
      simp only [if_true] at h3 h57
      simp only [go_sem, Nat.reduceAdd, Nat.reduceSub, Nat.reduceMul, Nat.reduceDiv, Nat.reduceMod, Nat.reduceLeDiff, Nat.reduceLT, Nat.reduceBEq, Int.reduceToNat, Int.reduceLT, Int.reduceLE, Int.reduceEq, ne_eq, a0, a1, h1, h2, h3, h57, eq_agg2]
  · simp only [Bool.true_or] at hl
    rw [hl] at h3 h57 ⊢
    simp only [if_true] at h3 h57
    simp only [go_sem, Nat.reduceAdd, Nat.reduceSub, Nat.reduceMul, Nat.reduceDiv, Nat.reduceMod, Nat.reduceLeDiff, Nat.reduceLT, Nat.reduceBEq, Int.reduceToNat, Int.reduceLT, Int.reduceLE, Int.reduceEq, ne_eq, a0, h1, h2, h3, h57, eq_agg2]
theorem ok75 (n : Nat) (y : Stp) (c : Cl) (hy : y.Fits) : callP (level E (n + 5)) 75 [.agg (enT y), .agg (enC c)] = some (.int .i64 (lfErr y c)) := by
  have h94 := ok94 (n + 3)
  have r4 := fun (v0 v1 v2 v5 v7 v8 v9 : AV) (o : AO) (b0 : D) => @r75_4 ⟨0, false⟩ v0 v1 v2 v5 v7 v8 v9 n y o b0 hy
  rw [p75]
  simp only [go_sem, Nat.reduceAdd, Nat.reduceSub, Nat.reduceMul, Nat.reduceDiv, Nat.reduceMod, Nat.reduceLeDiff, Nat.reduceLT, Nat.reduceBEq, Int.reduceToNat, Int.reduceLT, Int.reduceLE, Int.reduceEq, h94, r4]
  rfl
end
end Go.Vm.P12

/- Chapter 12, functions: the form of a proof, splits. -/
set_option maxRecDepth 100000
namespace Go.Vm.P12
open Go Go.Vm
def mk (ks : List Int) : List (Int × D) := ks.map (·, .bool true)
theorem look_mk (k : Int) : ∀ ks : List Int, (lookI (mk ks) k).getD (.bool false) = .bool (ks.contains k)
  | [] => rfl
  | x :: ks => by
    have IH := look_mk k ks
    simp only [lookI, mk, List.map_cons] at IH ⊢
    rw [List.find?_cons]
    simp only
    by_cases h : x = k
    · subst h; simp
    · have h1 : (x == k) = false := by simpa using h
      have h2 : (k == x) = false := by simpa using fun e : k = x => h e.symm
      rw [h1, List.contains_cons, h2]
      simpa using IH
theorem set_mk (k : Int) : ∀ ks : List Int, ks.contains k = false → mapSet (mk ks) k (.bool true) = mk (ks ++ [k])
  | [], _ => rfl
  | x :: ks, h => by
    rw [List.contains_cons, Bool.or_eq_false_iff] at h
    have h1 : ¬ x = k := fun e => by rw [e] at h; simp at h
    have IH := set_mk k ks h.2
    simp only [mk, List.map_cons, mapSet, if_neg h1, List.cons_append] at IH ⊢
    rw [IH]
def lk2 (z : D) (k : Int) (o : Option AO) : Option (AV × List AO) := match o with
  | some (.imap es) => some (.imm ((lookI es k).getD z), [])
  | _ => none
theorem lk_map {st : List AO} {z : D} {id : Nat} {k : Int} : lkC st z (.map id) (some k) = lk2 z k st[id]? := by
  simp only [lkC, lk2]
  rcases st[id]? with _ | o
  · rfl
  · cases o <;> rfl
theorem lk_mk {k : Int} {ks : List Int} : lk2 (.bool false) k (some (.imap (mk ks))) = some (.imm (.bool (ks.contains k)), []) := by
  simp only [lk2, look_mk]
def muC (vars : List AV) (ext : Option Ext) (st : List AO) (id : Nat) (k : Int) (v : D) (o : Option AO) : Option (AV × S) := match o with
  | some (.imap es) => some (.junk, ⟨vars, st.set id (.imap (mapSet es k v)), ext⟩)
  | _ => none
def muF (vars : List AV) (ext : Option Ext) (st : List AO) (m : AV) (k : Option Int) (v : AV) : Option (AV × S) := match m, k, v with
  | .map id, some k, .imm v => muC vars ext st id k v st[id]?
  | _, _, _ => none
theorem mu_go {vars : List AV} {ext : Option Ext} {st : List AO} {id : Nat} {k : Int} {d : D} : muF vars ext st (.map id) (some k) (.imm d) = muC vars ext st id k d st[id]? := _root_.id rfl
theorem op_mapup' {lo : Lower} {vars env : List AV} {st : List AO} {ext : Option Ext} {m k v : Opnd} :
    aOp lo vars env ⟨vars, st, ext⟩ (.mapup m k v) = muF vars ext st (opnd vars env m) (keyI (opnd vars env k)) (opnd vars env v) := by
  simp only [aOp, muF, muC]
  rcases opnd vars env m <;> rcases keyI (opnd vars env k) with _ | k' <;> rcases opnd vars env v <;> simp only <;> split <;> simp_all
theorem mu_mk {vars : List AV} {st : List AO} {ext : Option Ext} {id : Nat} {k : Int} {ks : List Int} (h : ks.contains k = false) : muC vars ext st id k (.bool true) (some (.imap (mk ks))) = some (.junk, ⟨vars, st.set id (.imap (mk (ks ++ [k]))), ext⟩) := by
  simp only [muC, set_mk k ks h]
theorem len_mk {ks : List Int} : (mk ks).length = ks.length := by simp [mk]
attribute [go_sem] lk_map lk_mk op_mapup' mu_go mu_mk len_mk
section
variable {lo : Lower} {cx : Cx} {v0 v1 v2 v3 v4 v7 v8 v9 v10 v11 v12 v13 v14 : AV}
def sp1 (y : Stp) : Bool := decide (¬ y.goal = 0) || decide (0 < wrp .i64 (wrp .i64 (y.gv.length + y.lw.length) + y.hg.length))
@[go_sem high] theorem r76_1 {m o : AO} {y : Stp} {b0 b2 b3 b4 b5 : D} :
    aCode lo cx (.region [
  ⟨none, none, .faddr 1 (.var 5)⟩,
  ⟨none, none, .load false 1 (.loc 0)⟩,
  ⟨none, none, .bin .neq (.loc 1) (.k (.int .i64 0))⟩,
  ⟨none, none, .mv (.loc 2)⟩,
  ⟨none, some (3, false), .faddr 2 (.var 5)⟩,
  ⟨none, some (3, false), .load false 1 (.loc 4)⟩,
  ⟨none, some (3, false), .len .sl (.loc 5)⟩,
  ⟨none, some (3, false), .faddr 3 (.var 5)⟩,
  ⟨none, some (3, false), .load false 1 (.loc 7)⟩,
  ⟨none, some (3, false), .len .sl (.loc 8)⟩,
  ⟨none, some (3, false), .bin .add (.loc 6) (.loc 9)⟩,
  ⟨none, some (3, false), .faddr 4 (.var 5)⟩,
  ⟨none, some (3, false), .load false 1 (.loc 11)⟩,
  ⟨none, some (3, false), .len .sl (.loc 12)⟩,
  ⟨none, some (3, false), .bin .add (.loc 10) (.loc 13)⟩,
  ⟨none, some (3, false), .bin .gtr (.loc 14) (.k (.int .i64 0))⟩,
  ⟨none, none, .pick (.loc 3) (.k (.bool true)) (.loc 15)⟩,
  ⟨(some 7), none, .mv (.loc 16)⟩] none) ⟨[v0, v1, v2, v3, v4, .ptr 1 0, .ptr 2 0, v7, v8, v9, v10, v11, v12, v13, v14], [m, .box [.imm b0, .imm (.int .i64 y.goal), .imm (slD y.gn 1 (y.gv.map ic)), .imm (slD y.ln 1 (y.lw.map ic)), .imm (slD y.hn 1 (y.hg.map ic)), .imm b2, .imm b3, .imm b4, .imm b5], o], none⟩ =
      some (.normal, ⟨[v0, v1, v2, v3, v4, .ptr 1 0, .ptr 2 0, .imm (.bool (sp1 y)), v8, v9, v10, v11, v12, v13, v14], [m, .box [.imm b0, .imm (.int .i64 y.goal), .imm (slD y.gn 1 (y.gv.map ic)), .imm (slD y.ln 1 (y.lw.map ic)), .imm (slD y.hn 1 (y.hg.map ic)), .imm b2, .imm b3, .imm b4, .imm b5], o], none⟩) := by
  unfold sp1
  cases h1 : decide (¬ y.goal = 0) <;> simp only [go_sem, Nat.reduceAdd, Nat.reduceSub, Nat.reduceMul, Nat.reduceDiv, Nat.reduceMod, Nat.reduceLeDiff, Nat.reduceLT, Nat.reduceBEq, Int.reduceToNat, Int.reduceLT, Int.reduceLE, Int.reduceEq, ne_eq, h1, Bool.true_or, Bool.false_or]
def sp2 (y : Stp) (i : Int) : Bool := offB y.k0 0 (sb i 1) || offB y.k1 0 (sb i 1)
def spE (e : Bool) (y : Stp) (c : Cl) (i : Int) : Int := fnz [if e then 1 else 0, if offB y.va 0 (sb c.sp.length 1) then 8 else 0, if offB y.bo (-1048576) 1048576 then 3 else 0, if sp2 y i then 9 else 0]
@[go_sem high] theorem r76_2 {n : Nat} {m : AO} {y : Stp} {c : Cl} {i : Int} {b0 b1 b2 b3 b4 d0 d1 d2 : D} {e : Bool} :
    aCode (level E (n + 1)) cx (.region [
  ⟨none, none, .mv (.var 7)⟩,
  ⟨none, none, .call .pure (.k (.fn 58 [] [])) [(.loc 0), (.k (.int .i64 1))]⟩,
  ⟨none, none, .faddr 5 (.var 5)⟩,
  ⟨none, none, .load false 1 (.loc 2)⟩,
  ⟨none, none, .faddr 0 (.var 6)⟩,
  ⟨none, none, .load false 1 (.loc 4)⟩,
  ⟨none, none, .len .sl (.loc 5)⟩,
  ⟨none, none, .bin .sub (.loc 6) (.k (.int .i64 1))⟩,
  ⟨none, none, .call .pure (.k (.fn 59 [] [])) [(.loc 3), (.k (.int .i64 0)), (.loc 7)]⟩,
  ⟨none, none, .call .pure (.k (.fn 58 [] [])) [(.loc 8), (.k (.int .i64 8))]⟩,
  ⟨none, none, .faddr 6 (.var 5)⟩,
  ⟨none, none, .load false 1 (.loc 10)⟩,
  ⟨none, none, .call .pure (.k (.fn 59 [] [])) [(.loc 11), (.k (.int .i64 (-1048576))), (.k (.int .i64 1048576))]⟩,
  ⟨none, none, .call .pure (.k (.fn 58 [] [])) [(.loc 12), (.k (.int .i64 3))]⟩,
  ⟨none, none, .faddr 7 (.var 5)⟩,
  ⟨none, none, .iaddr (some 2) 1 (.loc 14) (.k (.int .i64 0))⟩,
  ⟨none, none, .load false 1 (.loc 15)⟩,
  ⟨none, none, .mv (.var 2)⟩,
  ⟨none, none, .bin .sub (.loc 17) (.k (.int .i64 1))⟩,
  ⟨none, none, .call .pure (.k (.fn 59 [] [])) [(.loc 16), (.k (.int .i64 0)), (.loc 18)]⟩,
  ⟨none, none, .mv (.loc 19)⟩,
  ⟨none, some (20, false), .faddr 7 (.var 5)⟩,
  ⟨none, some (20, false), .iaddr (some 2) 1 (.loc 21) (.k (.int .i64 1))⟩,
  ⟨none, some (20, false), .load false 1 (.loc 22)⟩,
  ⟨none, some (20, false), .mv (.var 2)⟩,
  ⟨none, some (20, false), .bin .sub (.loc 24) (.k (.int .i64 1))⟩,
  ⟨none, some (20, false), .call .pure (.k (.fn 59 [] [])) [(.loc 23), (.k (.int .i64 0)), (.loc 25)]⟩,
  ⟨none, none, .pick (.loc 20) (.k (.bool true)) (.loc 26)⟩,
  ⟨none, none, .call .pure (.k (.fn 58 [] [])) [(.loc 27), (.k (.int .i64 9))]⟩,
  ⟨none, none, .bslice false 1 [.int .i64 0] 4 [(0, (.loc 1)), (1, (.loc 9)), (2, (.loc 13)), (3, (.loc 28))]⟩,
  ⟨none, none, .call .pure (.k (.fn 57 [] [])) [(.loc 29)]⟩,
  ⟨(some 8), none, .mv (.loc 30)⟩] (some (32, []))) ⟨[v0, v1, .imm (.int .i64 i), v3, v4, .ptr 1 0, .ptr 2 0, .imm (.bool e), v8, v9, v10, v11, v12, v13, v14], [m, .box [.imm b0, .imm b1, .imm b2, .imm b3, .imm b4, .imm (.int .i64 y.va), .imm (.int .i64 y.bo), .imm (.int .i64 y.k0), .imm (.int .i64 y.k1)], .box [.imm (slD c.sn 2 (c.sp.map enS)), .imm d0, .imm d1, .imm d2]], none⟩ =
      some (.normal, ⟨[v0, v1, .imm (.int .i64 i), v3, v4, .ptr 1 0, .ptr 2 0, .imm (.bool e), .imm (.int .i64 (spE e y c i)), v9, v10, v11, v12, v13, v14], [m, .box [.imm b0, .imm b1, .imm b2, .imm b3, .imm b4, .imm (.int .i64 y.va), .imm (.int .i64 y.bo), .imm (.int .i64 y.k0), .imm (.int .i64 y.k1)], .box [.imm (slD c.sn 2 (c.sp.map enS)), .imm d0, .imm d1, .imm d2]], none⟩) := by
  have h1 := ok58 n e 1
  have h2 := ok58 n (offB y.va 0 (sb c.sp.length 1)) 8
  have h3 := ok58 n (offB y.bo (-1048576) 1048576) 3
  have h4 := ok58 n (sp2 y i) 9
  have h57 := ok57_4 n (if e then 1 else 0) (if offB y.va 0 (sb c.sp.length 1) then 8 else 0) (if offB y.bo (-1048576) 1048576 then 3 else 0) (if sp2 y i then 9 else 0)
  have h5 := ok59 n y.k0 0 (sb i 1)
  have h6 := ok59 n y.k1 0 (sb i 1)
  have h7 := ok59 n y.va 0 (sb c.sp.length 1)
  have h8 := ok59 n y.bo (-1048576) 1048576
  have g1 : wrp .i64 (((c.sp.length : Nat) : Int) - 1) = sb c.sp.length 1 := rfl
  have g2 : wrp .i64 (i - 1) = sb i 1 := rfl
  have z0 : (0 : Int) < ((2 : Nat) : Int) := by decide
  have z1 : (1 : Int) < ((2 : Nat) : Int) := by decide
  have hs : sp2 y i = (offB y.k0 0 (sb i 1) || offB y.k1 0 (sb i 1)) := rfl
  unfold spE
  cases a0 : offB y.k0 0 (sb i 1) <;> rw [a0] at h5 hs
  · simp only [Bool.false_or] at hs
    rw [← hs] at h6
    simp only [go_sem, Nat.reduceAdd, Nat.reduceSub, Nat.reduceMul, Nat.reduceDiv, Nat.reduceMod, Nat.reduceLeDiff, Nat.reduceLT, Nat.reduceBEq, Int.reduceToNat, Int.reduceLT, Int.reduceLE, Int.reduceEq, g1, g2, z0, z1, h1, h2, h3, h4, h57, h5, h6, h7, h8]
  · simp only [Bool.true_or] at hs
    rw [hs] at h4 h57 ⊢
    simp only [if_true] at h4 h57
    simp only [go_sem, Nat.reduceAdd, Nat.reduceSub, Nat.reduceMul, Nat.reduceDiv, Nat.reduceMod, Nat.reduceLeDiff, Nat.reduceLT, Nat.reduceBEq, Int.reduceToNat, Int.reduceLT, Int.reduceLE, Int.reduceEq, g1, g2, z0, z1, h1, h2, h3, h4, h57, h5, h6, h7, h8]
end
def spl (y : Stp) (c : Cl) (i : Int) (ks : List Int) : Int × List Int :=
  if spE (sp1 y) y c i = 0 then
    if ks.contains y.k0 then (7, ks) else if (ks ++ [y.k0]).contains y.k1 then (7, ks ++ [y.k0]) else (0, ks ++ [y.k0] ++ [y.k1])
  else (spE (sp1 y) y c i, ks)
theorem ok76 (n : Nat) (y : Stp) (c : Cl) (i : Int) (ks : List Int) : callS (level E (n + 2)) 76 [.imm (.agg (enT y)), .imm (.agg (enC c)), .imm (.int .i64 i), .map 0] [.imap (mk ks)] = some (.imm (.int .i64 (spl y c i ks).1), [.imap (mk (spl y c i ks).2)]) := by
  rw [callS_go (n := n + 1) (fn := ir76) (c := c76) (r := [.v 4]) rfl rfl rfl rfl rfl]
  have u := rnd_eq (aCode (level E (n + 1)) ⟨1, false⟩ b76_0)
  have z0 : (0 : Int) < ((2 : Nat) : Int) := by decide
  have z1 : (1 : Int) < ((2 : Nat) : Int) := by decide
  unfold spl
  by_cases h0 : spE (sp1 y) y c i = 0
  · cases a0 : ks.contains y.k0
    · cases a1 : (ks ++ [y.k0]).contains y.k1
      · simp only [go_sem, Nat.reduceAdd, Nat.reduceSub, Nat.reduceMul, Nat.reduceDiv, Nat.reduceMod, Nat.reduceLeDiff, Nat.reduceLT, Nat.reduceBEq, Int.reduceToNat, Int.reduceLT, Int.reduceLE, Int.reduceEq, ir76, sg_slD, h0, u, z0, z1, a0, a1, ne_eq, not_true_eq_false]
        trace_state
      · simp only [go_sem, Nat.reduceAdd, Nat.reduceSub, Nat.reduceMul, Nat.reduceDiv, Nat.reduceMod, Nat.reduceLeDiff, Nat.reduceLT, Nat.reduceBEq, Int.reduceToNat, Int.reduceLT, Int.reduceLE, Int.reduceEq, ir76, sg_slD, h0, u, z0, z1, a0, a1, ne_eq, not_true_eq_false]
        trace_state
    · simp only [go_sem, Nat.reduceAdd, Nat.reduceSub, Nat.reduceMul, Nat.reduceDiv, Nat.reduceMod, Nat.reduceLeDiff, Nat.reduceLT, Nat.reduceBEq, Int.reduceToNat, Int.reduceLT, Int.reduceLE, Int.reduceEq, ir76, sg_slD, h0, u, z0, z1, a0, ne_eq, not_true_eq_false]
      trace_state
  · simp only [go_sem, Nat.reduceAdd, Nat.reduceSub, Nat.reduceMul, Nat.reduceDiv, Nat.reduceMod, Nat.reduceLeDiff, Nat.reduceLT, Nat.reduceBEq, Int.reduceToNat, Int.reduceLT, Int.reduceLE, Int.reduceEq, ir76, sg_slD, h0, ne_eq, not_false_eq_true]
    trace_state
end Go.Vm.P12

/- Chapter 12, functions: the form of a proof, end. -/
set_option maxRecDepth 100000
namespace Go.Vm.P12
open Go Go.Vm
def cf (c : Cl) : List Stp → Nat → List Int → Int × List Int
  | [], _, ks => (0, ks)
  | s :: r, i, ks => if s.leaf then (if lfErr s c = 0 then cf c r (i + 1) ks else (lfErr s c, ks)) else
    if (spl s c i ks).1 = 0 then cf c r (i + 1) (spl s c i ks).2 else spl s c i ks
def x29 (b : Bool) (l : List Stp) (r : Int × List Int) : AExit × S := if r.1 = 0 then
    (.exit 0, ⟨[.junk, .junk, .junk, .junk, .ptr 0 0, .junk, .map 1, .junk, .junk, .junk, .junk, .junk, .junk, .junk, .junk, .junk, .junk], [.box [.imm (slD b 9 (l.map enT))], .imap (mk r.2)], none⟩)
  else (.ret, ⟨[.junk, .junk, .imm (.int .i64 r.1), .junk, .ptr 0 0, .junk, .map 1, .junk, .junk, .junk, .junk, .junk, .junk, .junk, .junk, .junk, .junk], [.box [.imm (slD b 9 (l.map enT))], .imap (mk r.2)], none⟩)
theorem l29 {n : Nat} {c : Cl} {b : Bool} {l : List Stp} (hl : l.length < 1000000000) (hf : ∀ s ∈ l, s.Fits) : ∀ (r : List Stp) (i : Nat) (ks : List Int), l.drop i = r →
    outC ⟨0, false⟩ [0, 0, 1, 0, 1, 0, 1, 0, 0, 0, 0, 0, 0, 0, 0, 0, 0] (rnd (aCode (level E (n + 5)) ⟨0, false⟩ b29_0) (head ⟨0, false⟩ [0, 0, 0, 1, 1, 0, 1, 0, 0, 0, 0, 1, 1, 1, 0, 0, 0])
      ⟨[.junk, .junk, .junk, .ptr 0 0, .ptr 1 0, .junk, .map 2, .junk, .junk, .junk, .junk, .imm (slD b 9 (l.map enT)), .imm (.int .i64 l.length), .imm (.int .i64 i), .junk, .junk, .junk],
       [.box ((enC c).map .imm), .box [.imm (slD b 9 (l.map enT))], .imap (mk ks)], none⟩) = some (x29 b l (cf c r i ks))
  | [], i, ks, h => by
    rw [rnd_eq]
    simp only [go_sem, Nat.reduceAdd, Nat.reduceSub, Nat.reduceMul, Nat.reduceDiv, Nat.reduceMod, Nat.reduceLeDiff, Nat.reduceLT, Nat.reduceBEq, Int.reduceToNat, Int.reduceLT, Int.reduceLE, Int.reduceEq, lt_f (drop_n h), cf, x29]
  | s :: r, i, ks, h => by
    obtain ⟨h1, h2, h3⟩ := drop_c h
    have h6 := wrpS (i := i) (by omega)
    have h75 := ok75 n s c (hf s (List.mem_of_getElem? h1))
    have h76 := ok76 (n + 3) s c i ks
    rw [rnd_eq]
    simp only [cf]
    cases hs : s.leaf
    · simp only [Bool.false_eq_true, if_false]
      generalize spl s c i ks = q at h76
      obtain ⟨e, ks'⟩ := q
      simp only [go_sem, Nat.reduceAdd, Nat.reduceSub, Nat.reduceMul, Nat.reduceDiv, Nat.reduceMod, Nat.reduceLeDiff, Nat.reduceLT, Nat.reduceBEq, Int.reduceToNat, Int.reduceLT, Int.reduceLE, Int.reduceEq, hs] at h76
      by_cases h0 : e = 0
      · have IH := l29 (n := n) (c := c) (b := b) hl hf r (i + 1) ks' h3
        simp only [h0, if_true]
        rw [h0] at h76
        simp only [go_sem, Nat.reduceAdd, Nat.reduceSub, Nat.reduceMul, Nat.reduceDiv, Nat.reduceMod, Nat.reduceLeDiff, Nat.reduceLT, Nat.reduceBEq, Int.reduceToNat, Int.reduceLT, Int.reduceLE, Int.reduceEq] at IH
        simp only [go_sem, Nat.reduceAdd, Nat.reduceSub, Nat.reduceMul, Nat.reduceDiv, Nat.reduceMod, Nat.reduceLeDiff, Nat.reduceLT, Nat.reduceBEq, Int.reduceToNat, Int.reduceLT, Int.reduceLE, Int.reduceEq, lt_t h2, h1, h6, hs, h76, ne_eq, not_true_eq_false]
        exact IH
      · simp only [h0, if_false, x29]
        simp only [go_sem, Nat.reduceAdd, Nat.reduceSub, Nat.reduceMul, Nat.reduceDiv, Nat.reduceMod, Nat.reduceLeDiff, Nat.reduceLT, Nat.reduceBEq, Int.reduceToNat, Int.reduceLT, Int.reduceLE, Int.reduceEq, lt_t h2, h1, h6, hs, h76, ne_eq, h0, not_false_eq_true]
    · simp only [if_true]
      simp only [go_sem, Nat.reduceAdd, Nat.reduceSub, Nat.reduceMul, Nat.reduceDiv, Nat.reduceMod, Nat.reduceLeDiff, Nat.reduceLT, Nat.reduceBEq, Int.reduceToNat, Int.reduceLT, Int.reduceLE, Int.reduceEq, hs] at h75
      by_cases h0 : lfErr s c = 0
      · have IH := l29 (n := n) (c := c) (b := b) hl hf r (i + 1) ks h3
        simp only [h0, if_true]
        rw [h0] at h75
        simp only [go_sem, Nat.reduceAdd, Nat.reduceSub, Nat.reduceMul, Nat.reduceDiv, Nat.reduceMod, Nat.reduceLeDiff, Nat.reduceLT, Nat.reduceBEq, Int.reduceToNat, Int.reduceLT, Int.reduceLE, Int.reduceEq] at IH
        simp only [go_sem, Nat.reduceAdd, Nat.reduceSub, Nat.reduceMul, Nat.reduceDiv, Nat.reduceMod, Nat.reduceLeDiff, Nat.reduceLT, Nat.reduceBEq, Int.reduceToNat, Int.reduceLT, Int.reduceLE, Int.reduceEq, lt_t h2, h1, h6, hs, h75, ne_eq, not_true_eq_false]
        exact IH
      · simp only [h0, if_false, x29]
        simp only [go_sem, Nat.reduceAdd, Nat.reduceSub, Nat.reduceMul, Nat.reduceDiv, Nat.reduceMod, Nat.reduceLeDiff, Nat.reduceLT, Nat.reduceBEq, Int.reduceToNat, Int.reduceLT, Int.reduceLE, Int.reduceEq, lt_t h2, h1, h6, hs, h75, ne_eq, h0, not_false_eq_true]
def cfE (c : Cl) (l : List Stp) : Int := fnz [clErr c, if decide ((l.length : Int) = 0) then 10 else 0, if decide ((400 : Int) < l.length) then 5 else 0]
def cform (c : Cl) (l : List Stp) : Int := if cfE c l = 0 then
    let r := cf c l 0 []
    if r.1 = 0 then (if decide (¬ (r.2.length : Int) = sb l.length 1) then 2 else 0) else r.1
  else cfE c l
theorem ok29 (n : Nat) (c : Cl) (b : Bool) (l : List Stp) (hc : c.Fit) (hl : l.length < 1000000000) (hf : ∀ s ∈ l, s.Fits) : callP (level E (n+9)) 29 [.agg (enC c), .agg [slD b 9 (l.map enT)]] = some (.int .i64 (cform c l)) := by
  have h28 := ok28 n c hc
  have h58a := ok58 (n + 7) (decide ((l.length : Int) = 0)) 10
  have h58b := ok58 (n + 7) (decide ((400 : Int) < l.length)) 5
  have h57 := ok57_3 (n + 7) (clErr c) (if decide ((l.length : Int) = 0) then 10 else 0) (if decide ((400 : Int) < l.length) then 5 else 0)
  have hE : fnz [clErr c, if decide ((l.length : Int) = 0) then 10 else 0, if decide ((400 : Int) < l.length) then 5 else 0] = cfE c l := rfl
  rw [hE] at h57
  rw [p29]
  simp only [go_sem, Nat.reduceAdd, Nat.reduceSub, Nat.reduceMul, Nat.reduceDiv, Nat.reduceMod, Nat.reduceLeDiff, Nat.reduceLT, Nat.reduceBEq, Int.reduceToNat, Int.reduceLT, Int.reduceLE, Int.reduceEq] at h28
  unfold cform
  by_cases h0 : cfE c l = 0
  · have h := l29 (n := n + 3) (c := c) (b := b) hl hf l 0 [] rfl
    rw [cast0] at h
    generalize cf c l 0 [] = r at h
    obtain ⟨e, ks⟩ := r
    have h58c := ok58 (n + 7) (decide (¬ (ks.length : Int) = sb l.length 1)) 2
    have g1 : wrp .i64 (((l.length : Nat) : Int) - 1) = sb l.length 1 := rfl
    have m0 : mk [] = [] := rfl
    rw [m0] at h
    by_cases h1 : e = 0
    · simp only [x29, h1, if_true] at h
      simp only [go_sem, Nat.reduceAdd, Nat.reduceSub, Nat.reduceMul, Nat.reduceDiv, Nat.reduceMod, Nat.reduceLeDiff, Nat.reduceLT, Nat.reduceBEq, Int.reduceToNat, Int.reduceLT, Int.reduceLE, Int.reduceEq] at h
      simp only [go_sem, Nat.reduceAdd, Nat.reduceSub, Nat.reduceMul, Nat.reduceDiv, Nat.reduceMod, Nat.reduceLeDiff, Nat.reduceLT, Nat.reduceBEq, Int.reduceToNat, Int.reduceLT, Int.reduceLE, Int.reduceEq, h28, h58a, h58b, h57, h0, h, ne_eq, not_true_eq_false, h1, g1, h58c]
    · simp only [x29, h1, if_false] at h
      simp only [go_sem, Nat.reduceAdd, Nat.reduceSub, Nat.reduceMul, Nat.reduceDiv, Nat.reduceMod, Nat.reduceLeDiff, Nat.reduceLT, Nat.reduceBEq, Int.reduceToNat, Int.reduceLT, Int.reduceLE, Int.reduceEq] at h
      simp only [go_sem, Nat.reduceAdd, Nat.reduceSub, Nat.reduceMul, Nat.reduceDiv, Nat.reduceMod, Nat.reduceLeDiff, Nat.reduceLT, Nat.reduceBEq, Int.reduceToNat, Int.reduceLT, Int.reduceLE, Int.reduceEq, h28, h58a, h58b, h57, h0, h, ne_eq, not_true_eq_false, h1]
  · simp only [go_sem, Nat.reduceAdd, Nat.reduceSub, Nat.reduceMul, Nat.reduceDiv, Nat.reduceMod, Nat.reduceLeDiff, Nat.reduceLT, Nat.reduceBEq, Int.reduceToNat, Int.reduceLT, Int.reduceLE, Int.reduceEq, h28, h58a, h58b, h57, h0, ne_eq, not_false_eq_true]
end Go.Vm.P12

/- Chapter 12, functions: the tasks of a check. -/
set_option maxRecDepth 100000
set_option maxHeartbeats 2000000
namespace Go.Vm.P12
open Go Go.Vm
theorem sl_ref {st : List AO} {id sz a n h : Nat} (hh : h ≤ n) : aSlice st none sz (.ref id sz a n) none (some h) none = some (.ref id sz a h) := by
  simp [aSlice, hh]
attribute [go_sem] sl_ref
structure Tk where
  y : Stp
  c : Cl
  k : Int
def enK (t : Tk) : List D := enT t.y ++ enC t.c ++ [.int .i64 t.k]
attribute [go_sem] enK
structure RdK (lo : Lower) (e1 : Ext) (eF : Int → Int → Ext) (I : Ext → Prop) : Prop where
  h1 : I e1
  hr : ∀ e t x, I e → lo.round e [.agg (enK t), .int .i64 x] = some (if x = 0 then (e1, true) else (eF t.k x, false))
def ck (l : List Stp) : Nat → Cl → Nat → Int × Int
  | 0, _, _ => (0, 0)
  | f + 1, c, k => match l[k]? with
    | none => (0, 0)
    | some y =>
      if y.leaf then (if prv y c then (0, 0) else ((k : Int), 29))
      else
        let s := c.sp.getD y.va.toNat ⟨0, 0⟩
        if offB y.bo s.lo (sb s.hi 1) then ((k : Int), 14)
        else
          let r := ck l f (nar c y.va.toNat ⟨s.lo, y.bo⟩) y.k0.toNat
          if r.2 = 0 then ck l f (nar c y.va.toNat ⟨ad y.bo 1, s.hi⟩) y.k1.toNat else r
structure Wf (l : List Stp) (sp gv : Nat) : Prop where
  leaf : ∀ (i : Nat) y, l[i]? = some y → y.leaf = true → y.gv.length = gv ∧ y.lw.length = sp ∧ y.hg.length = sp
  split : ∀ (i : Nat) y, l[i]? = some y → y.leaf = false → 0 ≤ y.va ∧ y.va < sp ∧ 0 ≤ y.k0 ∧ y.k0 < i ∧ 0 ≤ y.k1 ∧ y.k1 < i
def S93 (pr : D) (es : List (List D)) (m : Nat) (e : Ext) : S := ⟨[.yield, .imm (.ptr [pr]), .junk, .junk, .ref 0 14 0 m, .junk, .junk, .junk, .junk, .junk, .junk, .junk, .junk], [.arr 14 es], some e⟩
noncomputable def lp93 (n : Nat) (s : S) : Option (AExit × S) := outC ⟨0, false⟩ [0, 0, 0, 0, 0, 0, 0, 0, 0, 0, 0, 0, 0] (rnd (aCode (level E (n + 6)) ⟨0, false⟩ b93_0) (head ⟨0, false⟩ [1, 1, 0, 0, 1, 0, 0, 0, 0, 0, 0, 0, 0]) s)
def out93 (e : Ext) : AExit × S := (.exit 0, ⟨[.junk, .junk, .junk, .junk, .junk, .junk, .junk, .junk, .junk, .junk, .junk, .junk, .junk], [], some e⟩)
theorem l93_end {n : Nat} {pr : D} {es : List (List D)} {e : Ext} : lp93 n (S93 pr es 0 e) = some (out93 e) := by
  unfold lp93
  rw [rnd_eq]
  simp only [S93]
  simp only [go_sem, Nat.reduceAdd, Nat.reduceSub, Nat.reduceMul, Nat.reduceDiv, Nat.reduceMod, Nat.reduceLeDiff, Nat.reduceLT, Nat.reduceBEq, Int.reduceToNat, Int.reduceLT, Int.reduceLE, Int.reduceEq, out93]
section
variable {n m : Nat} {b : Bool} {l : List Stp} {e1 : Ext} {eF : Int → Int → Ext} {I : Ext → Prop} {es : List (List D)} {c : Cl} {y : Stp} {k : Int} {e : Ext}
theorem s93_a (R : RdK (level E (n + 6)) e1 eF I) (hI : I e) (hm0 : m < 1000000000) (hlast : es[m]? = some (enK ⟨y, c, k⟩)) (hc : c.Even) (hlf : y.leaf = true) (hg : y.gv.length = c.gv.length) (hlw : y.lw.length = c.sp.length) (hhg : y.hg.length = c.sp.length) :
    lp93 n (S93 (slD b 9 (l.map enT)) es (m + 1) e) = if prv y c then lp93 n (S93 (slD b 9 (l.map enT)) es m e1) else some (out93 (eF k 29)) := by
  have hm : (0 : Int) < ((m + 1 : Nat) : Int) := by omega
  have hm1 : wrp .i64 (((m + 1 : Nat) : Int) - 1) = (m : Int) := by rw [wrp_ok (by omega)]; omega
  have hrl : ((m : Nat) : Int) < ((m + 1 : Nat) : Int) := by omega
  have hh : m ≤ m + 1 := by omega
  have q1 : m * 14 / 14 = m := by omega
  have q2 : m * 14 % 14 = 0 := by omega
  have h83 := ok83 (n + 1) y c hc (by omega) hlw hhg
  have h58 := ok58 (n + 5) (!prv y c) 29
  have hr0 := R.hr e ⟨y, c, k⟩ 0 hI
  have hr1 := R.hr e ⟨y, c, k⟩ 29 hI
  unfold lp93
  rw [rnd_eq]
  simp only [S93]
  simp only [go_sem, Nat.reduceAdd, Nat.reduceSub, Nat.reduceMul, Nat.reduceDiv, Nat.reduceMod, Nat.reduceLeDiff, Nat.reduceLT, Nat.reduceBEq, Int.reduceToNat, Int.reduceLT, Int.reduceLE, Int.reduceEq] at hlast h83 hr0 hr1
  cases hp : prv y c <;> rw [hp] at h83 h58 <;> simp only [go_sem, Nat.reduceAdd, Nat.reduceSub, Nat.reduceMul, Nat.reduceDiv, Nat.reduceMod, Nat.reduceLeDiff, Nat.reduceLT, Nat.reduceBEq, Int.reduceToNat, Int.reduceLT, Int.reduceLE, Int.reduceEq, hlf] at h83 h58 hr0 hr1 hlast ⊢
  · simp only [go_sem, Nat.reduceAdd, Nat.reduceSub, Nat.reduceMul, Nat.reduceDiv, Nat.reduceMod, Nat.reduceLeDiff, Nat.reduceLT, Nat.reduceBEq, Int.reduceToNat, Int.reduceLT, Int.reduceLE, Int.reduceEq, hm, hm1, hrl, hlast, Int.natCast_nonneg, hlf, q1, q2, hh, h83, h58, hr0, hr1, ne_eq, not_true_eq_false]
    rfl
  · simp only [go_sem, Nat.reduceAdd, Nat.reduceSub, Nat.reduceMul, Nat.reduceDiv, Nat.reduceMod, Nat.reduceLeDiff, Nat.reduceLT, Nat.reduceBEq, Int.reduceToNat, Int.reduceLT, Int.reduceLE, Int.reduceEq, hm, hm1, hrl, hlast, Int.natCast_nonneg, hlf, q1, q2, hh, h83, h58, hr0, hr1, ne_eq, not_true_eq_false]
theorem s93_b (R : RdK (level E (n + 6)) e1 eF I) (hI : I e) (hm0 : m + 2 < 1000000000) (hlast : es[m]? = some (enK ⟨y, c, k⟩)) (hc : c.Even) (hlf : y.leaf = false) {v k0 k1 : Nat} {s : Sp} (hva : y.va = v) (hk0 : y.k0 = k0) (hk1 : y.k1 = k1) (hs : c.sp[v]? = some s)
    {y0 y1 : Stp} (h0 : l[k0]? = some y0) (h1 : l[k1]? = some y1) :
    lp93 n (S93 (slD b 9 (l.map enT)) es (m + 1) e) = if offB y.bo s.lo (sb s.hi 1) then some (out93 (eF k 14)) else
      lp93 n (S93 (slD b 9 (l.map enT)) (es.take m ++ [enK ⟨y1, nar c v ⟨ad y.bo 1, s.hi⟩, k1⟩, enK ⟨y0, nar c v ⟨s.lo, y.bo⟩, k0⟩]) (m + 2) e1) := by
  have hm : (0 : Int) < ((m + 1 : Nat) : Int) := by omega
  have hm1 : wrp .i64 (((m + 1 : Nat) : Int) - 1) = (m : Int) := by rw [wrp_ok (by omega)]; omega
  have hrl : ((m : Nat) : Int) < ((m + 1 : Nat) : Int) := by omega
  have hh : m ≤ m + 1 := by omega
  have q1 : m * 14 / 14 = m := by omega
  have q2 : m * 14 % 14 = 0 := by omega
  have hvl : (v : Int) < ((c.sp.length : Nat) : Int) := by
    have := (List.getElem?_eq_some_iff.1 hs).1; omega
  have h0l : (k0 : Int) < ((l.length : Nat) : Int) := by
    have := (List.getElem?_eq_some_iff.1 h0).1; omega
  have h1l : (k1 : Int) < ((l.length : Nat) : Int) := by
    have := (List.getElem?_eq_some_iff.1 h1).1; omega
  have g1 : wrp .i64 (s.hi - 1) = sb s.hi 1 := rfl
  have h59 := ok59 (n + 5) y.bo s.lo (sb s.hi 1)
  have h58 := ok58 (n + 5) (offB y.bo s.lo (sb s.hi 1)) 14
  have h87 := ok87 (n + 3) c v s y.bo hs hc.fit.sp
  have hr0 := R.hr e ⟨y, c, k⟩ 0 hI
  have hr1 := R.hr e ⟨y, c, k⟩ 14 hI
  have i0 : (0 : Int) < ((2 : Nat) : Int) := by decide
  have i1 : (1 : Int) < ((2 : Nat) : Int) := by decide
  have hml : m ≤ es.length := by
    have := (List.getElem?_eq_some_iff.1 hlast).1; omega
  have h5 : (m + 2) * 209 ≤ 70368744177664 := by omega
  unfold lp93
  rw [rnd_eq]
  simp only [S93]
  simp only [go_sem, Nat.reduceAdd, Nat.reduceSub, Nat.reduceMul, Nat.reduceDiv, Nat.reduceMod, Nat.reduceLeDiff, Nat.reduceLT, Nat.reduceBEq, Int.reduceToNat, Int.reduceLT, Int.reduceLE, Int.reduceEq, hlf, hva, hk0, hk1] at hlast hr0 hr1 h87
  cases hp : offB y.bo s.lo (sb s.hi 1) <;> rw [hp] at h59 h58 <;> simp only [go_sem, Nat.reduceAdd, Nat.reduceSub, Nat.reduceMul, Nat.reduceDiv, Nat.reduceMod, Nat.reduceLeDiff, Nat.reduceLT, Nat.reduceBEq, Int.reduceToNat, Int.reduceLT, Int.reduceLE, Int.reduceEq, hlf] at h58 hr0 hr1 hlast ⊢
  · simp only [go_sem, Nat.reduceAdd, Nat.reduceSub, Nat.reduceMul, Nat.reduceDiv, Nat.reduceMod, Nat.reduceLeDiff, Nat.reduceLT, Nat.reduceBEq, Int.reduceToNat, Int.reduceLT, Int.reduceLE, Int.reduceEq, hm, hm1, hrl, hlast, Int.natCast_nonneg, hlf, q1, q2, hh, h59, h58, hr0, hr1, hvl, hs, g1, h87, i0, i1, h0l, h1l, h0, h1, h5, hml, ne_eq, not_true_eq_false]
    trace_state
  · simp only [go_sem, Nat.reduceAdd, Nat.reduceSub, Nat.reduceMul, Nat.reduceDiv, Nat.reduceMod, Nat.reduceLeDiff, Nat.reduceLT, Nat.reduceBEq, Int.reduceToNat, Int.reduceLT, Int.reduceLE, Int.reduceEq, hm, hm1, hrl, hlast, Int.natCast_nonneg, hlf, q1, q2, hh, h59, h58, hr0, hr1, hvl, hs, g1, i0, i1, ne_eq, not_true_eq_false]
    rfl
end
theorem l93 {n : Nat} {b : Bool} {l : List Stp} {spn gvn : Nat} {e1 : Ext} {eF : Int → Int → Ext} {I : Ext → Prop} (R : RdK (level E (n + 6)) e1 eF I) (hw : Wf l spn gvn) : ∀ (f k : Nat) (c : Cl) (y : Stp) (rest : List Tk) (es : List (List D)) (e : Ext), k < f → c.Even → c.sp.length = spn → c.gv.length = gvn → l[k]? = some y → I e → rest.length + k + 2 < 1000000000 →
    es.take (rest.length + 1) = (rest ++ [Tk.mk y c k]).map enK →
    ((ck l f c k).2 = 0 → ∃ es', es'.take rest.length = rest.map enK ∧ lp93 n (S93 (slD b 9 (l.map enT)) es (rest.length + 1) e) = lp93 n (S93 (slD b 9 (l.map enT)) es' rest.length e1)) ∧
    ((ck l f c k).2 ≠ 0 → lp93 n (S93 (slD b 9 (l.map enT)) es (rest.length + 1) e) = some (out93 (eF (ck l f c k).1 (ck l f c k).2)))
  | 0, k, c, y, rest, es, e, hk, hc, hs, hg, hy, hI, hb, ht => by omega
  | f + 1, k, c, y, rest, es, e, hk, hc, hs, hg, hy, hI, hb, ht => by
    have hlen : rest.length + 1 ≤ es.length := by
      have := congrArg List.length ht
      simp at this; omega
    have hlast : es[rest.length]? = some (enK ⟨y, c, k⟩) := by
      have := congrArg (fun z => z[rest.length]?) ht
      simp only [List.getElem?_take] at this
      rw [if_pos (by omega)] at this
      rw [this]
      simp
    have htk : es.take rest.length = rest.map enK := by
      have := congrArg (List.take rest.length) ht
      rw [List.take_take, Nat.min_eq_left (by omega)] at this
      rw [this, List.map_append]
      exact List.take_left' (by simp)
    simp only [ck, hy]
    cases hlf : y.leaf
    · obtain ⟨w1, w2, w3, w4, w5, w6⟩ := hw.split k y hy hlf
      obtain ⟨v, hv⟩ : ∃ v : Nat, y.va = v := ⟨y.va.toNat, by omega⟩
      obtain ⟨k0, hk0⟩ : ∃ k0 : Nat, y.k0 = k0 := ⟨y.k0.toNat, by omega⟩
      obtain ⟨k1, hk1⟩ : ∃ k1 : Nat, y.k1 = k1 := ⟨y.k1.toNat, by omega⟩
      have hkl := (List.getElem?_eq_some_iff.1 hy).1
      have hvl : v < c.sp.length := by omega
      obtain ⟨s, hsv⟩ : ∃ s, c.sp[v]? = some s := ⟨_, List.getElem?_eq_getElem hvl⟩
      obtain ⟨y0, hy0⟩ : ∃ y0, l[k0]? = some y0 := ⟨_, List.getElem?_eq_getElem (show k0 < l.length by omega)⟩
      obtain ⟨y1, hy1⟩ : ∃ y1, l[k1]? = some y1 := ⟨_, List.getElem?_eq_getElem (show k1 < l.length by omega)⟩
      have hgd : c.sp.getD v ⟨0, 0⟩ = s := by rw [List.getD_eq_getElem?_getD, hsv]; rfl
      have hb1 := s93_b (b := b) R hI (by omega) hlast hc hlf hv hk0 hk1 hsv hy0 hy1
      simp only [Bool.false_eq_true, if_false]
      rw [hv, hk0, hk1, Int.toNat_natCast, Int.toNat_natCast, Int.toNat_natCast, hgd]
      cases ho : offB y.bo s.lo (sb s.hi 1)
      · rw [ho] at hb1
        simp only [Bool.false_eq_true, if_false] at hb1 ⊢
        obtain ⟨c0, hc0⟩ : ∃ c0, c0 = nar c v ⟨s.lo, y.bo⟩ := ⟨_, rfl⟩
        obtain ⟨c1, hc1⟩ : ∃ c1, c1 = nar c v ⟨ad y.bo 1, s.hi⟩ := ⟨_, rfl⟩
        have ev0 : c0.Even := hc0 ▸ nar_even hc _ _
        have ev1 : c1.Even := hc1 ▸ nar_even hc _ _
        have s0 : c0.sp.length = spn := by rw [hc0]; simpa [nar] using hs
        have s1 : c1.sp.length = spn := by rw [hc1]; simpa [nar] using hs
        have g0 : c0.gv.length = gvn := by rw [hc0]; exact hg
        have g1 : c1.gv.length = gvn := by rw [hc1]; exact hg
        rw [← hc0, ← hc1] at hb1 ⊢
        obtain ⟨IA, IB⟩ := l93 (b := b) R hw f k0 c0 y0 (rest ++ [Tk.mk y1 c1 k1]) (es.take rest.length ++ [enK ⟨y1, c1, k1⟩, enK ⟨y0, c0, k0⟩]) e1 (by omega) ev0 s0 g0 hy0 R.h1 (by simp; omega) (by
          rw [htk]
          simp [List.take_of_length_le])
        have el : (rest ++ [Tk.mk y1 c1 k1]).length = rest.length + 1 := by simp
        rw [el] at IA IB
        rw [hb1]
        by_cases h0 : (ck l f c0 k0).2 = 0
        · rw [if_pos h0]
          obtain ⟨es', e3, e4⟩ := IA h0
          have := l93 (b := b) R hw f k1 c1 y1 rest es' e1 (by omega) ev1 s1 g1 hy1 R.h1 (by omega) e3
          rw [e4]
          exact this
        · rw [if_neg h0]
          refine ⟨fun h => absurd h h0, fun _ => IB h0⟩
      · rw [ho] at hb1
        simp only [if_true] at hb1 ⊢
        exact ⟨fun h => absurd h (by decide), fun _ => hb1⟩
    · obtain ⟨w1, w2, w3⟩ := hw.leaf k y hy hlf
      have ha := s93_a (b := b) (l := l) R hI (by omega) hlast hc hlf (by omega) (by omega) (by omega)
      simp only [if_true]
      cases hp : prv y c
      · rw [hp] at ha
        simp only [Bool.false_eq_true, if_false] at ha ⊢
        exact ⟨fun h => absurd h (by decide), fun _ => ha⟩
      · rw [hp] at ha
        simp only [if_true] at ha ⊢
        exact ⟨fun _ => ⟨es, htk, ha⟩, fun h => absurd rfl h⟩
end Go.Vm.P12

/- Chapter 12, functions: Check. -/
set_option maxRecDepth 100000
set_option maxHeartbeats 2000000
namespace Go.Vm.P12
open Go Go.Vm
theorem call93 {n : Nat} {b : Bool} {l : List Stp} {spn gvn : Nat} {e1 : Ext} {eF : Int → Int → Ext} {I : Ext → Prop} (R : RdK (level E (n + 6)) e1 eF I) (hw : Wf l spn gvn) (k : Nat) (c : Cl) (y : Stp) (e : Ext) (hc : c.Even) (hs : c.sp.length = spn) (hg : c.gv.length = gvn) (hy : l[k]? = some y) (hI : I e) (hb : l.length < 1000) :
    (level E (n+7)).call 93 [.yield, .imm (.ptr [slD b 9 (l.map enT)]), .imm (.ptr [.int .i64 k]), .imm (.ptr (enC c))] [] (some e) = some (.imm (.tup []), [], some (if (ck l (k + 1) c k).2 = 0 then e1 else eF (ck l (k + 1) c k).1 (ck l (k + 1) c k).2)) := by
  have hkl := (List.getElem?_eq_some_iff.1 hy).1
  obtain ⟨hA, hB⟩ := l93 (b := b) R hw (k + 1) k c y [] [enK ⟨y, c, k⟩] e (by omega) hc hs hg hy hI (by simp; omega) rfl
  have h0l : (k : Int) < ((l.length : Nat) : Int) := by omega
  have key : lp93 n (S93 (slD b 9 (l.map enT)) [enK ⟨y, c, k⟩] 1 e) = some (out93 (if (ck l (k + 1) c k).2 = 0 then e1 else eF (ck l (k + 1) c k).1 (ck l (k + 1) c k).2)) := by
    by_cases h0 : (ck l (k + 1) c k).2 = 0
    · obtain ⟨es', e3, e4⟩ := hA h0
      rw [if_pos h0]
      exact e4.trans l93_end
    · rw [if_neg h0]
      exact hB h0
  generalize (if (ck l (k + 1) c k).2 = 0 then e1 else eF (ck l (k + 1) c k).1 (ck l (k + 1) c k).2) = eR at key
  rw [call_go (fn := ir93) (c := c93) (r := []) rfl rfl rfl rfl rfl]
  simp only [lp93, S93, out93] at key
  simp only [go_sem, Nat.reduceAdd, Nat.reduceSub, Nat.reduceMul, Nat.reduceDiv, Nat.reduceMod, Nat.reduceLeDiff, Nat.reduceLT, Nat.reduceBEq, Int.reduceToNat, Int.reduceLT, Int.reduceLE, Int.reduceEq] at key
  simp only [go_sem, Nat.reduceAdd, Nat.reduceSub, Nat.reduceMul, Nat.reduceDiv, Nat.reduceMod, Nat.reduceLeDiff, Nat.reduceLT, Nat.reduceBEq, Int.reduceToNat, Int.reduceLT, Int.reduceLE, Int.reduceEq, ir93, sg_slD, h0l, hy, Int.natCast_nonneg, key]
theorem ok69 (n : Nat) (b : Bool) (l : List Stp) (c : Cl) (k : Int) : callP (level E (n+1)) 69 [.agg [slD b 9 (l.map enT)], .agg (enC c), .int .i64 k] = some (.fn 93 [] [.ptr [slD b 9 (l.map enT)], .ptr [.int .i64 k], .ptr (enC c)]) := by
  rw [p69]; simp only [go_sem, Nat.reduceAdd, Nat.reduceSub, Nat.reduceMul, Nat.reduceDiv, Nat.reduceMod, Nat.reduceLeDiff, Nat.reduceLT, Nat.reduceBEq, Int.reduceToNat, Int.reduceLT, Int.reduceLE, Int.reduceEq, sg_slD]
def y0 (c : Cl) (b : Bool) (l : List Stp) (q : Int) : Ext := ⟨[11, 12], b26_0, b26_1, [.imm (.agg (enC c)), .imm (.agg [slD b 9 (l.map enT)]), .ptr 2 0, .ptr 3 0, .ptr 0 0, .ptr 1 0, .imm (.int .i64 0), .junk, .junk, .imm (.bool false), .imm (.fn 93 [] [.ptr [slD b 9 (l.map enT)], .ptr [.int .i64 q], .ptr (enC c)]), .junk, .junk, .junk],
  [.box ((enC c).map .imm), .box [.imm (slD b 9 (l.map enT))], .box [.imm (.int .i64 0)], .box [.imm (.int .i64 0)]], 0, none⟩
def y1 (c : Cl) (b : Bool) (l : List Stp) (q : Int) : Ext := ⟨[11, 12], b26_0, b26_1, [.imm (.agg (enC c)), .imm (.agg [slD b 9 (l.map enT)]), .ptr 0 0, .ptr 1 0, .ptr 2 0, .ptr 3 0, .imm (.int .i64 0), .junk, .junk, .imm (.bool false), .imm (.fn 93 [] [.ptr [slD b 9 (l.map enT)], .ptr [.int .i64 q], .ptr (enC c)]), .junk, .junk, .junk],
  [.box [.imm (.int .i64 0)], .box [.imm (.int .i64 0)], .box ((enC c).map .imm), .box [.imm (slD b 9 (l.map enT))]], 0, none⟩
def yF (c : Cl) (b : Bool) (l : List Stp) (q : Int) (k x : Int) : Ext := ⟨[11, 12], b26_0, b26_1, [.imm (.agg (enC c)), .imm (.agg [slD b 9 (l.map enT)]), .ptr 0 0, .ptr 1 0, .ptr 2 0, .ptr 3 0, .imm (.int .i64 0), .junk, .junk, .imm (.bool false), .imm (.fn 93 [] [.ptr [slD b 9 (l.map enT)], .ptr [.int .i64 q], .ptr (enC c)]), .junk, .junk, .junk],
  [.box [.imm (.int .i64 k)], .box [.imm (.int .i64 x)], .box ((enC c).map .imm), .box [.imm (slD b 9 (l.map enT))]], 0, some .ret⟩
theorem rd26 (n : Nat) (c : Cl) (b : Bool) (l : List Stp) (q : Int) : RdK (level E (n+6)) (y1 c b l q) (yF c b l q) (fun e => e = y0 c b l q ∨ e = y1 c b l q) := by
  refine ⟨.inr rfl, fun e t x he => ?_⟩
  rcases he with rfl | rfl <;> by_cases h0 : x = 0 <;> simp only [y0, y1, yF] <;> rw [round_go (by rfl)] <;> simp only [go_sem, Nat.reduceAdd, Nat.reduceSub, Nat.reduceMul, Nat.reduceDiv, Nat.reduceMod, Nat.reduceLeDiff, Nat.reduceLT, Nat.reduceBEq, Int.reduceToNat, Int.reduceLT, Int.reduceLE, Int.reduceEq, sg_slD, h0, ne_eq, not_true_eq_false, not_false_eq_true]
  all_goals trace_state
theorem fnz0 : ∀ l : List Int, fnz l = 0 → ∀ x ∈ l, x = 0 := by
  intro l
  induction l with
  | nil => intro _ x hx; cases hx
  | cons y l ih =>
    intro h x hx
    rw [fnz_cons] at h
    by_cases hy : y = 0
    · rw [if_pos hy] at h
      rcases List.mem_cons.1 hx with rfl | hx
      · exact hy
      · exact ih h x hx
    · rw [if_neg hy] at h; exact absurd h hy
theorem offB_f {a lo hi : Int} (h : offB a lo hi = false) : lo ≤ a ∧ a ≤ hi := by
  simp only [offB, Bool.or_eq_false_iff, decide_eq_false_iff_not] at h
  omega
def StepOk (c : Cl) (i : Nat) (y : Stp) : Prop := (y.leaf = true → lfErr y c = 0) ∧ (y.leaf = false → spE (sp1 y) y c i = 0)
theorem cf_ok (c : Cl) : ∀ (r : List Stp) (i : Nat) (ks : List Int), (cf c r i ks).1 = 0 → ∀ (j : Nat) (y : Stp), r[j]? = some y → StepOk c (i + j) y
  | [], i, ks, h, j, y, hj => by simp at hj
  | s :: r, i, ks, h, j, y, hj => by
    simp only [cf] at h
    have key : StepOk c i s ∧ ∃ ks', (cf c r (i + 1) ks').1 = 0 := by
      cases hs : s.leaf
      · rw [hs] at h
        simp only [Bool.false_eq_true, if_false] at h
        by_cases h1 : (spl s c i ks).1 = 0
        · rw [if_pos h1] at h
          refine ⟨⟨fun hh => (by rw [hs] at hh; cases hh), fun _ => ?_⟩, _, h⟩
          unfold spl at h1
          by_cases h2 : spE (sp1 s) s c i = 0
          · exact h2
          · rw [if_neg h2] at h1; exact h1
        · rw [if_neg h1] at h; exact absurd h h1
      · rw [hs] at h
        simp only [if_true] at h
        by_cases h1 : lfErr s c = 0
        · rw [if_pos h1] at h
          exact ⟨⟨fun _ => h1, fun hh => (by rw [hs] at hh; cases hh)⟩, _, h⟩
        · rw [if_neg h1] at h; exact absurd h h1
    obtain ⟨k1, ks', k2⟩ := key
    cases j with
    | zero => simp only [List.getElem?_cons_zero, Option.some.injEq] at hj; subst hj; exact k1
    | succ j =>
      simp only [List.getElem?_cons_succ] at hj
      have := cf_ok c r (i + 1) ks' k2 j y hj
      rw [show i + (j + 1) = i + 1 + j by omega]
      exact this
theorem lf1_f {y : Stp} {c : Cl} (h : lfErr y c = 0) : y.gv.length = c.gv.length ∧ y.lw.length = c.sp.length ∧ y.hg.length = c.sp.length := by
  have h1 := fnz0 _ h _ (List.mem_cons_self)
  have h2 : lf1 y c = false := by
    cases h3 : lf1 y c
    · rfl
    · rw [h3] at h1; simp at h1
  simp only [lf1, Bool.or_eq_false_iff, decide_eq_false_iff_not, Decidable.not_not] at h2
  omega
theorem sbn {m : Nat} (h : m < 1000000000) : sb m 1 = (m : Int) - 1 := by rw [sb, wrp_ok (by omega)]
theorem spE_f {y : Stp} {c : Cl} {i : Nat} (hi : i < 1000000000) (hs : c.sp.length < 1000000000) (h : spE (sp1 y) y c i = 0) : 0 ≤ y.va ∧ y.va < c.sp.length ∧ 0 ≤ y.k0 ∧ y.k0 < i ∧ 0 ≤ y.k1 ∧ y.k1 < i := by
  have g := fnz0 _ h
  have h1 := g (if offB y.va 0 (sb c.sp.length 1) then 8 else 0) (by simp)
  have h2 := g (if sp2 y i then 9 else 0) (by simp)
  have a1 : offB y.va 0 (sb c.sp.length 1) = false := by
    cases h3 : offB y.va 0 (sb c.sp.length 1)
    · rfl
    · rw [h3] at h1; simp at h1
  have a2 : sp2 y i = false := by
    cases h3 : sp2 y i
    · rfl
    · rw [h3] at h2; simp at h2
  simp only [sp2, Bool.or_eq_false_iff] at a2
  have b1 := offB_f a1
  have b2 := offB_f a2.1
  have b3 := offB_f a2.2
  rw [sbn hs] at b1
  rw [sbn hi] at b2 b3
  omega
theorem cfE_f {c : Cl} {l : List Stp} (h : cfE c l = 0) : clErr c = 0 ∧ 0 < l.length ∧ l.length ≤ 400 := by
  have g := fnz0 _ h
  have h0 := g (clErr c) (by simp)
  have h1 := g (if decide ((l.length : Int) = 0) then 10 else 0) (by simp)
  have h2 := g (if decide ((400 : Int) < l.length) then 5 else 0) (by simp)
  refine ⟨h0, ?_, ?_⟩
  · by_cases e : (l.length : Int) = 0
    · simp [e] at h1
    · omega
  · by_cases e : (400 : Int) < l.length
    · simp [e] at h2
    · omega
theorem cform_cf {c : Cl} {l : List Stp} (h : cform c l = 0) : cfE c l = 0 ∧ (cf c l 0 []).1 = 0 := by
  unfold cform at h
  by_cases h0 : cfE c l = 0
  · rw [if_pos h0] at h
    refine ⟨h0, ?_⟩
    by_cases h1 : (cf c l 0 []).1 = 0
    · exact h1
    · simp only [h1, if_false] at h
  · rw [if_neg h0] at h; exact absurd h h0
theorem cform_wf {c : Cl} {l : List Stp} (hc : c.Fit) (h : cform c l = 0) : Wf l c.sp.length c.gv.length := by
  obtain ⟨h0, h1⟩ := cform_cf h
  obtain ⟨_, _, h2⟩ := cfE_f h0
  constructor
  · intro i y hy hl
    have := cf_ok c l 0 [] h1 i y hy
    exact lf1_f (this.1 hl)
  · intro i y hy hl
    have := (cf_ok c l 0 [] h1 i y hy).2 hl
    rw [Nat.zero_add] at this
    have hi := (List.getElem?_eq_some_iff.1 hy).1
    exact spE_f (by omega) hc.sp this
def chkR (c : Cl) (l : List Stp) : Int × Int := ck l l.length c (l.length - 1)
def chk (c : Cl) (l : List Stp) : D := if cform c l = 0 then (if (chkR c l).2 = 0 then .tup [.int .i64 0, .int .i64 0] else .tup [.int .i64 (chkR c l).1, .int .i64 (chkR c l).2]) else .tup [.int .i64 0, .int .i64 (cform c l)]
theorem ok26 (n : Nat) (c : Cl) (b : Bool) (l : List Stp) (hc : c.Fit) (hl : l.length < 1000000000) (hf : ∀ s ∈ l, s.Fits) : callP (level E (n+10)) 26 [.agg (enC c), .agg [slD b 9 (l.map enT)]] = some (chk c l) := by
  have h29 := ok29 n c b l hc hl hf
  have h69 := ok69 (n+8) b l c (sb l.length 1)
  have g1 : wrp .i64 (((l.length : Nat) : Int) - 1) = sb l.length 1 := rfl
  rw [p26]
  simp only [go_sem, Nat.reduceAdd, Nat.reduceSub, Nat.reduceMul, Nat.reduceDiv, Nat.reduceMod, Nat.reduceLeDiff, Nat.reduceLT, Nat.reduceBEq, Int.reduceToNat, Int.reduceLT, Int.reduceLE, Int.reduceEq] at h29 h69
  unfold chk
  by_cases h0 : cform c l = 0
  · obtain ⟨c1, c2, c3⟩ := cfE_f (cform_cf h0).1
    obtain ⟨k, hk⟩ : ∃ k, l.length = k + 1 := ⟨l.length - 1, by omega⟩
    have hq : sb (l.length : Nat) 1 = (k : Int) := by rw [sbn hl]; omega
    obtain ⟨y, hy⟩ : ∃ y, l[k]? = some y := ⟨_, List.getElem?_eq_getElem (show k < l.length by omega)⟩
    have h93 := call93 (b := b) (rd26 (n+2) c b l k) (cform_wf hc h0) k c y (y0 c b l k) (clErr_even hc c1) rfl rfl hy (.inl rfl) (by omega)
    have hR : chkR c l = ck l (k + 1) c k := by rw [chkR, hk]; rfl
    rw [← hR] at h93
    rw [hq] at h69 g1
    by_cases h1 : (chkR c l).2 = 0
    · rw [if_pos h1] at h93
      simp only [y0, y1] at h93
      simp only [go_sem, Nat.reduceAdd, Nat.reduceSub, Nat.reduceMul, Nat.reduceDiv, Nat.reduceMod, Nat.reduceLeDiff, Nat.reduceLT, Nat.reduceBEq, Int.reduceToNat, Int.reduceLT, Int.reduceLE, Int.reduceEq] at h93
      simp only [go_sem, Nat.reduceAdd, Nat.reduceSub, Nat.reduceMul, Nat.reduceDiv, Nat.reduceMod, Nat.reduceLeDiff, Nat.reduceLT, Nat.reduceBEq, Int.reduceToNat, Int.reduceLT, Int.reduceLE, Int.reduceEq, sg_slD, h29, h69, g1, h0, ne_eq, not_true_eq_false, h93, h1]
    · rw [if_neg h1] at h93
      simp only [y0, yF] at h93
      simp only [go_sem, Nat.reduceAdd, Nat.reduceSub, Nat.reduceMul, Nat.reduceDiv, Nat.reduceMod, Nat.reduceLeDiff, Nat.reduceLT, Nat.reduceBEq, Int.reduceToNat, Int.reduceLT, Int.reduceLE, Int.reduceEq] at h93
      simp only [go_sem, Nat.reduceAdd, Nat.reduceSub, Nat.reduceMul, Nat.reduceDiv, Nat.reduceMod, Nat.reduceLeDiff, Nat.reduceLT, Nat.reduceBEq, Int.reduceToNat, Int.reduceLT, Int.reduceLE, Int.reduceEq, sg_slD, h29, h69, g1, h0, ne_eq, not_true_eq_false, h93, h1]
  · simp only [go_sem, Nat.reduceAdd, Nat.reduceSub, Nat.reduceMul, Nat.reduceDiv, Nat.reduceMod, Nat.reduceLeDiff, Nat.reduceLT, Nat.reduceBEq, Int.reduceToNat, Int.reduceLT, Int.reduceLE, Int.reduceEq, sg_slD, h29, h69, g1, h0, ne_eq, not_false_eq_true]
end Go.Vm.P12

/- Evaluating: far places of a list. -/
namespace Go.Vm
section
universe u
variable {α : Type u} {d : α}
theorem gd64 {x0 x1 x2 x3 x4 x5 x6 x7 x8 x9 x10 x11 x12 x13 x14 x15 x16 x17 x18 x19 x20 x21 x22 x23 x24 x25 x26 x27 x28 x29 x30 x31 x32 x33 x34 x35 x36 x37 x38 x39 x40 x41 x42 x43 x44 x45 x46 x47 x48 x49 x50 x51 x52 x53 x54 x55 x56 x57 x58 x59 x60 x61 x62 x63 x64 : α} {r : List α} : List.getD (x0 :: x1 :: x2 :: x3 :: x4 :: x5 :: x6 :: x7 :: x8 :: x9 :: x10 :: x11 :: x12 :: x13 :: x14 :: x15 :: x16 :: x17 :: x18 :: x19 :: x20 :: x21 :: x22 :: x23 :: x24 :: x25 :: x26 :: x27 :: x28 :: x29 :: x30 :: x31 :: x32 :: x33 :: x34 :: x35 :: x36 :: x37 :: x38 :: x39 :: x40 :: x41 :: x42 :: x43 :: x44 :: x45 :: x46 :: x47 :: x48 :: x49 :: x50 :: x51 :: x52 :: x53 :: x54 :: x55 :: x56 :: x57 :: x58 :: x59 :: x60 :: x61 :: x62 :: x63 :: x64 :: r) 64 d = x64 := id rfl
theorem gd65 {x0 x1 x2 x3 x4 x5 x6 x7 x8 x9 x10 x11 x12 x13 x14 x15 x16 x17 x18 x19 x20 x21 x22 x23 x24 x25 x26 x27 x28 x29 x30 x31 x32 x33 x34 x35 x36 x37 x38 x39 x40 x41 x42 x43 x44 x45 x46 x47 x48 x49 x50 x51 x52 x53 x54 x55 x56 x57 x58 x59 x60 x61 x62 x63 x64 x65 : α} {r : List α} : List.getD (x0 :: x1 :: x2 :: x3 :: x4 :: x5 :: x6 :: x7 :: x8 :: x9 :: x10 :: x11 :: x12 :: x13 :: x14 :: x15 :: x16 :: x17 :: x18 :: x19 :: x20 :: x21 :: x22 :: x23 :: x24 :: x25 :: x26 :: x27 :: x28 :: x29 :: x30 :: x31 :: x32 :: x33 :: x34 :: x35 :: x36 :: x37 :: x38 :: x39 :: x40 :: x41 :: x42 :: x43 :: x44 :: x45 :: x46 :: x47 :: x48 :: x49 :: x50 :: x51 :: x52 :: x53 :: x54 :: x55 :: x56 :: x57 :: x58 :: x59 :: x60 :: x61 :: x62 :: x63 :: x64 :: x65 :: r) 65 d = x65 := id rfl
theorem gd66 {x0 x1 x2 x3 x4 x5 x6 x7 x8 x9 x10 x11 x12 x13 x14 x15 x16 x17 x18 x19 x20 x21 x22 x23 x24 x25 x26 x27 x28 x29 x30 x31 x32 x33 x34 x35 x36 x37 x38 x39 x40 x41 x42 x43 x44 x45 x46 x47 x48 x49 x50 x51 x52 x53 x54 x55 x56 x57 x58 x59 x60 x61 x62 x63 x64 x65 x66 : α} {r : List α} : List.getD (x0 :: x1 :: x2 :: x3 :: x4 :: x5 :: x6 :: x7 :: x8 :: x9 :: x10 :: x11 :: x12 :: x13 :: x14 :: x15 :: x16 :: x17 :: x18 :: x19 :: x20 :: x21 :: x22 :: x23 :: x24 :: x25 :: x26 :: x27 :: x28 :: x29 :: x30 :: x31 :: x32 :: x33 :: x34 :: x35 :: x36 :: x37 :: x38 :: x39 :: x40 :: x41 :: x42 :: x43 :: x44 :: x45 :: x46 :: x47 :: x48 :: x49 :: x50 :: x51 :: x52 :: x53 :: x54 :: x55 :: x56 :: x57 :: x58 :: x59 :: x60 :: x61 :: x62 :: x63 :: x64 :: x65 :: x66 :: r) 66 d = x66 := id rfl
theorem gd67 {x0 x1 x2 x3 x4 x5 x6 x7 x8 x9 x10 x11 x12 x13 x14 x15 x16 x17 x18 x19 x20 x21 x22 x23 x24 x25 x26 x27 x28 x29 x30 x31 x32 x33 x34 x35 x36 x37 x38 x39 x40 x41 x42 x43 x44 x45 x46 x47 x48 x49 x50 x51 x52 x53 x54 x55 x56 x57 x58 x59 x60 x61 x62 x63 x64 x65 x66 x67 : α} {r : List α} : List.getD (x0 :: x1 :: x2 :: x3 :: x4 :: x5 :: x6 :: x7 :: x8 :: x9 :: x10 :: x11 :: x12 :: x13 :: x14 :: x15 :: x16 :: x17 :: x18 :: x19 :: x20 :: x21 :: x22 :: x23 :: x24 :: x25 :: x26 :: x27 :: x28 :: x29 :: x30 :: x31 :: x32 :: x33 :: x34 :: x35 :: x36 :: x37 :: x38 :: x39 :: x40 :: x41 :: x42 :: x43 :: x44 :: x45 :: x46 :: x47 :: x48 :: x49 :: x50 :: x51 :: x52 :: x53 :: x54 :: x55 :: x56 :: x57 :: x58 :: x59 :: x60 :: x61 :: x62 :: x63 :: x64 :: x65 :: x66 :: x67 :: r) 67 d = x67 := id rfl
theorem gd68 {x0 x1 x2 x3 x4 x5 x6 x7 x8 x9 x10 x11 x12 x13 x14 x15 x16 x17 x18 x19 x20 x21 x22 x23 x24 x25 x26 x27 x28 x29 x30 x31 x32 x33 x34 x35 x36 x37 x38 x39 x40 x41 x42 x43 x44 x45 x46 x47 x48 x49 x50 x51 x52 x53 x54 x55 x56 x57 x58 x59 x60 x61 x62 x63 x64 x65 x66 x67 x68 : α} {r : List α} : List.getD (x0 :: x1 :: x2 :: x3 :: x4 :: x5 :: x6 :: x7 :: x8 :: x9 :: x10 :: x11 :: x12 :: x13 :: x14 :: x15 :: x16 :: x17 :: x18 :: x19 :: x20 :: x21 :: x22 :: x23 :: x24 :: x25 :: x26 :: x27 :: x28 :: x29 :: x30 :: x31 :: x32 :: x33 :: x34 :: x35 :: x36 :: x37 :: x38 :: x39 :: x40 :: x41 :: x42 :: x43 :: x44 :: x45 :: x46 :: x47 :: x48 :: x49 :: x50 :: x51 :: x52 :: x53 :: x54 :: x55 :: x56 :: x57 :: x58 :: x59 :: x60 :: x61 :: x62 :: x63 :: x64 :: x65 :: x66 :: x67 :: x68 :: r) 68 d = x68 := id rfl
theorem gd69 {x0 x1 x2 x3 x4 x5 x6 x7 x8 x9 x10 x11 x12 x13 x14 x15 x16 x17 x18 x19 x20 x21 x22 x23 x24 x25 x26 x27 x28 x29 x30 x31 x32 x33 x34 x35 x36 x37 x38 x39 x40 x41 x42 x43 x44 x45 x46 x47 x48 x49 x50 x51 x52 x53 x54 x55 x56 x57 x58 x59 x60 x61 x62 x63 x64 x65 x66 x67 x68 x69 : α} {r : List α} : List.getD (x0 :: x1 :: x2 :: x3 :: x4 :: x5 :: x6 :: x7 :: x8 :: x9 :: x10 :: x11 :: x12 :: x13 :: x14 :: x15 :: x16 :: x17 :: x18 :: x19 :: x20 :: x21 :: x22 :: x23 :: x24 :: x25 :: x26 :: x27 :: x28 :: x29 :: x30 :: x31 :: x32 :: x33 :: x34 :: x35 :: x36 :: x37 :: x38 :: x39 :: x40 :: x41 :: x42 :: x43 :: x44 :: x45 :: x46 :: x47 :: x48 :: x49 :: x50 :: x51 :: x52 :: x53 :: x54 :: x55 :: x56 :: x57 :: x58 :: x59 :: x60 :: x61 :: x62 :: x63 :: x64 :: x65 :: x66 :: x67 :: x68 :: x69 :: r) 69 d = x69 := id rfl
theorem gd70 {x0 x1 x2 x3 x4 x5 x6 x7 x8 x9 x10 x11 x12 x13 x14 x15 x16 x17 x18 x19 x20 x21 x22 x23 x24 x25 x26 x27 x28 x29 x30 x31 x32 x33 x34 x35 x36 x37 x38 x39 x40 x41 x42 x43 x44 x45 x46 x47 x48 x49 x50 x51 x52 x53 x54 x55 x56 x57 x58 x59 x60 x61 x62 x63 x64 x65 x66 x67 x68 x69 x70 : α} {r : List α} : List.getD (x0 :: x1 :: x2 :: x3 :: x4 :: x5 :: x6 :: x7 :: x8 :: x9 :: x10 :: x11 :: x12 :: x13 :: x14 :: x15 :: x16 :: x17 :: x18 :: x19 :: x20 :: x21 :: x22 :: x23 :: x24 :: x25 :: x26 :: x27 :: x28 :: x29 :: x30 :: x31 :: x32 :: x33 :: x34 :: x35 :: x36 :: x37 :: x38 :: x39 :: x40 :: x41 :: x42 :: x43 :: x44 :: x45 :: x46 :: x47 :: x48 :: x49 :: x50 :: x51 :: x52 :: x53 :: x54 :: x55 :: x56 :: x57 :: x58 :: x59 :: x60 :: x61 :: x62 :: x63 :: x64 :: x65 :: x66 :: x67 :: x68 :: x69 :: x70 :: r) 70 d = x70 := id rfl
theorem gd71 {x0 x1 x2 x3 x4 x5 x6 x7 x8 x9 x10 x11 x12 x13 x14 x15 x16 x17 x18 x19 x20 x21 x22 x23 x24 x25 x26 x27 x28 x29 x30 x31 x32 x33 x34 x35 x36 x37 x38 x39 x40 x41 x42 x43 x44 x45 x46 x47 x48 x49 x50 x51 x52 x53 x54 x55 x56 x57 x58 x59 x60 x61 x62 x63 x64 x65 x66 x67 x68 x69 x70 x71 : α} {r : List α} : List.getD (x0 :: x1 :: x2 :: x3 :: x4 :: x5 :: x6 :: x7 :: x8 :: x9 :: x10 :: x11 :: x12 :: x13 :: x14 :: x15 :: x16 :: x17 :: x18 :: x19 :: x20 :: x21 :: x22 :: x23 :: x24 :: x25 :: x26 :: x27 :: x28 :: x29 :: x30 :: x31 :: x32 :: x33 :: x34 :: x35 :: x36 :: x37 :: x38 :: x39 :: x40 :: x41 :: x42 :: x43 :: x44 :: x45 :: x46 :: x47 :: x48 :: x49 :: x50 :: x51 :: x52 :: x53 :: x54 :: x55 :: x56 :: x57 :: x58 :: x59 :: x60 :: x61 :: x62 :: x63 :: x64 :: x65 :: x66 :: x67 :: x68 :: x69 :: x70 :: x71 :: r) 71 d = x71 := id rfl
theorem gd72 {x0 x1 x2 x3 x4 x5 x6 x7 x8 x9 x10 x11 x12 x13 x14 x15 x16 x17 x18 x19 x20 x21 x22 x23 x24 x25 x26 x27 x28 x29 x30 x31 x32 x33 x34 x35 x36 x37 x38 x39 x40 x41 x42 x43 x44 x45 x46 x47 x48 x49 x50 x51 x52 x53 x54 x55 x56 x57 x58 x59 x60 x61 x62 x63 x64 x65 x66 x67 x68 x69 x70 x71 x72 : α} {r : List α} : List.getD (x0 :: x1 :: x2 :: x3 :: x4 :: x5 :: x6 :: x7 :: x8 :: x9 :: x10 :: x11 :: x12 :: x13 :: x14 :: x15 :: x16 :: x17 :: x18 :: x19 :: x20 :: x21 :: x22 :: x23 :: x24 :: x25 :: x26 :: x27 :: x28 :: x29 :: x30 :: x31 :: x32 :: x33 :: x34 :: x35 :: x36 :: x37 :: x38 :: x39 :: x40 :: x41 :: x42 :: x43 :: x44 :: x45 :: x46 :: x47 :: x48 :: x49 :: x50 :: x51 :: x52 :: x53 :: x54 :: x55 :: x56 :: x57 :: x58 :: x59 :: x60 :: x61 :: x62 :: x63 :: x64 :: x65 :: x66 :: x67 :: x68 :: x69 :: x70 :: x71 :: x72 :: r) 72 d = x72 := id rfl
theorem gd73 {x0 x1 x2 x3 x4 x5 x6 x7 x8 x9 x10 x11 x12 x13 x14 x15 x16 x17 x18 x19 x20 x21 x22 x23 x24 x25 x26 x27 x28 x29 x30 x31 x32 x33 x34 x35 x36 x37 x38 x39 x40 x41 x42 x43 x44 x45 x46 x47 x48 x49 x50 x51 x52 x53 x54 x55 x56 x57 x58 x59 x60 x61 x62 x63 x64 x65 x66 x67 x68 x69 x70 x71 x72 x73 : α} {r : List α} : List.getD (x0 :: x1 :: x2 :: x3 :: x4 :: x5 :: x6 :: x7 :: x8 :: x9 :: x10 :: x11 :: x12 :: x13 :: x14 :: x15 :: x16 :: x17 :: x18 :: x19 :: x20 :: x21 :: x22 :: x23 :: x24 :: x25 :: x26 :: x27 :: x28 :: x29 :: x30 :: x31 :: x32 :: x33 :: x34 :: x35 :: x36 :: x37 :: x38 :: x39 :: x40 :: x41 :: x42 :: x43 :: x44 :: x45 :: x46 :: x47 :: x48 :: x49 :: x50 :: x51 :: x52 :: x53 :: x54 :: x55 :: x56 :: x57 :: x58 :: x59 :: x60 :: x61 :: x62 :: x63 :: x64 :: x65 :: x66 :: x67 :: x68 :: x69 :: x70 :: x71 :: x72 :: x73 :: r) 73 d = x73 := id rfl
theorem gd74 {x0 x1 x2 x3 x4 x5 x6 x7 x8 x9 x10 x11 x12 x13 x14 x15 x16 x17 x18 x19 x20 x21 x22 x23 x24 x25 x26 x27 x28 x29 x30 x31 x32 x33 x34 x35 x36 x37 x38 x39 x40 x41 x42 x43 x44 x45 x46 x47 x48 x49 x50 x51 x52 x53 x54 x55 x56 x57 x58 x59 x60 x61 x62 x63 x64 x65 x66 x67 x68 x69 x70 x71 x72 x73 x74 : α} {r : List α} : List.getD (x0 :: x1 :: x2 :: x3 :: x4 :: x5 :: x6 :: x7 :: x8 :: x9 :: x10 :: x11 :: x12 :: x13 :: x14 :: x15 :: x16 :: x17 :: x18 :: x19 :: x20 :: x21 :: x22 :: x23 :: x24 :: x25 :: x26 :: x27 :: x28 :: x29 :: x30 :: x31 :: x32 :: x33 :: x34 :: x35 :: x36 :: x37 :: x38 :: x39 :: x40 :: x41 :: x42 :: x43 :: x44 :: x45 :: x46 :: x47 :: x48 :: x49 :: x50 :: x51 :: x52 :: x53 :: x54 :: x55 :: x56 :: x57 :: x58 :: x59 :: x60 :: x61 :: x62 :: x63 :: x64 :: x65 :: x66 :: x67 :: x68 :: x69 :: x70 :: x71 :: x72 :: x73 :: x74 :: r) 74 d = x74 := id rfl
theorem gd75 {x0 x1 x2 x3 x4 x5 x6 x7 x8 x9 x10 x11 x12 x13 x14 x15 x16 x17 x18 x19 x20 x21 x22 x23 x24 x25 x26 x27 x28 x29 x30 x31 x32 x33 x34 x35 x36 x37 x38 x39 x40 x41 x42 x43 x44 x45 x46 x47 x48 x49 x50 x51 x52 x53 x54 x55 x56 x57 x58 x59 x60 x61 x62 x63 x64 x65 x66 x67 x68 x69 x70 x71 x72 x73 x74 x75 : α} {r : List α} : List.getD (x0 :: x1 :: x2 :: x3 :: x4 :: x5 :: x6 :: x7 :: x8 :: x9 :: x10 :: x11 :: x12 :: x13 :: x14 :: x15 :: x16 :: x17 :: x18 :: x19 :: x20 :: x21 :: x22 :: x23 :: x24 :: x25 :: x26 :: x27 :: x28 :: x29 :: x30 :: x31 :: x32 :: x33 :: x34 :: x35 :: x36 :: x37 :: x38 :: x39 :: x40 :: x41 :: x42 :: x43 :: x44 :: x45 :: x46 :: x47 :: x48 :: x49 :: x50 :: x51 :: x52 :: x53 :: x54 :: x55 :: x56 :: x57 :: x58 :: x59 :: x60 :: x61 :: x62 :: x63 :: x64 :: x65 :: x66 :: x67 :: x68 :: x69 :: x70 :: x71 :: x72 :: x73 :: x74 :: x75 :: r) 75 d = x75 := id rfl
theorem gd76 {x0 x1 x2 x3 x4 x5 x6 x7 x8 x9 x10 x11 x12 x13 x14 x15 x16 x17 x18 x19 x20 x21 x22 x23 x24 x25 x26 x27 x28 x29 x30 x31 x32 x33 x34 x35 x36 x37 x38 x39 x40 x41 x42 x43 x44 x45 x46 x47 x48 x49 x50 x51 x52 x53 x54 x55 x56 x57 x58 x59 x60 x61 x62 x63 x64 x65 x66 x67 x68 x69 x70 x71 x72 x73 x74 x75 x76 : α} {r : List α} : List.getD (x0 :: x1 :: x2 :: x3 :: x4 :: x5 :: x6 :: x7 :: x8 :: x9 :: x10 :: x11 :: x12 :: x13 :: x14 :: x15 :: x16 :: x17 :: x18 :: x19 :: x20 :: x21 :: x22 :: x23 :: x24 :: x25 :: x26 :: x27 :: x28 :: x29 :: x30 :: x31 :: x32 :: x33 :: x34 :: x35 :: x36 :: x37 :: x38 :: x39 :: x40 :: x41 :: x42 :: x43 :: x44 :: x45 :: x46 :: x47 :: x48 :: x49 :: x50 :: x51 :: x52 :: x53 :: x54 :: x55 :: x56 :: x57 :: x58 :: x59 :: x60 :: x61 :: x62 :: x63 :: x64 :: x65 :: x66 :: x67 :: x68 :: x69 :: x70 :: x71 :: x72 :: x73 :: x74 :: x75 :: x76 :: r) 76 d = x76 := id rfl
theorem gd77 {x0 x1 x2 x3 x4 x5 x6 x7 x8 x9 x10 x11 x12 x13 x14 x15 x16 x17 x18 x19 x20 x21 x22 x23 x24 x25 x26 x27 x28 x29 x30 x31 x32 x33 x34 x35 x36 x37 x38 x39 x40 x41 x42 x43 x44 x45 x46 x47 x48 x49 x50 x51 x52 x53 x54 x55 x56 x57 x58 x59 x60 x61 x62 x63 x64 x65 x66 x67 x68 x69 x70 x71 x72 x73 x74 x75 x76 x77 : α} {r : List α} : List.getD (x0 :: x1 :: x2 :: x3 :: x4 :: x5 :: x6 :: x7 :: x8 :: x9 :: x10 :: x11 :: x12 :: x13 :: x14 :: x15 :: x16 :: x17 :: x18 :: x19 :: x20 :: x21 :: x22 :: x23 :: x24 :: x25 :: x26 :: x27 :: x28 :: x29 :: x30 :: x31 :: x32 :: x33 :: x34 :: x35 :: x36 :: x37 :: x38 :: x39 :: x40 :: x41 :: x42 :: x43 :: x44 :: x45 :: x46 :: x47 :: x48 :: x49 :: x50 :: x51 :: x52 :: x53 :: x54 :: x55 :: x56 :: x57 :: x58 :: x59 :: x60 :: x61 :: x62 :: x63 :: x64 :: x65 :: x66 :: x67 :: x68 :: x69 :: x70 :: x71 :: x72 :: x73 :: x74 :: x75 :: x76 :: x77 :: r) 77 d = x77 := id rfl
theorem gd78 {x0 x1 x2 x3 x4 x5 x6 x7 x8 x9 x10 x11 x12 x13 x14 x15 x16 x17 x18 x19 x20 x21 x22 x23 x24 x25 x26 x27 x28 x29 x30 x31 x32 x33 x34 x35 x36 x37 x38 x39 x40 x41 x42 x43 x44 x45 x46 x47 x48 x49 x50 x51 x52 x53 x54 x55 x56 x57 x58 x59 x60 x61 x62 x63 x64 x65 x66 x67 x68 x69 x70 x71 x72 x73 x74 x75 x76 x77 x78 : α} {r : List α} : List.getD (x0 :: x1 :: x2 :: x3 :: x4 :: x5 :: x6 :: x7 :: x8 :: x9 :: x10 :: x11 :: x12 :: x13 :: x14 :: x15 :: x16 :: x17 :: x18 :: x19 :: x20 :: x21 :: x22 :: x23 :: x24 :: x25 :: x26 :: x27 :: x28 :: x29 :: x30 :: x31 :: x32 :: x33 :: x34 :: x35 :: x36 :: x37 :: x38 :: x39 :: x40 :: x41 :: x42 :: x43 :: x44 :: x45 :: x46 :: x47 :: x48 :: x49 :: x50 :: x51 :: x52 :: x53 :: x54 :: x55 :: x56 :: x57 :: x58 :: x59 :: x60 :: x61 :: x62 :: x63 :: x64 :: x65 :: x66 :: x67 :: x68 :: x69 :: x70 :: x71 :: x72 :: x73 :: x74 :: x75 :: x76 :: x77 :: x78 :: r) 78 d = x78 := id rfl
theorem gd79 {x0 x1 x2 x3 x4 x5 x6 x7 x8 x9 x10 x11 x12 x13 x14 x15 x16 x17 x18 x19 x20 x21 x22 x23 x24 x25 x26 x27 x28 x29 x30 x31 x32 x33 x34 x35 x36 x37 x38 x39 x40 x41 x42 x43 x44 x45 x46 x47 x48 x49 x50 x51 x52 x53 x54 x55 x56 x57 x58 x59 x60 x61 x62 x63 x64 x65 x66 x67 x68 x69 x70 x71 x72 x73 x74 x75 x76 x77 x78 x79 : α} {r : List α} : List.getD (x0 :: x1 :: x2 :: x3 :: x4 :: x5 :: x6 :: x7 :: x8 :: x9 :: x10 :: x11 :: x12 :: x13 :: x14 :: x15 :: x16 :: x17 :: x18 :: x19 :: x20 :: x21 :: x22 :: x23 :: x24 :: x25 :: x26 :: x27 :: x28 :: x29 :: x30 :: x31 :: x32 :: x33 :: x34 :: x35 :: x36 :: x37 :: x38 :: x39 :: x40 :: x41 :: x42 :: x43 :: x44 :: x45 :: x46 :: x47 :: x48 :: x49 :: x50 :: x51 :: x52 :: x53 :: x54 :: x55 :: x56 :: x57 :: x58 :: x59 :: x60 :: x61 :: x62 :: x63 :: x64 :: x65 :: x66 :: x67 :: x68 :: x69 :: x70 :: x71 :: x72 :: x73 :: x74 :: x75 :: x76 :: x77 :: x78 :: x79 :: r) 79 d = x79 := id rfl
end
attribute [go_sem] gd64 gd65 gd66 gd67 gd68 gd69 gd70 gd71 gd72 gd73 gd74 gd75 gd76 gd77 gd78 gd79
end Go.Vm

/- Chapter 12, the laws: awake. -/
set_option maxRecDepth 100000
set_option maxHeartbeats 2000000
namespace Go.Vm.P12
open Go Go.Vm
def cA : Cl := ⟨false, [⟨0, 9⟩, ⟨0, 9⟩], false, [⟨false, [1, -1], 0⟩], ⟨false, [2, -1], 0⟩⟩
def cB : Cl := ⟨false, [⟨0, 9⟩], true, [], ⟨false, [2], -7⟩⟩
def cC : Cl := ⟨false, [⟨0, 3⟩, ⟨0, 3⟩], false, [⟨false, [2, -2], -1⟩, ⟨false, [-2, 2], 0⟩], ⟨false, [0, 0], -1⟩⟩
def cZ (t : Int) : Cl := ⟨false, [⟨t, 9⟩], true, [], ⟨false, [1], -3⟩⟩
theorem fitA : cA.Fit := ⟨by decide, by decide, by intro x hx; simp [cA] at hx; subst hx; decide, by decide⟩
theorem fitB : cB.Fit := ⟨by decide, by decide, by intro x hx; simp [cB] at hx, by decide⟩
theorem fitC : cC.Fit := ⟨by decide, by decide, by intro x hx; simp [cC] at hx; rcases hx with rfl | rfl <;> decide, by decide⟩
theorem fitZ (t : Int) : (cZ t).Fit := ⟨by simp [cZ], by simp [cZ], by intro x hx; simp [cZ] at hx, by simp [cZ]⟩
theorem ok46 (n : Nat) : callP (level E (n+2)) 46 [] = some (.agg (enC cA)) := by
  rw [p46]; simp only [go_sem, Nat.reduceAdd, Nat.reduceSub, Nat.reduceMul, Nat.reduceDiv, Nat.reduceMod, Nat.reduceLeDiff, Nat.reduceLT, Nat.reduceBEq, Int.reduceToNat, Int.reduceLT, Int.reduceLE, Int.reduceEq, ok47]; rfl
theorem ok48 (n : Nat) : callP (level E (n+2)) 48 [] = some (.agg (enC cB)) := by
  rw [p48]; simp only [go_sem, Nat.reduceAdd, Nat.reduceSub, Nat.reduceMul, Nat.reduceDiv, Nat.reduceMod, Nat.reduceLeDiff, Nat.reduceLT, Nat.reduceBEq, Int.reduceToNat, Int.reduceLT, Int.reduceLE, Int.reduceEq, ok47]; rfl
theorem ok49 (n : Nat) : callP (level E (n+1)) 49 [.ptr [.int .i64 0, .int .i64 3]] = some (.agg (enC cC)) := by
  rw [p49]; simp only [go_sem, Nat.reduceAdd, Nat.reduceSub, Nat.reduceMul, Nat.reduceDiv, Nat.reduceMod, Nat.reduceLeDiff, Nat.reduceLT, Nat.reduceBEq, Int.reduceToNat, Int.reduceLT, Int.reduceLE, Int.reduceEq]; rfl
theorem ok50 (n : Nat) (t : Int) : callP (level E (n+1)) 50 [.int .i64 t] = some (.agg (enC (cZ t))) := by
  rw [p50]; simp only [go_sem, Nat.reduceAdd, Nat.reduceSub, Nat.reduceMul, Nat.reduceDiv, Nat.reduceMod, Nat.reduceLeDiff, Nat.reduceLT, Nat.reduceBEq, Int.reduceToNat, Int.reduceLT, Int.reduceLE, Int.reduceEq]; rfl
def pY : Stp := ⟨true, 0, false, [1, 1], false, [0, 0], false, [0, 0], 0, 0, 0, 0⟩
def pZ : Stp := ⟨true, 1, true, [], false, [1], false, [0], 0, 0, 0, 0⟩
theorem v35 : least false cA.go cA.sp = .tup [.int .i64 (-9), .int .i64 0] := by kernel_rfl
theorem v10A : direct cA = .tup [.agg (enT ⟨true, 1, false, [1], true, [1, 0], true, [0, 0], 0, 0, 0, 0⟩), .bool true, .int .i64 0] := by kernel_rfl
theorem v10B : direct cB = .tup [.agg (enT zSt), .bool false, .int .i64 0] := by kernel_rfl
theorem v15a : dcD cB 5 = .tup [.agg [.nil], .sl 1 [[.int .i64 0]], .bool false, .int .i64 0] := by kernel_rfl
theorem v15b : dcD cB 4 = .tup [.agg [.nil], .nil, .bool false, .int .i64 30] := by kernel_rfl
def pC : List Stp := (dec 60 60 cC []).st
theorem v15c : dcD cC 60 = .tup [.agg [slD false 9 (pC.map enT)], .nil, .bool true, .int .i64 0] := by kernel_rfl
theorem v26a : chk cC pC = .tup [.int .i64 0, .int .i64 0] := by kernel_rfl
theorem v26b : chk cC [pY] = .tup [.int .i64 0, .int .i64 0] := by kernel_rfl
theorem v26c : chk (cZ 3) [pZ] = .tup [.int .i64 0, .int .i64 0] := by kernel_rfl
theorem v26d : chk (cZ 2) [pZ] = .tup [.int .i64 0, .int .i64 29] := by kernel_rfl
theorem v23 : refutes cB [3] = .tup [.bool true, .int .i64 0] := by kernel_rfl
def fitsB (s : Stp) : Bool := decide (s.gv.length < 1000000000) && decide (s.lw.length < 1000000000) && decide (s.hg.length < 1000000000)
theorem fits_all {l : List Stp} (h : l.all fitsB = true) : ∀ s ∈ l, s.Fits := by
  intro s hs
  have := List.all_eq_true.1 h s hs
  simp only [fitsB, Bool.and_eq_true, decide_eq_true_eq] at this
  exact ⟨this.1.1, this.1.2, this.2⟩
theorem vf : pC.all fitsB = true := by kernel_rfl
theorem vlen : decide (pC.length < 1000000000) = true := by kernel_rfl
theorem ok8 (n : Nat) : callP (level E (n + 421)) 8 [] = some (.bool true) := by
  have h46 := ok46 (n + 418)
  have h48 := ok48 (n + 418)
  have h49 := ok49 (n + 419)
  have h50a := ok50 (n + 419) 3
  have h50b := ok50 (n + 419) 2
  have h35 := ok35 (n + 413) cA.go cA.sn cA.sp (by decide) (by decide)
  have h10A := ok10 (n + 411) cA fitA
  have h10B := ok10 (n + 411) cB fitB
  have h15a := ok15 (n + 10) cB 5 fitB
  have h15b := ok15 (n + 10) cB 4 fitB
  have h15c := ok15 (n + 10) cC 60 fitC
  have h26a := ok26 (n + 410) cC false pC fitC (of_decide_eq_true vlen) (fits_all vf)
  have h26b := ok26 (n + 410) cC false [pY] fitC (by decide) (fits_all (by decide))
  have h26c := ok26 (n + 410) (cZ 3) false [pZ] (fitZ 3) (by decide) (fits_all (by decide))
  have h26d := ok26 (n + 410) (cZ 2) false [pZ] (fitZ 2) (by decide) (fits_all (by decide))
  have h23 := ok23 (n + 411) cB false [3] fitB (by decide)
  have h21a := ok21 (n + 419) false false [1] [1] (by decide)
  have h21b := ok21 (n + 419) true false [1, 0] [1, 0] (by decide)
  have h21c := ok21 (n + 419) true false [0, 0] [0, 0] (by decide)
  have h21d := ok21 (n + 419) false false [0] [0] (by decide)
  rw [v35] at h35
  rw [v10A] at h10A
  rw [v10B] at h10B
  rw [v15a] at h15a
  rw [v15b] at h15b
  rw [v15c] at h15c
  rw [v26a] at h26a
  rw [v26b] at h26b
  rw [v26c] at h26c
  rw [v26d] at h26d
  rw [v23] at h23
  have w00 : wrp .i64 (0 + 0) = 0 := by decide
  rw [p8]
  simp only [go_sem, Nat.reduceAdd, Nat.reduceSub, Nat.reduceMul, Nat.reduceDiv, Nat.reduceMod, Nat.reduceLeDiff, Nat.reduceLT, Nat.reduceBEq, Int.reduceToNat, Int.reduceLT, Int.reduceLE, Int.reduceEq, pY, pZ, zSt, cC, slD_cons, slD_nil, decide_true] at h46 h48 h49 h50a h50b h35 h10A h10B h15a h15b h15c h26a h26b h26c h26d h23 h21a h21b h21c h21d
  simp only [go_sem, Nat.reduceAdd, Nat.reduceSub, Nat.reduceMul, Nat.reduceDiv, Nat.reduceMod, Nat.reduceLeDiff, Nat.reduceLT, Nat.reduceBEq, Int.reduceToNat, Int.reduceLT, Int.reduceLE, Int.reduceEq, sg_slD, h46, h48, h49, h50a, h50b, h35, h10A, h10B, h15a, h15b, h15c, h26a, h26b, h26c, h26d, h23, h21a, h21b, h21c, h21d, w00, decide_true]
end Go.Vm.P12

/- Chapter 12, the laws: ProveDecides. -/
set_option maxRecDepth 100000
set_option maxHeartbeats 2000000
namespace Go.Vm.P12
open Go Go.Vm
theorem sameStep_nz {a b : Stp} (h : nz a = nz b) : sameStep a b = true := by
  obtain ⟨f1, f2, b3, f3, b4, f4, b5, f5, f6, f7, f8, f9⟩ := a
  obtain ⟨g1, g2, c3, g3, c4, g4, c5, g5, g6, g7, g8, g9⟩ := b
  simp only [nz, Stp.mk.injEq] at h
  simp [sameStep, h]
theorem sameSteps_nz : ∀ (l m : List Stp), l.map nz = m.map nz → sameSteps l m = true
  | [], [], _ => rfl
  | a :: l, [], h => by simp at h
  | [], b :: m, h => by simp at h
  | a :: l, b :: m, h => by
    simp only [List.map_cons, List.cons.injEq] at h
    simp only [sameSteps, sameStep_nz h.1, sameSteps_nz l m h.2, Bool.and_self]
theorem sameProof_nz {l m : List Stp} (h : l.map nz = m.map nz) : sameProof l m = true := by
  simp only [sameProof, map_len h, sameSteps_nz l m h, decide_true, Bool.and_self]
theorem leaf_gv {c : Cl} : ∀ s ∈ leaves c, s.gv.length = c.gv.length := by
  have hs : ∀ (g : Int) (i k m : Nat), ∀ s ∈ lfs c g i m k, s.gv.length = c.gv.length := by
    intro g i k
    induction k with
    | zero => intro m s h; cases h
    | succ k ih =>
      intro m s h
      rcases List.mem_cons.1 h with rfl | h
      · simp [lf, leafOf]
      · exact ih _ s h
  have hg : ∀ (g : Int) (M r i : Nat), ∀ s ∈ lfg c g M i r, s.gv.length = c.gv.length := by
    intro g M r
    induction r with
    | zero => intro i s h; cases h
    | succ r ih =>
      intro i s h
      rcases List.mem_append.1 h with h | h
      · exact hs _ _ _ _ s h
      · exact ih _ s h
  intro s h
  simp only [leaves, List.mem_append, List.mem_cons] at h
  rcases h with h | rfl | h
  · exact hg _ _ _ _ s h
  · simp [lf0, leafOf]
  · exact hg _ _ _ _ s h
theorem short_fit {c : Cl} (h : short c = true) : c.Fit ∧ c.gv.length ≤ 13 ∧ c.sp.length ≤ 8 := by
  simp only [short, Bool.and_eq_true, decide_eq_true_eq, shortLn, List.all_eq_true] at h
  refine ⟨⟨by omega, by omega, fun x hx => ?_, by omega⟩, by omega, by omega⟩
  have := h.2 x hx
  omega
def Small (c : Cl) (s : Stp) : Prop := s.gv.length ≤ c.gv.length ∧ s.lw.length ≤ c.sp.length ∧ s.hg.length ≤ c.sp.length
theorem dir_small {c : Cl} (hc : c.Even) {s : Stp} (h : dir c = some s) : Small c s := by
  have hm : s ∈ leaves c := List.mem_of_find?_eq_some h
  exact ⟨Nat.le_of_eq (leaf_gv s hm), Nat.le_of_eq (lw_len hc s hm).1, Nat.le_of_eq (lw_len hc s hm).2⟩
theorem dec_small : ∀ (f t : Nat) (c : Cl) (st : List Stp), c.Even → ∀ s ∈ (dec f t c st).st, s ∈ st ∨ Small c s
  | 0, t, c, st, hc, s, hs => .inl hs
  | f + 1, 0, c, st, hc, s, hs => .inl hs
  | f + 1, t + 1, c, st, hc, s, hs => by
    simp only [dec] at hs
    have hn : ∀ (v : Nat) (x : Sp) (s : Stp), Small (nar c v x) s → Small c s := by
      intro v x s h
      simpa [Small, nar] using h
    cases hd : dir c with
    | some y =>
      rw [hd] at hs
      simp only [List.mem_append, List.mem_singleton] at hs
      rcases hs with hs | rfl
      · exact .inl hs
      · exact .inr (dir_small hc hd)
    | none =>
      rw [hd] at hs
      simp only at hs
      cases hw : (wid c.sp).2
      · rw [hw] at hs; exact .inl hs
      · rw [hw] at hs
        simp only at hs
        generalize hr1 : dec f t (nar c (wid c.sp).1 ⟨(c.sp.getD (wid c.sp).1 ⟨0, 0⟩).lo, shr1 (ad (c.sp.getD (wid c.sp).1 ⟨0, 0⟩).lo (c.sp.getD (wid c.sp).1 ⟨0, 0⟩).hi)⟩) st = r1 at hs
        have S1 : ∀ s ∈ r1.st, s ∈ st ∨ Small c s := by
          intro s hs
          rw [← hr1] at hs
          rcases dec_small f t _ st (nar_even hc _ _) s hs with h | h
          · exact .inl h
          · exact .inr (hn _ _ _ h)
        cases hok : r1.ok
        · rw [hok] at hs; exact S1 s hs
        · rw [hok] at hs
          simp only at hs
          generalize hr2 : dec f r1.t (nar c (wid c.sp).1 ⟨ad (shr1 (ad (c.sp.getD (wid c.sp).1 ⟨0, 0⟩).lo (c.sp.getD (wid c.sp).1 ⟨0, 0⟩).hi)) 1, (c.sp.getD (wid c.sp).1 ⟨0, 0⟩).hi⟩) r1.st = r2 at hs
          have S2 : ∀ s ∈ r2.st, s ∈ st ∨ Small c s := by
            intro s hs
            rw [← hr2] at hs
            rcases dec_small f r1.t _ r1.st (nar_even hc _ _) s hs with h | h
            · exact S1 s h
            · exact .inr (hn _ _ _ h)
          cases hok2 : r2.ok
          · rw [hok2] at hs; exact S2 s hs
          · rw [hok2] at hs
            simp only [List.mem_append, List.mem_singleton] at hs
            rcases hs with hs | rfl
            · exact S2 s hs
            · exact .inr ⟨by simp [splitOf], by simp [splitOf], by simp [splitOf]⟩
theorem dec_pt : ∀ (f t : Nat) (c : Cl) (st : List Stp), (dec f t c st).pt.length ≤ c.sp.length
  | 0, t, c, st => by simp [dec]
  | f + 1, 0, c, st => by simp [dec]
  | f + 1, t + 1, c, st => by
    simp only [dec]
    have hn : ∀ (t v : Nat) (x : Sp) (st : List Stp), (dec f t (nar c v x) st).pt.length ≤ c.sp.length := fun t v x st => by
      have := dec_pt f t (nar c v x) st
      simpa [nar] using this
    cases dir c with
    | some s => simp
    | none =>
      simp only
      cases (wid c.sp).2
      · simp
      · simp only
        split
        · exact hn _ _ _ _
        · split
          · exact hn _ _ _ _
          · simp
theorem direct_form {c : Cl} (hf : c.Fit) (h13 : c.gv.length ≤ 13) (h8 : c.sp.length ≤ 8) : ∃ (s1 s2 : Stp) (b : Bool), direct (cpy c) = .tup [.agg (enT s1), .bool b, .int .i64 (rClErr c)] ∧ (rClErr c = 0 → rdirD c = .tup [.agg (enT s2), .bool b]) ∧ (rClErr c ≠ 0 → s2 = zSt ∧ b = false) ∧ sameStep s1 s2 = true ∧ s1.Fit := by
  have he : clErr (cpy c) = rClErr c := by rw [cpy_err, cl_eq]
  have fz : zSt.Fit := ⟨by simp [zSt], by simp [zSt], by simp [zSt]⟩
  by_cases h0 : rClErr c = 0
  · have hc0 : clErr c = 0 := by rw [cl_eq]; exact h0
    have hev := clErr_even hf hc0
    have hd := nz_dir c hev (clErr_go hc0)
    unfold direct rdirD
    rw [he, if_pos h0, cpy_dir]
    cases h1 : dir c with
    | none =>
      cases h2 : rdir c with
      | none => exact ⟨zSt, zSt, false, by rw [h0], fun _ => rfl, fun h => absurd h0 h, sameStep_nz rfl, fz⟩
      | some s' => rw [h1, h2] at hd; cases hd
    | some s =>
      cases h2 : rdir c with
      | none => rw [h1, h2] at hd; cases hd
      | some s' =>
        rw [h1, h2] at hd
        simp only [Option.map_some, Option.some.injEq] at hd
        have hsm := dir_small hev h1
        exact ⟨s, s', true, by rw [h0], fun _ => rfl, fun h => absurd h0 h, sameStep_nz hd, ⟨by have := hsm.1; omega, by have := hsm.2.1; omega, by have := hsm.2.2; omega⟩⟩
  · exact ⟨zSt, zSt, false, by unfold direct; rw [he, if_neg h0], fun h => absurd h h0, fun _ => ⟨rfl, rfl⟩, sameStep_nz rfl, fz⟩
def dE (c : Cl) (t : Int) : Int := fnz [rClErr c, ckR t 1 400]
theorem dec_form {c : Cl} (hf : c.Fit) (h13 : c.gv.length ≤ 13) (h8 : c.sp.length ≤ 8) (t : Int) : ∃ (l1 l2 : List Stp) (f1 f2 g1 g2 : Bool) (p : List Int) (b : Bool) (e : Int),
    dcD (cpy c) t = .tup [.agg [slD f1 9 (l1.map enT)], slD g1 1 (p.map ic), .bool b, .int .i64 e] ∧
    (dE c t = 0 → ∃ k : Nat, t = k ∧ k ≤ 400 ∧ rdcD (rdec k k c []) = .tup [.agg [slD f2 9 (l2.map enT)], slD g2 1 (p.map ic), .bool b, .int .i64 e]) ∧
    (dE c t ≠ 0 → l2 = [] ∧ p = [] ∧ b = false ∧ e = dE c t) ∧ sameProof l1 l2 = true ∧ (∀ s ∈ l1, s.Fit) ∧ l1.length < 1000000000 ∧ p.length < 4000000000 := by
  have he : clErr (cpy c) = rClErr c := by rw [cpy_err, cl_eq]
  have hE : decE (cpy c) t = dE c t := by
    unfold decE dE
    rw [he, ck_off]
  by_cases h0 : dE c t = 0
  · have hz := fz0 _ h0
    have hc0 : rClErr c = 0 := hz _ (by simp)
    have hc1 : clErr c = 0 := by rw [cl_eq]; exact hc0
    have ht : ckR t 1 400 = 0 := hz _ (by simp)
    have hb : 1 ≤ t ∧ t ≤ 400 := by
      rw [ck_off] at ht
      cases ho : offB t 1 400
      · exact off_f ho
      · rw [ho] at ht; simp at ht
    obtain ⟨k, rfl⟩ : ∃ k : Nat, t = k := ⟨t.toNat, by omega⟩
    have hev := clErr_even hf hc1
    have S := dec_rdec k k c [] [] hev (clErr_go hc1) (clErr_sp hc1) rfl
    have hsm := dec_small k k c [] hev
    obtain ⟨i1, i2, ⟨z1, i3⟩, i4⟩ := dec_inv k k c []
    unfold dcD
    rw [hE, if_pos h0, Int.toNat_natCast, cpy_dec]
    have hpt := dec_pt k k c []
    generalize dec k k c [] = r at S hsm i1 i2 i3 i4 hpt
    generalize hq : rdec k k c [] = q at S
    obtain ⟨rt, rst, rok, rpt, re⟩ := r
    obtain ⟨qst, qpt, qt, qe⟩ := q
    obtain ⟨S1, S2, S3, S4, S5⟩ := S
    simp only at S1 S2 S3 S4 S5 hsm i1 i2 i3 i4
    have hlen : rst.length ≤ 400 := by simp at i2; omega
    have hfit : ∀ s ∈ rst, s.Fit := by
      intro s hs
      rcases hsm s hs with h | h
      · cases h
      · exact ⟨by have := h.1; omega, by have := h.2.1; omega, by have := h.2.2; omega⟩
    have p0 : (1 : Int) ≤ (k : Int) := hb.1
    cases rok
    · have := S5 rfl
      rcases this with ⟨a1, a2, a3⟩ | ⟨a1, a2⟩
      · subst a2 a3
        refine ⟨[], [], true, true, true, true, [], false, re, rfl, fun _ => ⟨k, rfl, by omega, ?_⟩, fun h => absurd h0 h, rfl, by simp, by simp, by simp⟩
        rw [hq]; simp only [rdcD, if_neg a1]; rw [← S3]; rfl
      · subst a1
        refine ⟨[], [], true, true, true, false, rpt, false, re, rfl, fun _ => ⟨k, rfl, by omega, ?_⟩, fun h => absurd h0 h, rfl, by simp, by simp, ?_⟩
        · rw [hq]; simp only [rdcD, a2, S3]; rfl
        · simp only at hpt; omega
    · obtain ⟨a1, a2, a3⟩ := S4 rfl
      subst a1 a2
      refine ⟨rst, qst, false, true, true, true, [], true, 0, rfl, fun _ => ⟨k, rfl, by omega, ?_⟩, fun h => absurd h0 h, sameProof_nz S2, hfit, by omega, by simp⟩
      rw [hq]; simp only [rdcD]; rfl
  · refine ⟨[], [], true, true, true, true, [], false, dE c t, ?_, fun h => absurd h h0, fun _ => ⟨rfl, rfl, rfl, rfl⟩, rfl, by simp, by simp, by simp⟩
    unfold dcD
    rw [hE, if_neg h0]; rfl
theorem ok3 (n : Nat) (c : Cl) (t : Int) : callP (level E (n + 430)) 3 [.agg (enC c), .int .i64 t] = some (.bool true) := by
  have h8 := ok8 (n + 8)
  have h9 := ok9 (n + 427) c
  rw [p3]
  simp only [go_sem, Nat.reduceAdd, Nat.reduceSub, Nat.reduceMul, Nat.reduceDiv, Nat.reduceMod, Nat.reduceLeDiff, Nat.reduceLT, Nat.reduceBEq, Int.reduceToNat, Int.reduceLT, Int.reduceLE, Int.reduceEq] at h9
  cases hs : short c
  · rw [hs] at h9
    simp only [go_sem, Nat.reduceAdd, Nat.reduceSub, Nat.reduceMul, Nat.reduceDiv, Nat.reduceMod, Nat.reduceLeDiff, Nat.reduceLT, Nat.reduceBEq, Int.reduceToNat, Int.reduceLT, Int.reduceLE, Int.reduceEq, sg_slD, h8, h9]
  · rw [hs] at h9
    obtain ⟨hf, hg13, hs8⟩ := short_fit hs
    obtain ⟨s1, s2, b, d1, d2, d3, d4, d5⟩ := direct_form hf hg13 hs8
    obtain ⟨l1, l2, f1, f2, g1, g2, p, b2, e, e1, e2, e3, e4, e5, e6, e7⟩ := dec_form hf hg13 hs8 t
    have h11 := ok11 (n + 427) c hf
    have h10 := ok10 (n + 420) (cpy c) (cpy_fit hf)
    have h12 := ok12 (n + 425) c hf
    have h14 := ok14 (n + 427) s1 s2 d5
    have h15 := ok15 (n + 19) (cpy c) t (cpy_fit hf)
    have h17 := ok17 (n + 427) t 1 400
    have h16 := ok16_2 (n + 428) (rClErr c) (ckR t 1 400)
    have hE : fnz [rClErr c, ckR t 1 400] = dE c t := rfl
    have h20 := ok20 (n + 428) f1 l1 e6
    have h19 := ok19 (n + 426) true f2 l1 l2 (by omega) e5
    have h21 := ok21 (n + 428) g1 g2 p p e7
    rw [d1] at h10
    rw [e1] at h15
    rw [d4] at h14
    rw [e4] at h19
    rw [hE] at h16
    have h21' : decide (p = p) = true := decide_eq_true rfl
    rw [h21'] at h21
    simp only [go_sem, Nat.reduceAdd, Nat.reduceSub, Nat.reduceMul, Nat.reduceDiv, Nat.reduceMod, Nat.reduceLeDiff, Nat.reduceLT, Nat.reduceBEq, Int.reduceToNat, Int.reduceLT, Int.reduceLE, Int.reduceEq] at h11 h12 h15
    by_cases hr : rClErr c = 0
    · have hc0 : clErr c = 0 := by rw [cl_eq]; exact hr
      have hev := clErr_even hf hc0
      have h13 := ok13 (n + 426) c hev
      rw [d2 hr] at h13
      rw [hr] at h10 h12 h16
      by_cases hE0 : dE c t = 0
      · obtain ⟨k, rfl, hk, e2'⟩ := e2 hE0
        have h18 := ok18 (n + 419 - k) k c hev (by omega)
        rw [show n + 419 - k + k + 10 = n + 429 by omega, e2'] at h18
        rw [hE0] at h16
        simp only [go_sem, Nat.reduceAdd, Nat.reduceSub, Nat.reduceMul, Nat.reduceDiv, Nat.reduceMod, Nat.reduceLeDiff, Nat.reduceLT, Nat.reduceBEq, Int.reduceToNat, Int.reduceLT, Int.reduceLE, Int.reduceEq] at h10 h13 h14 h18
        cases b <;> cases b2 <;> simp only [go_sem, Nat.reduceAdd, Nat.reduceSub, Nat.reduceMul, Nat.reduceDiv, Nat.reduceMod, Nat.reduceLeDiff, Nat.reduceLT, Nat.reduceBEq, Int.reduceToNat, Int.reduceLT, Int.reduceLE, Int.reduceEq, sg_slD, h8, h9, h11, h10, h12, h13, h14, h15, h16, h17, h18, h19, h20, h21, ne_eq, not_true_eq_false, decide_true, b00, b11]
      · obtain ⟨q1, q2, q3, q4⟩ := e3 hE0
        subst q1 q2 q3 q4
        have h19 := ok19 (n + 426) true true l1 [] (by omega) e5
        have h21 := ok21 (n + 428) g1 true [] [] (by simp)
        rw [e4] at h19
        simp only [go_sem, Nat.reduceAdd, Nat.reduceSub, Nat.reduceMul, Nat.reduceDiv, Nat.reduceMod, Nat.reduceLeDiff, Nat.reduceLT, Nat.reduceBEq, Int.reduceToNat, Int.reduceLT, Int.reduceLE, Int.reduceEq, slD_nil, decide_true] at h10 h13 h14 h15 h19 h21
        cases b <;> simp only [go_sem, Nat.reduceAdd, Nat.reduceSub, Nat.reduceMul, Nat.reduceDiv, Nat.reduceMod, Nat.reduceLeDiff, Nat.reduceLT, Nat.reduceBEq, Int.reduceToNat, Int.reduceLT, Int.reduceLE, Int.reduceEq, sg_slD, h8, h9, h11, h10, h12, h13, h14, h15, h16, h17, h19, h20, h21, hE0, ne_eq, not_true_eq_false, decide_true, b00, b11, zSt, slD_nil]
    · obtain ⟨q1, q2⟩ := d3 hr
      subst q1 q2
      have hE1 : dE c t = rClErr c := by simp [dE, fnz, hr]
      have hE0 : ¬ dE c t = 0 := by rw [hE1]; exact hr
      obtain ⟨q1, q2, q3, q4⟩ := e3 hE0
      subst q1 q2 q3 q4
      have h19 := ok19 (n + 426) true true l1 [] (by omega) e5
      have h21 := ok21 (n + 428) g1 true [] [] (by simp)
      rw [e4] at h19
      simp only [go_sem, Nat.reduceAdd, Nat.reduceSub, Nat.reduceMul, Nat.reduceDiv, Nat.reduceMod, Nat.reduceLeDiff, Nat.reduceLT, Nat.reduceBEq, Int.reduceToNat, Int.reduceLT, Int.reduceLE, Int.reduceEq, zSt, slD_nil, decide_true] at h10 h14 h15 h19 h21
      simp only [go_sem, Nat.reduceAdd, Nat.reduceSub, Nat.reduceMul, Nat.reduceDiv, Nat.reduceMod, Nat.reduceLeDiff, Nat.reduceLT, Nat.reduceBEq, Int.reduceToNat, Int.reduceLT, Int.reduceLE, Int.reduceEq, sg_slD, h8, h9, h11, h10, h12, h14, h15, h16, h17, h19, h20, h21, hr, hE0, ne_eq, not_true_eq_false, decide_true, b00, b11, zSt, slD_nil]
end Go.Vm.P12

/- Chapter 12: ProveDecides: the row and the card. -/
set_option maxRecDepth 100000
namespace Go.Proofs.YtfhjkkjaaeohhaaDoor
open Go Go.Vm Go.Vm.P12 Go.ChangeShapes Go.WideShapes Go.ChangeAt Go.RowKit
theorem ownT : ownKnob Tryd.prog.godebug = none := by kernel_rfl
theorem laidOutT : laidOutB Tryd.prog = true := by kernel_rfl
theorem read28 : Tryd.prog.readableRec 28 = true := by kernel_rfl
theorem read3 : Tryd.prog.readableRec 3 = true := by kernel_rfl
theorem row28 : 28 < Tryd.prog.types.size := of_decide_eq_true (by kernel_rfl)
theorem row3 : 3 < Tryd.prog.types.size := of_decide_eq_true (by kernel_rfl)
theorem door_met (os : Os) (args : Array Value) : laidMetH Tryd.prog laidW ((World.doorLaid Tryd.prog 2000 os).forCall (fun _ _ => 0) ⟨#[], args, []⟩).memory :=
  laidMetH_of_parts3 (fuel := 8) (laidMet_of_run' 8 (by kernel_rfl) (by kernel_rfl)) (by kernel_rfl) (by kernel_rfl)
theorem below_of {W w : World} (h : Tr (fun _ => False) W w) : Below W.heap.size W w := ⟨h.os, h.tape, h.output, h.size, fun b hb => h.keep b hb (fun h => h)⟩
theorem bool_of {F : Nat → Prop} {w : World} {b : Bool} {r : Value} (h : RepD F w (.bool b) r) : r = .bool b := by cases h; rfl
def noClaim : Value := .agg #[.slice none 0 0, .slice none 0 0, .slice none 0 0, .int .i64 0]
def anyXP : XP := ⟨fun _ => none, 0, 0, [], { own := false, dyn := .pure, md := [] }, #[]⟩
theorem decides_lifted (os : Os) (started : os.Started) (H : Type) (enc : TypeId × Value → H) :
    ReturnsInHanded {} Tryd.checked os 3 .any (fun w args => (Rows.proveDecidesSpec.pre enc Tryd.prog Tryd.f3 [] false w args ∧ laidMetH Tryd.prog laidW w) ∧ sizedMet enc Tryd.prog Tryd.f3 (OpenSpec.ofChange Rows.proveDecidesSpec) false w args)
      (Rows.proveDecidesSpec.post enc Tryd.prog Tryd.f3 false true false false) := by
  refine returnsInHanded_of_change_and (C := Tryd.checked) (X := fun w _ => laidMetH Tryd.prog laidW w) (fun _ _ _ hh h => h.of_heap hh) ownT started (by kernel_rfl) Tryd.func3
    (ChangeSpec.witness_shaped (enc := enc) (C := Tryd.checked) (os := os) (X := fun w _ => laidMetH Tryd.prog laidW w) false (World.doorLaid Tryd.prog 2000 os) #[noClaim, .int .i64 0] 8 rfl (World.shaped_of_RefB (by kernel_rfl) (by kernel_rfl)) (by kernel_rfl) (by kernel_rfl) (by kernel_rfl) (door_met os _)) ?_
  intro W base args ds gs before hval0 hW _ _ hL _
  have hW' := hW
  have hlt := hW.lt
  obtain ⟨p, q, hA0, hV, rfl, hfz, hnd⟩ := hW
  have hA : DataW.TrodAll enc Tryd.prog W 0 (fun _ => true) true Tryd.f3.params.toList args.toList ds p := hA0
  rw [Tryd.params3] at hA
  obtain ⟨v0, v1, d0, d1, p0, p1, rfl, rfl, rfl, h0, h1⟩ := trodAll_two hA
  obtain ⟨rfl, rfl⟩ := trodVars_none hV
  obtain ⟨c, hc⟩ := arg_claim h0
  have hval : ∀ (j : Nat) t v, Tryd.f3.params[j]? = some t → (#[v0, v1] : Array Value)[j]? = some v → Value.okWide Tryd.prog W .any base t v := hval0
  rw [Tryd.params3] at hval
  obtain ⟨t, rfl, rfl, rfl, wt⟩ := open_int Tryd.underlying3 (hval 1 3 v1 rfl rfl) h1
  refine (call_ok anyXP (ok3 0 c t) hL rfl (fun j d hj => ?_)).mono fun e w ⟨r, F, he, htr, hr⟩ => ?_
  · match j, hj with
    | 0, hj => injection hj with hj; subst hj; exact hc
    | 1, hj => injection hj with hj; subst hj; exact .int _ _
    | j + 2, hj => simp at hj
  · subst he
    have hb := below_of htr
    obtain rfl := bool_of hr
    refine ⟨_, rfl, [d0, _], [], p0 ++ [] ++ [], [], p0 ++ [], [], hW', trodAll_mk1 (shut_bool Tryd.underlying4 _), ?_, rfl, hb.frame _, nofun⟩
    exact trodAll_mk2 (Below.trod laidOutT read28 row28 h0 hb fun x hx => hlt x (by simp [hx])) (shut_int Tryd.underlying3 wt)
theorem proveDecides_said : Rows.ProveDecidesSaid :=
  OpenClaim.holds_of_wide 3 Tryd.f3 rfl rfl rfl rfl rfl rfl rfl ⟨rfl, rfl, rfl, rfl, rfl⟩ rfl rfl rfl rfl rfl (by kernel_rfl) Tryd.func3 (by kernel_rfl)
    (of_decide_eq_true (by kernel_rfl)) (by unfold Func.isWrapper; first | (rw [if_pos (by decide +kernel)]; kernel_rfl) | (rw [if_neg (by decide +kernel)]; exact ⟨rfl, rfl⟩))
    (fun os started H enc _ => decides_lifted os started H enc)
theorem proveDecides_holds : Rows.ProveDecidesCardSaid :=
  Claim7.holds_tied_plain_at .later [] [.funcs] true (true, "ee78f3fea5e62ac867fb12881a9742dfec09454aa8e9067a5bd6c84d4de512dc") false
    proveDecides_said (fun _ h => by cases h) (by kernel_rfl) (fun _ h => by cases h) proveDecides_row_tie rfl ⟨rfl, rfl⟩ (by kernel_rfl) rfl
    (fun f fn hf hfn => by
      obtain rfl : f = 3 := Option.some.inj ((show Tryd.prog.funcNamed "halation/halationlaw12.ProveDecides" = some 3 by kernel_rfl).symm.trans hf) |>.symm
      obtain rfl : fn = Tryd.f3 := (Option.some.inj (Tryd.func3.symm.trans hfn)).symm
      exact ⟨by kernel_rfl, fun j t ht => by
        rw [Tryd.params3] at ht
        have hm : t ∈ [28, 3] := by simpa using Array.mem_of_getElem? ht
        have hall : ([28, 3].all fun u => !Tryd.prog.wantsStandIn u) = true := by kernel_rfl
        exact (show Tryd.prog.wantsStandIn t = false by simpa using List.all_eq_true.1 hall t hm)⟩)
    (by kernel_rfl)
#print axioms proveDecides_holds
end Go.Proofs.YtfhjkkjaaeohhaaDoor
