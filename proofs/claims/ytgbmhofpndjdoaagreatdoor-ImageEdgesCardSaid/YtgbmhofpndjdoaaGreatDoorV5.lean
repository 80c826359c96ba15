/- A part of the proof that the law answers true for every input; the conditions are those of the card: the listed variable reads as the program lays it. -/
import Derived.Test.YtgbmhofpndjdoaaGreatDoorV4
import Derived.LaidMore
import Derived.Test.YtgbmhofpndjdoaaGreatDoorTie
import Derived.Shelf.Spec.SlicesInsertGrow
import GoSem.Core.Float
import GoSem.Dispatch
import Derived.Laws.Cover2
import Derived.Laws.FloatArith
import Derived.WalkKit
import Derived.Laws.Externs
import Derived.Lib.Walk
import Derived.Test.YtgbmhofpndjdoaaGreatDoorProg
import Derived.ProofKit
import Derived.Stop.Joined
import Derived.SevenTiedAt
import Derived.Test.YtgbmhofpndjdoaaGreatDoorCards
set_option linter.unusedSimpArgs false
set_option linter.unusedVariables false
/- Chapter 04: what the listed variables hold. -/
set_option maxRecDepth 100000
namespace Go.Vm.P4Z
open Go Go.Vm Go.Vm.P4 Go.Proofs Go.ChangeShapes Go.Proofs.YtgbmhofpndjdoaaGreatDoor
theorem gBnds : Tryz.prog.globalNamed "halation/image.boundaries" = some 0 := by kernel_rfl
theorem tBnds : (Tryz.prog.globals[0]?).map (·.type) = some 161 := by kernel_rfl
theorem gKinds : Tryz.prog.globalNamed "halation/num.kinds" = some 1 := by kernel_rfl
theorem tKinds : (Tryz.prog.globals[1]?).map (·.type) = some 170 := by kernel_rfl
theorem cellsBfn : Tryz.prog.cellsOf 158 = 1 := by kernel_rfl
theorem cellsBnd : Tryz.prog.cellsOf 160 = 2 := by kernel_rfl
theorem cellsBnds : Tryz.prog.cellsOf 161 = 6 := by kernel_rfl
theorem cells4 : Tryz.prog.cellsOf 4 = 1 := by kernel_rfl
theorem cells9 : Tryz.prog.cellsOf 9 = 1 := by kernel_rfl
theorem cellsKind : Tryz.prog.cellsOf 169 = 4 := by kernel_rfl
theorem cellsKinds : Tryz.prog.cellsOf 170 = 44 := by kernel_rfl
abbrev laidW : List (String × DataW Unit) := [("halation/num.kinds", Rows.laid_halation_num_kinds), ("halation/image.boundaries", Rows.laid_halation_image_boundaries)]
abbrev nmB (c : UInt8) : List UInt8 := [104, 97, 108, 97, 116, 105, 111, 110, 47, 105, 109, 97, 103, 101, 46, 98, 111, 117, 110, 100, 97, 114, 105, 101, 115, 36, c]
theorem bnd_of {W : World} {sp : Nat → Bool} {n : Nat} {cs : List Value} {x : DataW (List UInt8) × List MemPlace} {g : Int} {c : UInt8} {f : FuncId} (h : DataW.trod (funcToken Tryz.prog) Tryz.prog W 0 sp true n 160 cs = some x) (hx : x.1 = .agg [.lit (.int .i64 g), .held (nmB c)])
    (hf : ∀ {k : Nat} {v : Value} {p : List MemPlace}, DataW.trod (funcToken Tryz.prog) Tryz.prog W 0 sp true k 158 [v] = some (.held (nmB c), p) → v = .func (.func f) #[] #[]) :
    cs = [.int .i64 g, .func (.func f) #[] #[]] := by
  obtain ⟨xs, n', hn', ex, hl, hn, hE⟩ := DataW.trod_struct Tryz.underlying160 h
  rw [cellsBnd] at hl
  obtain ⟨a, b, rfl⟩ := two_of hl
  have f0 := (hE 0 _ rfl).trans (List.getElem?_eq_getElem (show 0 < xs.length by rw [hn]; decide))
  have f1 := (hE 1 _ rfl).trans (List.getElem?_eq_getElem (show 1 < xs.length by rw [hn]; decide))
  have hn2 : xs.length = 2 := hn
  match xs, hn2 with
  | [x0, x1], _ =>
    simp only [List.getElem_toArray, List.getElem_cons_zero, List.getElem_cons_succ, cells3, cellsBfn, List.drop_zero, List.drop_succ_cons, List.take_succ_cons, List.take_zero, List.take_nil] at f0 f1
    obtain ⟨p, e1, e1', _⟩ := DataW.trod_int Tryz.underlying3 f0
    rw [ex] at hx
    simp only [List.map_cons, List.map_nil, DataW.agg.injEq, List.cons.injEq, and_true] at hx
    obtain ⟨h0, h1⟩ := hx
    rw [e1'] at h0
    simp only [DataW.lit.injEq, Lit.int.injEq, true_and] at h0
    have hf2 : x1 = (.held (nmB c), x1.2) := by rw [← h1]
    rw [hf2] at f1
    have e2 := hf f1
    simp only [List.cons.injEq, and_true] at e1 e2
    rw [e1, e2, h0]
def bndsV : List Value := [.int .i64 0, .func (.func 152) #[] #[], .int .i64 1, .func (.func 153) #[] #[], .int .i64 2, .func (.func 155) #[] #[]]
theorem bnds_cells {W : World} (h : laidMetH Tryz.prog laidW W) : ∀ j, W.cell? ⟨0, j, none⟩ = bndsV[j]? := by
  obtain ⟨g, t, cs, fuel, p, hg, ht, hv, hd⟩ := h.funcs (List.mem_cons_of_mem _ (List.mem_singleton.2 rfl))
  obtain rfl := Option.some.inj (gBnds.symm.trans hg)
  obtain rfl := Option.some.inj (tBnds.symm.trans ht)
  obtain ⟨xs, m, _, ex, hl, hn, hE⟩ := DataW.trod_array Tryz.underlying161 hd
  rw [cellsBnds] at hl
  have key : cs.toList = bndsV := by
    obtain ⟨a, b, c, d, e, f, hcs⟩ := six_of hl
    rw [hcs] at hE ⊢
    match xs, hn with
    | [x0, x1, x2], _ =>
      have e0 := hE 0 (by decide)
      have e1 := hE 1 (by decide)
      have e2 := hE 2 (by decide)
      simp only [cellsBnd, Nat.zero_mul, Nat.one_mul, Nat.reduceMul, List.drop_zero, List.drop_succ_cons, List.take_succ_cons, List.take_zero, List.getElem?_cons_zero, List.getElem?_cons_succ] at e0 e1 e2
      have hx : (x0.1 = .agg [.lit (.int .i64 0), .held (nmB 49)]) ∧ (x1.1 = .agg [.lit (.int .i64 1), .held (nmB 50)]) ∧ (x2.1 = .agg [.lit (.int .i64 2), .held (nmB 51)]) := by
        have h0 := congrArg Prod.fst ex
        simp only [List.map_cons, List.map_nil] at h0
        have h1 : (DataW.agg [DataW.agg [.lit (.int .i64 0), .held (nmB 49)], .agg [.lit (.int .i64 1), .held (nmB 50)], .agg [.lit (.int .i64 2), .held (nmB 51)]] : DataW (List UInt8)) = .agg [x0.1, x1.1, x2.1] := h0
        simp only [DataW.agg.injEq, List.cons.injEq, and_true] at h1
        exact ⟨h1.1.symm, h1.2.1.symm, h1.2.2.symm⟩
      have w0 := bnd_of e0 hx.1 (f := 152) (fun h => Go.func_of_trod (f0 := 152) Tryz.underlying158 (by kernel_rfl) h)
      have w1 := bnd_of e1 hx.2.1 (f := 153) (fun h => Go.func_of_trod (f0 := 153) Tryz.underlying158 (by kernel_rfl) h)
      have w2 := bnd_of e2 hx.2.2 (f := 155) (fun h => Go.func_of_trod (f0 := 155) Tryz.underlying158 (by kernel_rfl) h)
      simp only [List.cons.injEq, and_true] at w0 w1 w2
      obtain ⟨a1, a2⟩ := w0
      obtain ⟨b1, b2⟩ := w1
      obtain ⟨c1, c2⟩ := w2
      rw [a1, a2, b1, b2, c1, c2]
      rfl
  intro j
  have := World.var?_cell hg hv j
  rw [this, ← key, Array.getElem?_toList]
theorem kind_of {H : Type} {enc : TypeId × Value → H} {W : World} {sp : Nat → Bool} {n : Nat} {cs : List Value} {x : DataW H × List MemPlace} {s : List UInt8} {w : Int} {a b : Bool} (h : DataW.trod enc Tryz.prog W 0 sp false n 169 cs = some x)
    (hx : x.1 = .agg [.lit (.string s), .lit (.int .i64 w), .lit (.bool a), .lit (.bool b)]) : cs = [.string ⟨s.toArray⟩, .int .i64 w, .bool a, .bool b] := by
  obtain ⟨xs, n', _, ex, hl, hn, hE⟩ := DataW.trod_struct Tryz.underlying169 h
  rw [cellsKind] at hl
  obtain ⟨q0, q1, q2, q3, rfl⟩ := four_of hl
  have f0 := (hE 0 _ rfl).trans (List.getElem?_eq_getElem (show 0 < xs.length by rw [hn]; decide))
  have f1 := (hE 1 _ rfl).trans (List.getElem?_eq_getElem (show 1 < xs.length by rw [hn]; decide))
  have f2 := (hE 2 _ rfl).trans (List.getElem?_eq_getElem (show 2 < xs.length by rw [hn]; decide))
  have f3 := (hE 3 _ rfl).trans (List.getElem?_eq_getElem (show 3 < xs.length by rw [hn]; decide))
  have hn4 : xs.length = 4 := hn
  match xs, hn4 with
  | [x0, x1, x2, x3], _ =>
    simp only [List.getElem_toArray, List.getElem_cons_zero, List.getElem_cons_succ, cells3, cells4, cells9, List.drop_zero, List.drop_succ_cons, List.take_succ_cons, List.take_zero, List.take_nil] at f0 f1 f2 f3
    obtain ⟨p0, e0, e0', _⟩ := DataW.trod_string Tryz.underlying9 f0
    obtain ⟨p1, e1, e1', _⟩ := DataW.trod_int Tryz.underlying3 f1
    obtain ⟨p2, e2, e2'⟩ := DataW.trod_bool Tryz.underlying4 f2
    obtain ⟨p3, e3, e3'⟩ := DataW.trod_bool Tryz.underlying4 f3
    rw [ex] at hx
    simp only [List.map_cons, List.map_nil, DataW.agg.injEq, List.cons.injEq, and_true] at hx
    obtain ⟨h0, h1, h2, h3⟩ := hx
    rw [e0'] at h0
    rw [e1'] at h1
    rw [e2'] at h2
    rw [e3'] at h3
    simp only [DataW.lit.injEq, Lit.int.injEq, Lit.string.injEq, Lit.bool.injEq, true_and] at h0 h1 h2 h3
    simp only [List.cons.injEq, and_true] at e0 e1 e2 e3
    rw [e0, e1, e2, e3, h1, h2, h3, ← h0]
def kindsL : List (List UInt8 × Int × Bool × Bool) := [([98, 111, 111, 108], 1, false, false), ([117, 56], 8, true, false), ([117, 49, 54], 16, true, false), ([117, 51, 50], 32, true, false), ([117, 54, 52], 64, true, false), ([105, 56], 8, true, true), ([105, 49, 54], 16, true, true), ([105, 51, 50], 32, true, true), ([105, 54, 52], 64, true, true), ([102, 51, 50], 32, false, false), ([99, 54, 52], 64, false, false)]
def kv (k : List UInt8 × Int × Bool × Bool) : List Value := [.string ⟨k.1.toArray⟩, .int .i64 k.2.1, .bool k.2.2.1, .bool k.2.2.2]
def kd (k : List UInt8 × Int × Bool × Bool) : DataW Unit := .agg [.lit (.string k.1), .lit (.int .i64 k.2.1), .lit (.bool k.2.2.1), .lit (.bool k.2.2.2)]
theorem laidK : (Rows.laid_halation_num_kinds : DataW Unit) = .agg (kindsL.map kd) := rfl
theorem by4 {α : Type} (f : Nat → List α) : ∀ (n : Nat) (l : List α), l.length = 4 * n → (∀ i, i < n → (l.drop (i * 4)).take 4 = f i) → l = (List.range n).flatMap f
  | 0, l, h, _ => by simpa using h
  | n + 1, l, h, hf => by
    have h1 := by4 f n (l.take (4 * n)) (by simp; omega) (fun i hi => by
      rw [← hf i (by omega), List.drop_take, List.take_take, Nat.min_eq_left (by omega)])
    have h2 := hf n (by omega)
    rw [List.take_of_length_le (by simp; omega), Nat.mul_comm] at h2
    rw [List.range_succ, List.flatMap_append, ← h1, List.flatMap_cons, List.flatMap_nil, List.append_nil, ← h2, List.take_append_drop]
theorem kinds_cells {W : World} (h : laidMetH Tryz.prog laidW W) : ∀ j, W.cell? ⟨1, j, none⟩ = (kindsL.flatMap kv)[j]? := by
  have h' : laidMet Tryz.prog [("halation/num.kinds", Rows.laid_halation_num_kinds)] W := h.1
  obtain ⟨ps, ⟨g, t, cs, fuel, p, q, hg, ht, hv, hd, _, _⟩, _, _⟩ := h'
  obtain rfl := Option.some.inj (gKinds.symm.trans hg)
  obtain rfl := Option.some.inj (tKinds.symm.trans ht)
  obtain ⟨xs, m, _, ex, hl, hn, hE⟩ := DataW.trod_array Tryz.underlying170 hd
  rw [cellsKinds] at hl
  have ex' : (DataW.agg (kindsL.map kd) : DataW Unit) = .agg (xs.map (·.1)) := by rw [← laidK]; exact congrArg Prod.fst ex
  injection ex' with ex'
  have key : cs.toList = kindsL.flatMap kv := by
    have := by4 (fun i => (kindsL[i]?.map kv).getD []) 11 cs.toList hl (fun i hi => by
      have e := hE i hi
      rw [cellsKind] at e
      have hix : i < xs.length := by omega
      rw [List.getElem?_eq_getElem hix] at e
      have hk : i < kindsL.length := hi
      have hx : xs[i].1 = kd kindsL[i] := by
        have h1 : (xs.map (·.1))[i]? = (kindsL.map kd)[i]? := by rw [ex']
        rw [List.getElem?_map, List.getElem?_map, List.getElem?_eq_getElem hix, List.getElem?_eq_getElem hk] at h1
        exact Option.some.inj h1
      rw [kind_of e hx, List.getElem?_eq_getElem hk]
      rfl)
    rw [this]; rfl
  intro j
  have := World.var?_cell hg hv j
  rw [this, ← key, Array.getElem?_toList]
theorem rep_list {F : Nat → Prop} {W : World} {ds : List D} {vs : List Value} {b : Nat} (hF : F b) (hc : ∀ j, W.cell? ⟨b, j, none⟩ = vs[j]?) (hl : ds.length = vs.length) (h1 : ∀ v ∈ vs, v.oneCell' = true) (h : ∀ j d, ds[j]? = some d → RepD F W d (vs.getD j undef)) :
    RepD F W (.ptr ds) (.pointer (some ⟨b, 0, none⟩)) := by
  refine .ptr _ ⟨b, 0, none⟩ (fun j => vs.getD j undef) rfl (fun j d hj => ?_) h
  have hlt := (List.getElem?_eq_some_iff.1 hj).1
  have e : vs.getD j undef = vs[j]'(by omega) := by rw [List.getD_eq_getElem?_getD, List.getElem?_eq_getElem (show j < vs.length by omega)]; rfl
  refine ⟨hF, ?_, ?_⟩
  · rw [Nat.zero_add, hc j, List.getElem?_eq_getElem (show j < vs.length by omega), e]
  · rw [e]; exact h1 _ (List.getElem_mem _)
theorem glob_ok {W : World} (h : laidMetH Tryz.prog laidW W) : ∀ g cs, glob g = some cs → RepD (Old W) W (.ptr cs) (.pointer (some ⟨g, 0, none⟩)) := by
  intro g cs hg
  unfold glob at hg
  split at hg
  · rename_i e0
    subst e0
    injection hg with hg
    subst hg
    have hfn : ∀ f, RepD (Old W) W (.fn f [] []) (.func (.func f) #[] #[]) := fun f => .fn f [] [] #[] #[] rfl rfl (fun j d h => by simp at h) (fun j d h => by simp at h)
    have hc := bnds_cells h
    refine rep_list (cell_lt (hc 0)) hc rfl (fun v hv => ?_) (fun j d hj => ?_)
    · simp only [bndsV, List.mem_cons, List.not_mem_nil, or_false] at hv
      rcases hv with rfl | rfl | rfl | rfl | rfl | rfl <;> rfl
    · have hlt := (List.getElem?_eq_some_iff.1 hj).1
      have hlt : j < 6 := hlt
      match j, hlt, hj with
      | 0, _, hj => injection hj with hj; subst hj; exact .int _ _
      | 1, _, hj => injection hj with hj; subst hj; exact hfn _
      | 2, _, hj => injection hj with hj; subst hj; exact .int _ _
      | 3, _, hj => injection hj with hj; subst hj; exact hfn _
      | 4, _, hj => injection hj with hj; subst hj; exact .int _ _
      | 5, _, hj => injection hj with hj; subst hj; exact hfn _
  · split at hg
    · rename_i e1
      subst e1
      injection hg with hg
      subst hg
      have hc := kinds_cells h
      have hd : dsOfCells (kindsL.flatMap kv) = some kindsD := rfl
      obtain ⟨i1, i2, i3⟩ := rep_cells (F := Old W) (W := W) hd
      exact rep_list (cell_lt (hc 0)) hc i1 i2 i3
    · cases hg
end Go.Vm.P4Z

/- slices.Insert of one number, where there is room. -/
set_option linter.unusedVariables false
set_option linter.unusedSimpArgs false
namespace Go.PinIns
open Go.Proofs Go.Shelf Go.RowKit Go.Lib
variable {P : Program} {ρ : Ren}
set_option maxHeartbeats 4000000 in
set_option maxRecDepth 100000 in
theorem ins_end (L : Lays2.n21 P ρ) (b n c b2 c2 : Nat) (u : Value) (w : World) (hn : n < 1000000) (hroom : n + 1 ≤ c)
    (hsp : ∀ j, j < 1 → (w.cell? ⟨b, 0 + n + j, none⟩).isSome = true) (hfz : ∀ j, j < 1 → w.frozen? ⟨b, 0 + n + j, none⟩ = false)
    (hv : ∀ j v, [u][j]? = some v → w.cell? ⟨b2, 0 + j, none⟩ = some v) (h1v : ∀ v ∈ [u], v.oneCell' = true) :
    Calls P (ρ.f 21) #[.slice (some ⟨b, 0, none⟩) n c, .int .i64 n, .slice (some ⟨b2, 0, none⟩) 1 c2] w fun e w' =>
      e = .returned (.slice (some ⟨b, 0, none⟩) (n + 1) c) ∧ w' = w.setCells b (0 + n) [u] := by
  have t0 := L.t0; have a0 := L.a0; have z0 := L.z0; have v0 := L.v0; have t3 := L.t3; have a3 := L.a3; have z3 := L.z3; have v3 := L.v3; have t4 := L.t4; have a4 := L.a4; have z4 := L.z4; have v4 := L.v4; have t22 := L.t22; have a22 := L.a22; have z22 := L.z22; have v22 := L.v22
  have u0 := run_underlying L.t0; have u3 := run_underlying L.t3; have u4 := run_underlying L.t4; have u22 := run_underlying L.t22
  have mixed := L.mixed
  have hsrc : Src P 1 (ρ.t 22) (.slice (some ⟨b2, 0, none⟩) 1 c2) 1 [u] w := Src.ofSlice w L.t22 ⟨b2, 0, none⟩ 1 c2 [u] rfl (fun j u hj => by rw [Addr.add_lit]; exact hv j u hj) h1v
  go_enter L.f21, Body2.n21_ntmps ρ
  go_wp2_with (at_builtin; refine wpList_append_room1 _ rfl _ _ (ρ.t 22) (ρ.t 22) rfl (ρ.t 3) _ _ L.t22 L.i3 b 0 n c rfl _ rfl 1 [u] hsrc hroom hsp hfz ?_)
  go_ret
  exact ⟨rfl, by rw [Nat.zero_add]⟩
set_option maxHeartbeats 4000000 in
set_option maxRecDepth 100000 in
theorem ins_mid (L : Lays2.n21 P ρ) (b off n c i b2 o2 m c2 : Nat) (us cs : List Value) (w : World) (hn : n + m ≤ 9223372036854775807) (hi : i < n) (hm : 0 < m) (hroom : n + m ≤ c) (hvb : b2 ≠ b)
    (hcl : cs.length = n) (hul : us.length = m) (hcs : ∀ j v, cs[j]? = some v → w.cell? ⟨b, off + j, none⟩ = some v) (hsp : ∀ j, j < n + m → (w.cell? ⟨b, off + j, none⟩).isSome = true) (hfz : ∀ j, w.frozen? ⟨b, j, none⟩ = false)
    (hv : ∀ j v, us[j]? = some v → w.cell? ⟨b2, o2 + j, none⟩ = some v) (h1c : ∀ v ∈ cs, v.oneCell' = true) (h1v : ∀ v ∈ us, v.oneCell' = true)
    (tA tB : TypeId) (kA kB : Nat) (hsa : w.shape? b2 = some (tA, kA)) (hsb : w.shape? b = some (tB, kB)) (hkB : kB ≠ 0) (hfa : ∀ j, w.frozen? ⟨b2, j, none⟩ = false) :
    Calls P (ρ.f 21) #[.slice (some ⟨b, off, none⟩) n c, .int .i64 i, .slice (some ⟨b2, o2, none⟩) m c2] w fun e w' =>
      e = .returned (.slice (some ⟨b, off, none⟩) (n + m) c) ∧ w' = (w.drew.setCells b (off + (i + m)) (cs.drop i)).setCells b (off + i) us := by
  have t0 := L.t0; have a0 := L.a0; have z0 := L.z0; have v0 := L.v0; have t3 := L.t3; have a3 := L.a3; have z3 := L.z3; have v3 := L.v3; have t4 := L.t4; have a4 := L.a4; have z4 := L.z4; have v4 := L.v4; have t22 := L.t22; have a22 := L.a22; have z22 := L.z22; have v22 := L.v22
  have u0 := run_underlying L.t0; have u3 := run_underlying L.t3; have u4 := run_underlying L.t4; have u22 := run_underlying L.t22
  have mixed := L.mixed
  have g1 : ¬ ((m : Int) = 0) := by omega
  have g2 : ¬ ((i : Int) = (n : Int)) := by omega
  have hsz : (P.info? (ρ.t 3)).map (·.size) = some 1 := by
    obtain ⟨i0, hi0, h0, h1, h2⟩ := info_parts L.i3
    rw [hi0]; simp [h1]
  have hov : ∀ lb cb, (callFunc (ρ.f 27) #[.slice (some ⟨b2, o2, none⟩) m c2, .slice (some ⟨b, off + (i + m), none⟩) lb cb]).run P w = .ok (.value (.bool false)) w := fun lb cb => by
    rw [run_callFunc_extern L.f27 (by kernel_rfl) (by kernel_rfl) (by kernel_rfl) (e := Extern.SlicesOverlaps.overlaps #[(ρ.t 22), (ρ.t 22)] #[(ρ.t 4)]) (by kernel_rfl),
      Lib.run_overlaps_apart w (ρ.t 22) (ρ.t 4) (ρ.t 3) L.t22 1 L.z3 ⟨b2, o2, none⟩ ⟨b, off + (i + m), none⟩ m c2 lb cb hvb tA tB kA kB hsa hsb hkB (hfa _) (hfa _)]
    rfl
  have hdl : (cs.drop i).length = n - i := by rw [List.length_drop, hcl]
  have g3 : IntKind.i64.wrap ((i : Int) + (m : Int)) = (i : Int) + (m : Int) := by rw [IntKind.wrap_i64]; omega
  have g4 : (0 : Int) ≤ (i : Int) + (m : Int) := by omega
  have g5 : i ≤ n := by omega
  have g6 : ((i : Int) + (m : Int)).toNat = i + m := by omega
  have g7 : ¬ (c = i + m) := by omega
  have g8 : (i : Int) ≤ (n : Int) + (m : Int) := by omega
  have g9 : ¬ (c = i) := by omega
  have c1 : ∀ ty dc sc, (Builtin.copy_ #[(ρ.t 22), (ρ.t 22)] ty #[.slice (some ⟨b, off + (i + m), none⟩) (n + m - (i + m)) dc, .slice (some ⟨b, off + i, none⟩) (n + m - i) sc]).run P w.drew = .ok (goInt (cs.drop i).length) (w.drew.setCells b (off + (i + m)) (cs.drop i)) := fun ty dc sc =>
    run_copy_cells w.drew _ _ ty (ρ.t 3) b (off + (i + m)) (n + m - (i + m)) dc ⟨b, off + i, none⟩ (n + m - i) sc (cs.drop i) L.t22 hsz (by rw [hdl]; simp only [Nat.min_def]; split <;> omega)
      (fun j v hj => by rw [Addr.add_lit, Nat.add_assoc]; exact hcs (i + j) v (by rwa [List.getElem?_drop] at hj))
      (fun j hj => by rw [Nat.add_assoc]; exact hsp _ (by omega)) (fun j hj => hfz _) (fun v hv => h1c v (List.mem_of_mem_drop hv))
  obtain ⟨W1, hW1⟩ : ∃ W1, W1 = w.drew.setCells b (off + (i + m)) (cs.drop i) := ⟨_, rfl⟩
  have hsp1 : ∀ k, k < n + m → (W1.cell? ⟨b, off + k, none⟩).isSome = true := fun k hk => by
    rw [hW1]
    exact isSome_setCells b _ _ _ (fun j hj => by rw [Nat.add_assoc]; exact hsp _ (by omega)) _ (hsp k hk)
  have c2 : ∀ (W : World), (∀ x, W.cell? x = W1.cell? x) → (∀ x, W.frozen? x = W1.frozen? x) → ∀ ty dc, (Builtin.copy_ #[(ρ.t 22), (ρ.t 22)] ty #[.slice (some ⟨b, off + i, none⟩) (n + m - i) dc, .slice (some ⟨b2, o2, none⟩) m c2]).run P W = .ok (goInt us.length) (W.setCells b (off + i) us) := fun W hWc hWf ty dc =>
    run_copy_cells W _ _ ty (ρ.t 3) b (off + i) (n + m - i) dc ⟨b2, o2, none⟩ m c2 us L.t22 hsz (by rw [hul]; simp only [Nat.min_def]; split <;> omega)
      (fun j v hj => by
        rw [Addr.add_lit, hWc, hW1, World.cell?_setCells_out b _ _ _ _ (fun h _ => absurd h hvb)]
        exact hv j v hj)
      (fun j hj => by rw [hWc, Nat.add_assoc]; exact hsp1 _ (by omega)) (fun j hj => by rw [hWf, hW1, World.frozen?_setCells]; exact hfz _) h1v
  rw [← hW1] at c1
  go_enter L.f21, Body2.n21_ntmps ρ
  go_wp2_with (simp only [hov])
  go_region_law_o (refine step_copy_runI rfl _ _ (ρ.t 22) (ρ.t 22) rfl _ _ (by simp [Act.eval, Act.put]) (by simp [Act.eval, Act.put]) (c1 _ _ _) ?_)
  go_wp2_with (at_builtin; refine wpList_copy_runI _ rfl _ _ (ρ.t 22) (ρ.t 22) rfl _ _ rfl rfl (c2 _ (fun _ => rfl) (fun _ => rfl) _ _) ?_)
  go_ret
  first | exact ⟨rfl, rfl⟩ | exact ⟨rfl, by rw [hW1]⟩
end Go.PinIns

/- slices.Insert on numbers, one number: what the library's contract says, in the machine's words. -/
set_option maxRecDepth 100000
namespace Go.Vm
open Go Go.Proofs Go.Shelf Go.PinIns
section
variable {P : Program} {gb : Nat → Option (List D)} {W W' : World} {m : Nat → Option Nat} {F : Nat → Prop} {L : Option Nat} {st : List AO}
theorem move_rel {id b b' : Nat} {ob ob' : AO} {v : AV} {w : Value} (R : Rel gb m F L W (sto st)) (up : ∀ i b, m i = some b → i < st.length) (hg : st[id]? = some ob) (hl : lv ob = true) (hm : m id = some b) (T : Tr (fun x => x = b) W W') (hb' : b' = b ∨ (W.heap.size ≤ b' ∧ b' < W'.heap.size))
    (hO : RelO (addM m st.length b') F L W' b' ob') (hv : RepA (addM m st.length b') F L W' v w) :
    ∃ m' F', Grow (own m (sto st)) m F W m' F' W' ∧ Rel gb m' F' L W' (sto (st.set id .dead ++ [ob'])) ∧ (∀ i b, m' i = some b → i < (st.set id .dead ++ [ob']).length) ∧ RepA m' F' L W' v w ∧ (∀ b, own m' (sto (st.set id .dead ++ [ob'])) b → own m (sto st) b ∨ W.heap.size ≤ b) ∧ (∀ i b, m' i = some b → (∃ j, m j = some b) ∨ W.heap.size ≤ b) := by
  have hst : sto st id = ob := sto_get hg
  have hlt : id < st.length := (List.getElem?_eq_some_iff.1 hg).1
  have hbF : ¬ F b := R.nF id b (by rw [hst]; exact hl) hm
  have hbw := R.hm id b hm
  have hown : own m (sto st) b := ⟨id, by rw [hst]; exact hl, hm⟩
  have hfree : m st.length = none := by
    cases h : m st.length with
    | none => rfl
    | some b => have := up _ b h; omega
  have hext := addM_ext (b := b') hfree
  have hsame : ∀ i, i ≠ id → sto (st.set id .dead) i = sto st i := fun i hi => by rw [sto_set, if_neg (fun h => hi h.1)]
  have hdead : ∀ i, sto (st.set id .dead) i ≠ .dead → i ≠ id := by
    intro i hi e
    rw [sto_set, if_pos ⟨e, hlt⟩] at hi
    exact hi rfl
  have hoth : ∀ i b2, sto (st.set id .dead) i ≠ .dead → m i = some b2 → b2 ≠ b := by
    intro i b2 hi h1 e
    subst e
    have hne := hdead i hi
    rw [hsame i hne] at hi
    cases hlv : lv (sto st i) with
    | true => exact hne (R.inj i id b2 hlv (by rw [hst]; exact hl) h1 hm)
    | false =>
      obtain ⟨b3, h2, h3⟩ := R.hs i hi
      rw [h1] at h2; injection h2 with h2; subst h2
      cases hob : sto st i with
      | dead => exact hi hob
      | fbox cs => rw [hob] at h3; obtain ⟨_, _, _, _, _, h, _⟩ := h3; exact hbF h
      | farr sz es => rw [hob] at h3; obtain ⟨_, _, _, _, _, _, h, _⟩ := h3; exact hbF h
      | _ => rw [hob] at hlv; cases hlv
  have hm'lt : ∀ i b2, addM m st.length b' i = some b2 → b2 < W'.heap.size := by
    intro i b2 hi
    unfold addM at hi
    split at hi
    · injection hi with hi; subst hi
      rcases hb' with h | h
      · subst h; have := T.size; omega
      · exact h.2
    · have := R.hm i b2 hi; have := T.size; omega
  have R1 := Rel.mono (m' := addM m st.length b') (F' := F) (rel_kill R id) T hext hm'lt (fun _ h => h) (fun b hb => by have := R.hF b hb; have := T.size; omega)
    (fun i b' hi h1 => hoth i b' hi h1) (fun b' hb e => hbF (e ▸ hb)) (fun i b' h1 h2 => (rel_kill R id).nF i b' h1 h2)
  have hb'F : ¬ F b' := by
    rcases hb' with h | h
    · rw [h]; exact hbF
    · intro hc; have := R.hF _ hc; omega
  have hlen : (st.set id .dead).length = st.length := List.length_set
  have hothm : ∀ j, lv (sto (st.set id .dead) j) = true → addM m st.length b' j ≠ some b' := by
    intro j hj h
    have hjd : sto (st.set id .dead) j ≠ .dead := fun e => by rw [e] at hj; cases hj
    have hjl := sto_lt hjd
    rw [hlen] at hjl
    have h1 : m j = some b' := by
      unfold addM at h
      rwa [if_neg (by omega)] at h
    rcases hb' with e | e
    · exact hoth j b' hjd h1 e
    · have := R.hm j b' h1; omega
  have R2 := rel_add (st := st.set id .dead) R1 (by rw [hlen]; simp [addM]) hO (fun _ => hb'F) hothm
  have hown' : ∀ b2, own (addM m st.length b') (sto (st.set id .dead ++ [ob'])) b2 → own m (sto st) b2 ∨ W.heap.size ≤ b2 := by
    rintro b2 ⟨i, h1, h2⟩
    unfold addM at h2
    split at h2
    · injection h2 with h2; subst h2
      rcases hb' with e | e
      · subst e; exact .inl hown
      · exact .inr e.1
    · rename_i e
      rw [sto_append] at h1
      unfold Vm.put at h1
      rw [if_neg (by simp; omega)] at h1
      have hd : sto (st.set id .dead) i ≠ .dead := fun e => by rw [e] at h1; cases h1
      exact .inl ⟨i, by rwa [hsame i (hdead i hd)] at h1, h2⟩
  refine ⟨addM m st.length b', F, ⟨hext, fun _ h => h, fun _ h => .inl h, T.mono fun x _ e => e ▸ hown⟩, R2, fun i b2 hi => ?_, hv, hown', fun i b2 hi => ?_⟩
  · simp only [List.length_append, hlen, List.length_cons, List.length_nil]
    unfold addM at hi
    split at hi
    · omega
    · have := up i b2 hi; omega
  · unfold addM at hi
    split at hi
    · injection hi with hi; subst hi
      rcases hb' with e | e
      · subst e; exact .inl ⟨id, hm⟩
      · exact .inr e.1
    · exact .inl ⟨i, hi⟩
theorem setCells_row (g : Nat) (t : TypeId) (fr : Nat × Nat) : ∀ (vs : List Value) (o : Nat) (w : World) (c : Array Value), w.heap[g]? = some (.cells c t fr) → o + vs.length ≤ c.size →
    w.setCells g o vs = w.setRow g (c.toList.take o ++ vs ++ c.toList.drop (o + vs.length)).toArray
  | [], o, w, c, hg, hl => by
    rw [World.setCells]
    have : (c.toList.take o ++ [] ++ c.toList.drop (o + ([] : List Value).length)).toArray = c := by simp
    rw [this, setRow_self w g c t fr hg]
  | v :: r, o, w, c, hg, hl => by
    rw [World.setCells, setCell_eq_setRow w g o c t fr v hg]
    have h2 := setRow_heap w g c (c.setIfInBounds o v) t fr hg
    rw [setCells_row g t fr r (o + 1) _ _ h2 (by simp at hl ⊢; omega), setRow_setRow]
    congr 1
    simp only [List.length_cons] at hl
    apply Array.ext'
    simp only [Array.toList_setIfInBounds, List.append_assoc]
    have e1 : (c.toList.set o v).take (o + 1) = c.toList.take o ++ [v] := by
      have hlo : (c.toList.take o).length = o := by simp; omega
      rw [List.take_set, List.take_succ_eq_append_getElem (by simp; omega), List.set_append_right _ _ (by omega), hlo, Nat.sub_self]
      rfl
    have e2 : (c.toList.set o v).drop (o + 1 + r.length) = c.toList.drop (o + (v :: r).length) := by
      rw [List.drop_set_of_lt (by omega)]
      simp only [List.length_cons]; congr 1; omega
    rw [e1, e2]; simp
variable {ρ : Ren}
theorem ins_get {es : List (List D)} {i : Nat} {d : List D} (hi : i ≤ es.length) (k : Nat) (e : List D) (h : (es.take i ++ d :: es.drop i)[k]? = some e) :
    (k < i ∧ es[k]? = some e) ∨ (k = i ∧ e = d) ∨ (i < k ∧ k ≤ es.length ∧ es[k - 1]? = some e) := by
  by_cases h1 : k < i
  · rw [List.getElem?_append_left (by simp; omega), List.getElem?_take, if_pos h1] at h
    exact .inl ⟨h1, h⟩
  · rw [List.getElem?_append_right (by simp; omega)] at h
    have hl : (es.take i).length = i := by simp; omega
    rw [hl] at h
    by_cases h2 : k = i
    · subst h2
      rw [Nat.sub_self, List.getElem?_cons_zero] at h
      injection h with h
      exact .inr (.inl ⟨rfl, h.symm⟩)
    · rw [show k - i = (k - i - 1) + 1 by omega, List.getElem?_cons_succ, List.getElem?_drop] at h
      have := (List.getElem?_eq_some_iff.1 h).1
      rw [show i + (k - i - 1) = k - 1 by omega] at h
      exact .inr (.inr ⟨by omega, by omega, h⟩)
theorem ins_row {b : Nat} {c : Array Value} {t : TypeId} {es : List (List D)} {i : Nat} {d : D} (hb : W.heap[b]? = some (.cells c t (0, 0))) (hz : ∀ e ∈ es, e.length = 1) (hi : i ≤ es.length) (hle : es.length + 1 ≤ c.size)
    (h0 : ∀ k e x, k < i → es[k]? = some e → e[0]? = some x → (c.getD k undef).oneCell' = true ∧ RepD F W x (c.getD k undef))
    (h1 : (c.getD i undef).oneCell' = true ∧ RepD F W d (c.getD i undef))
    (h2 : ∀ k e x, i ≤ k → es[k]? = some e → e[0]? = some x → (c.getD (k + 1) undef).oneCell' = true ∧ RepD F W x (c.getD (k + 1) undef)) :
    RelO m F L W b (.arr 1 (es.take i ++ [d] :: es.drop i)) := by
  have hz' : ∀ e ∈ es.take i ++ [d] :: es.drop i, e.length = 1 := by
    intro e he
    rcases List.mem_append.1 he with h | h
    · exact hz e (List.mem_of_mem_take h)
    · rcases List.mem_cons.1 h with h | h
      · subst h; rfl
      · exact hz e (List.mem_of_mem_drop h)
  refine relO_rows hb hz' (by simp; omega) fun k e j x hk hj => ?_
  have hj0 : j = 0 := by
    have := (List.getElem?_eq_some_iff.1 hj).1
    have := hz' e (List.mem_of_getElem? hk)
    omega
  subst hj0
  rw [Nat.mul_one, Nat.add_zero]
  rcases ins_get hi k e hk with ⟨q1, q2⟩ | ⟨q1, q2⟩ | ⟨q1, q2, q3⟩
  · exact h0 k e x q1 q2 hj
  · subst q1; subst q2
    simp only [List.getElem?_cons_zero, Option.some.injEq] at hj
    subst hj; exact h1
  · have := h2 (k - 1) e x (by omega) q3 hj
    rwa [show k - 1 + 1 = k by omega] at this
theorem tr_drewn (O : Nat → Prop) (W : World) : Tr O W W.drew := ⟨rfl, rfl, rfl, Nat.le_refl _, fun _ _ _ => rfl, fun _ _ h => h⟩
theorem drop_getD {f : Nat → Value} {n i j : Nat} (h : i + j < n) : (((List.range n).map f).drop i).getD j undef = f (i + j) := by
  simp [List.getD_eq_getElem?_getD, h]
theorem two_rows {A : World} {g : Nat} {t : TypeId} {c : Array Value} {n i : Nat} {u : Value} {f : Nat → Value} (hb : A.heap[g]? = some (.cells c t (0, 0))) (hi : i ≤ n) (hn : n + 1 ≤ c.size) :
    ∃ r : Array Value, (A.setCells g (i + 1) (((List.range n).map f).drop i)).setCells g i [u] = A.setRow g r ∧ (A.setCells g i [u]).drew.setCells g (i + 1) (((List.range n).map f).drop i) = A.drew.setRow g r ∧ r.size = c.size ∧
      (∀ k, k < i → r.getD k undef = c.getD k undef) ∧ r.getD i undef = u ∧ ∀ k, i ≤ k → k < n → r.getD (k + 1) undef = f k := by
  have hl : (((List.range n).map f).drop i).length = n - i := by simp
  have h1 : i + 1 + (((List.range n).map f).drop i).length ≤ c.size := by omega
  have h2 : i + [u].length ≤ c.size := by simp; omega
  have ha := setCells_row g t (0, 0) (((List.range n).map f).drop i) (i + 1) A c hb h1
  have hb1 := setRow_heap A g c (c.toList.take (i + 1) ++ ((List.range n).map f).drop i ++ c.toList.drop (i + 1 + (((List.range n).map f).drop i).length)).toArray t (0, 0) hb
  have s1 := splice_size h1
  have h3 : i + [u].length ≤ (c.toList.take (i + 1) ++ ((List.range n).map f).drop i ++ c.toList.drop (i + 1 + (((List.range n).map f).drop i).length)).toArray.size := by rw [s1]; exact h2
  have hc := setCells_row g t (0, 0) [u] i _ _ hb1 h3
  have hd := setCells_row g t (0, 0) [u] i A c hb h2
  have hb2 := setRow_heap A g c (c.toList.take i ++ [u] ++ c.toList.drop (i + [u].length)).toArray t (0, 0) hb
  have s2 := splice_size h2
  have h4 : i + 1 + (((List.range n).map f).drop i).length ≤ (c.toList.take i ++ [u] ++ c.toList.drop (i + [u].length)).toArray.size := by rw [s2]; exact h1
  have he := setCells_row g t (0, 0) (((List.range n).map f).drop i) (i + 1) (A.setRow g (c.toList.take i ++ [u] ++ c.toList.drop (i + [u].length)).toArray).drew _ hb2 h4
  have same : (((c.toList.take (i + 1) ++ ((List.range n).map f).drop i ++ c.toList.drop (i + 1 + (((List.range n).map f).drop i).length)).toArray.toList.take i ++ [u] ++ (c.toList.take (i + 1) ++ ((List.range n).map f).drop i ++ c.toList.drop (i + 1 + (((List.range n).map f).drop i).length)).toArray.toList.drop (i + [u].length)).toArray : Array Value) =
      ((c.toList.take i ++ [u] ++ c.toList.drop (i + [u].length)).toArray.toList.take (i + 1) ++ ((List.range n).map f).drop i ++ (c.toList.take i ++ [u] ++ c.toList.drop (i + [u].length)).toArray.toList.drop (i + 1 + (((List.range n).map f).drop i).length)).toArray := by
    apply Array.ext
    · rw [splice_size h3, splice_size h4, s1, s2]
    · intro k k1 k2
      have q1 := splice_get (k := k) h3
      have q2 := splice_get (k := k) h4
      rw [splice_get h1] at q1
      rw [splice_get h2] at q2
      rw [Array.getD_eq_getD_getElem?, Array.getElem?_eq_getElem k1, Option.getD_some] at q1
      rw [Array.getD_eq_getD_getElem?, Array.getElem?_eq_getElem k2, Option.getD_some] at q2
      rw [q1, q2]
      simp only [List.length_cons, List.length_nil]
      split
      · rw [if_neg (by omega)]
      · rfl
  refine ⟨_, by rw [ha, hc, setRow_setRow], ?_, by rw [splice_size h3, s1], fun k hk => ?_, ?_, fun k hk hk2 => ?_⟩
  · rw [hd, he, same]
    show ((A.drew.setRow g _).setRow g _) = _
    rw [setRow_setRow]
  · rw [splice_get h3, if_neg (by omega), splice_get h1, if_neg (by omega)]
  · rw [splice_get h3, if_pos (by simp), Nat.sub_self]; rfl
  · rw [splice_get h3, if_neg (by simp; omega), splice_get h1, if_pos (by omega), show k + 1 - (i + 1) = k - i by omega, drop_getD (by omega)]
    congr 1; omega
theorem ge_range {c : Array Value} {n k : Nat} {v : Value} (h : ((List.range n).map fun k => c.getD k undef)[k]? = some v) : k < n ∧ v = c.getD k undef := by
  rw [List.getElem?_map, Option.map_eq_some_iff] at h
  obtain ⟨x, h1, h2⟩ := h
  obtain ⟨h3, h4⟩ := List.getElem?_eq_some_iff.1 h1
  simp at h3 h4
  subst h4
  exact ⟨h3, h2.symm⟩
set_option maxHeartbeats 4000000 in
theorem ins_ok (Ly : Lays2.n21 P ρ) (he : Entry P (ρ.f 21)) : PrimOk P gb (ρ.f 21) insPrim := by
  refine ⟨he, ?_⟩
  intro args st v st' m F L W vs hg R up hsz hr
  unfold insPrim at hg
  split at hg
  · rename_i id sz lw n k i id2 sz2 lw2 n2
    split at hg
    · rename_i sz' es sz2' d hid hid2
      split at hg
      · rename_i hc
        obtain ⟨⟨rfl, rfl, rfl, rfl⟩, ⟨rfl, rfl, rfl, rfl⟩, hne, hi0, hin, rfl, hnm⟩ := hc
        simp only [Option.some.injEq, Prod.mk.injEq] at hg
        obtain ⟨rfl, rfl⟩ := hg
        obtain ⟨i, rfl⟩ : ∃ j : Nat, i = j := ⟨i.toNat, by omega⟩
        rw [Int.toNat_natCast]
        have hin' : i ≤ es.length := by omega
        have e3 : vs = #[vs.getD 0 undef, vs.getD 1 undef, vs.getD 2 undef] := by
          have h3 : vs.size = 3 := hsz
          apply Array.ext
          · simp [h3]
          · intro j h1 h2
            have : j = 0 ∨ j = 1 ∨ j = 2 := by simp at h2; omega
            rcases this with rfl | rfl | rfl <;> simp [Array.getD_eq_getD_getElem?, h1]
        have r0 := hr 0 _ rfl
        have r1 := hr 1 _ rfl
        have r2 := hr 2 _ rfl
        rw [e3]
        generalize vs.getD 0 undef = x0 at r0 ⊢
        generalize vs.getD 1 undef = x1 at r1 ⊢
        generalize vs.getD 2 undef = x2 at r2 ⊢
        cases r1 with
        | imm _ _ h =>
        cases h
        cases r0 with
        | ref _ _ _ _ b q cap s hm hqb hqs hoff hrs hle hcap =>
        cases r2 with
        | ref _ _ _ _ b2 q2 cap2 s2 hm2 hqb2 hqs2 hoff2 hrs2 hle2 hcap2 =>
        obtain ⟨c, t, hb, hz, hl, h1, hrr⟩ : RelO m F L W b (.arr 1 es) := look R (fun _ => rfl) hid (by simp) hm
        obtain ⟨c2, t2, hb2, hz2, hl2, h12, hrr2⟩ : RelO m F L W b2 (.arr 1 [[d]]) := look R (fun _ => rfl) hid2 (by simp) hm2
        have hbb : b2 ≠ b := by
          intro e
          subst e
          exact hne (R.inj id id2 b2 (by rw [sto_get hid]; rfl) (by rw [sto_get hid2]; rfl) hm hm2)
        have hsc : cap = c.size := by
          unfold rowSize at hrs
          rw [hb] at hrs
          have := Option.some.inj hrs
          omega
        have hF : ¬ F b := R.nF id b (by rw [sto_get hid]; rfl) hm
        have hb2w : b2 < W.heap.size := R.hm _ _ hm2
        have hbw : b < W.heap.size := R.hm _ _ hm
        have hl2' : 1 ≤ c2.size := by simpa using hl2
        have hq2 : q2 = ⟨b2, 0, none⟩ := by
          rw [addr_none hqs2, hqb2, hoff2 (by omega), Nat.zero_mul]
        subst hq2
        have hu1 : (c2.getD 0 undef).oneCell' = true := h12 0 (by simp)
        have hur : RepD F W d (c2.getD 0 undef) := by simpa using hrr2 0 [d] 0 d rfl rfl
        have huc : W.cell? ⟨b2, 0, none⟩ = some (c2.getD 0 undef) := cell_of hb2 (by omega)
        have hel : ∀ k e x, es[k]? = some e → e[0]? = some x → (c.getD k undef).oneCell' = true ∧ RepD F W x (c.getD k undef) := by
          intro k e x hk hx
          have := (List.getElem?_eq_some_iff.1 hk).1
          refine ⟨h1 k (by omega), ?_⟩
          have := hrr k e 0 x hk hx
          rwa [Nat.mul_one, Nat.add_zero] at this
        have hcsl : ((List.range es.length).map fun k => c.getD k undef).length = es.length := by simp
        have hcs1 : ∀ v ∈ (List.range es.length).map (fun k => c.getD k undef), v.oneCell' = true := by
          intro v hv
          obtain ⟨k, hk, rfl⟩ := List.mem_map.1 hv
          exact h1 k (by rw [List.mem_range] at hk; omega)
        refine callsIn_wide.2 ?_
        by_cases hroom : es.length + 1 ≤ cap
        · have hq : q = ⟨b, 0, none⟩ := by
            rw [addr_none hqs, hqb, hoff (by omega), Nat.zero_mul]
          subst hq
          have hnf : ∀ j, W.frozen? ⟨b, j, none⟩ = false := by intro j; simp [World.frozen?, hb]
          have hnf2 : ∀ j, W.frozen? ⟨b2, j, none⟩ = false := by intro j; simp [World.frozen?, hb2]
          by_cases hend : i = es.length
          · subst hend
            refine (ins_end Ly b es.length cap b2 cap2 (c2.getD 0 undef) W hnm hroom (fun j hj => by
              have : j = 0 := by omega
              subst this
              rw [cell_of hb (by omega)]; rfl) (fun j _ => hnf _) (fun j v hj => by
              have hj0 : j = 0 := by have := (List.getElem?_eq_some_iff.1 hj).1; simp at this; omega
              subst hj0
              simp only [List.getElem?_cons_zero, Option.some.injEq] at hj
              subst hj; exact huc) (fun v hv => by rw [List.mem_singleton.1 hv]; exact hu1)).mono fun e w ⟨e1, e2⟩ => ?_
            have hw : w = W.setRow b (c.toList.take es.length ++ [c2.getD 0 undef] ++ c.toList.drop (es.length + [c2.getD 0 undef].length)).toArray := by
              rw [e2, Nat.zero_add]
              exact setCells_row b t (0, 0) _ _ W c hb (by simp; omega)
            have hspl : es.length + [c2.getD 0 undef].length ≤ c.size := by simp; omega
            have T := tr_setRow (c' := (c.toList.take es.length ++ [c2.getD 0 undef] ++ c.toList.drop (es.length + [c2.getD 0 undef].length)).toArray) hb (splice_size hspl)
            rw [← hw] at T
            have hmono : ∀ {x : D} {v : Value}, RepD F W x v → RepD F w x v := fun h => h.mono (fun _ h => h) fun x hx => T.keep x (R.hF x hx) fun e => hF (e ▸ hx)
            have hb' := setRow_heap W b c (c.toList.take es.length ++ [c2.getD 0 undef] ++ c.toList.drop (es.length + [c2.getD 0 undef].length)).toArray t (0, 0) hb
            rw [← hw] at hb'
            obtain ⟨m', F', G, R', up', rv, ow, rg⟩ := move_rel (ob' := .arr 1 (es.take es.length ++ [d] :: es.drop es.length)) (v := .ref st.length 1 0 (es.length + 1)) (w := .slice (some ⟨b, 0, none⟩) (es.length + 1) cap) R up hid rfl hm T (.inl rfl)
              (ins_row hb' hz (Nat.le_refl _) (by rw [splice_size hspl]; omega)
                (fun k e x hk hke hx => by rw [splice_get hspl, if_neg (by omega)]; exact ⟨(hel k e x hke hx).1, hmono (hel k e x hke hx).2⟩)
                (by rw [splice_get hspl, if_pos (by simp), Nat.sub_self]; exact ⟨hu1, hmono hur⟩)
                (fun k e x hk hke hx => by have := (List.getElem?_eq_some_iff.1 hke).1; omega))
              (.ref _ _ _ _ b ⟨b, 0, none⟩ cap s (by simp [addM]) rfl rfl (fun _ => by simp) (T.rows b _ hrs) hle hroom)
            exact ⟨_, m', F', e1, G, R', up', rv, ow, rg⟩
          · refine (ins_mid Ly b 0 es.length cap i b2 0 1 cap2 [c2.getD 0 undef] ((List.range es.length).map fun k => c.getD k undef) W (by omega) (by omega) (by omega) hroom hbb hcsl rfl (fun j v hj => by
              obtain ⟨q1, q2⟩ := ge_range hj
              rw [q2, Nat.zero_add]; exact cell_of hb (by omega)) (fun j hj => by rw [Nat.zero_add, cell_of hb (by omega)]; rfl) hnf (fun j v hj => by
              have hj0 : j = 0 := by have := (List.getElem?_eq_some_iff.1 hj).1; simp at this; omega
              subst hj0
              simp only [List.getElem?_cons_zero, Option.some.injEq] at hj
              subst hj; exact huc) hcs1 (fun v hv => by rw [List.mem_singleton.1 hv]; exact hu1)
              t2 t c2.size c.size (by simp [World.shape?, hb2]) (by simp [World.shape?, hb]) (by omega) hnf2).mono fun e w ⟨e1, e2⟩ => ?_
            rw [Nat.zero_add, Nat.zero_add] at e2
            obtain ⟨r, hr1, _, hrs', k1, k2, k3⟩ := two_rows (A := W.drew) (u := c2.getD 0 undef) (f := fun k => c.getD k undef) hb hin' (show es.length + 1 ≤ c.size by omega)
            have hw : w = W.drew.setRow b r := e2.trans hr1
            have T0 := tr_setRow (W := W.drew) (c' := r) hb hrs'
            have T : Tr (fun x => x = b) W w := by rw [hw]; exact (tr_drewn (fun x => x = b) W).trans T0 (fun _ _ h => h)
            have hmono : ∀ {x : D} {v : Value}, RepD F W x v → RepD F w x v := fun h => h.mono (fun _ h => h) fun x hx => T.keep x (R.hF x hx) fun e => hF (e ▸ hx)
            have hb' := setRow_heap W.drew b c r t (0, 0) hb
            rw [← hw] at hb'
            obtain ⟨m', F', G, R', up', rv, ow, rg⟩ := move_rel (ob' := .arr 1 (es.take i ++ [d] :: es.drop i)) (v := .ref st.length 1 0 (es.length + 1)) (w := .slice (some ⟨b, 0, none⟩) (es.length + 1) cap) R up hid rfl hm T (.inl rfl)
              (ins_row hb' hz hin' (by omega)
                (fun k e x hk hke hx => by rw [k1 k hk]; exact ⟨(hel k e x hke hx).1, hmono (hel k e x hke hx).2⟩)
                (by rw [k2]; exact ⟨hu1, hmono hur⟩)
                (fun k e x hk hke hx => by rw [k3 k hk (List.getElem?_eq_some_iff.1 hke).1]; exact ⟨(hel k e x hke hx).1, hmono (hel k e x hke hx).2⟩))
              (.ref _ _ _ _ b ⟨b, 0, none⟩ cap s (by simp [addM]) rfl rfl (fun _ => by simp) (T.rows b _ hrs) hle hroom)
            exact ⟨_, m', F', e1, G, R', up', rv, ow, rg⟩
        · have hcn : cap = es.length := by omega
          by_cases hend : i = es.length
          · subst hend
            refine (Any2.slices_Insert_int_end_grow Ly (some q) es.length cap b2 0 1 cap2 ((List.range es.length).map fun k => c.getD k undef) [c2.getD 0 undef] W (by omega) hcap (by omega) (by omega) hcsl rfl (fun h => nomatch h) (fun a ha j v hj => by
              injection ha with ha; subst ha
              obtain ⟨q1, q2⟩ := ge_range hj
              have hq : q = ⟨b, 0, none⟩ := by
                rw [addr_none hqs, hqb, hoff (by omega), Nat.zero_mul]
              rw [hq, add_none, Nat.zero_add, q2]; exact cell_of hb (by omega)) (fun j v hj => by
              have hj0 : j = 0 := by have := (List.getElem?_eq_some_iff.1 hj).1; simp at this; omega
              subst hj0
              simp only [List.getElem?_cons_zero, Option.some.injEq] at hj
              subst hj; exact huc) (fun v hv => by rw [List.mem_singleton.1 hv]; exact hu1)).mono fun e w ⟨e1, e2⟩ => ?_
            have hG := grownCap_ge W (es.length + 1) cap (ρ.t 3)
            generalize grownCap W (es.length + 1) cap (ρ.t 3) = G at e1 e2 hG
            generalize hrow : (((List.range es.length).map (fun k => c.getD k undef) ++ [c2.getD 0 undef]).toArray ++ Builtin.zeroCells (Value.int .i64 0).cells (G - (es.length + 1)) : Array Value) = row at e2
            have hrs' : row.size = G := by rw [← hrow]; simp [Builtin.zeroCells, Value.cells]; omega
            have hw : w = pushD W (W.drawn + 1) (.cells row (ρ.t 3)) := e2
            have T : Tr (fun x => x = b) W w := by rw [hw]; exact tr_push _ W _
            have hmono : ∀ {x : D} {v : Value}, RepD F W x v → RepD F w x v := fun h => h.mono (fun _ h => h) fun x hx => T.keep x (R.hF x hx) fun e => hF (e ▸ hx)
            have hb' : w.heap[W.heap.size]? = some (.cells row (ρ.t 3) (0, 0)) := by rw [hw]; exact push_new W _
            have k1 : ∀ k, k < es.length → row.getD k undef = c.getD k undef := by
              intro k hk
              rw [← hrow, Array.getD_eq_getD_getElem?, Array.getElem?_append_left (by simp; omega), List.getElem?_toArray, List.getElem?_append_left (by simp; omega)]
              simp [hk]
            have k2 : row.getD es.length undef = c2.getD 0 undef := by
              rw [← hrow, Array.getD_eq_getD_getElem?, Array.getElem?_append_left (by simp), List.getElem?_toArray, List.getElem?_append_right (by simp)]
              simp
            obtain ⟨m', F', G', R', up', rv, ow, rg⟩ := move_rel (ob' := .arr 1 (es.take es.length ++ [d] :: es.drop es.length)) (v := .ref st.length 1 0 (es.length + 1)) (w := .slice (some ⟨W.heap.size, 0, none⟩) (es.length + 1) G) R up hid rfl hm T (.inr ⟨Nat.le_refl _, by rw [hw]; simp [pushD]⟩)
              (ins_row hb' hz (Nat.le_refl _) (by omega)
                (fun k e x hk hke hx => by rw [k1 k hk]; exact ⟨(hel k e x hke hx).1, hmono (hel k e x hke hx).2⟩)
                (by rw [k2]; exact ⟨hu1, hmono hur⟩)
                (fun k e x hk hke hx => by have := (List.getElem?_eq_some_iff.1 hke).1; omega))
              (.ref _ _ _ _ W.heap.size ⟨W.heap.size, 0, none⟩ G G (by simp [addM]) rfl rfl (fun _ => by simp) (by simp [rowSize, hb', hrs']) (by omega) hG)
            exact ⟨_, m', F', e1, G', R', up', rv, ow, rg⟩
          · have hq : q = ⟨b, 0, none⟩ := by
              rw [addr_none hqs, hqb, hoff (by omega), Nat.zero_mul]
            subst hq
            refine (Any2.slices_Insert_int_grow Ly b 0 es.length cap i b2 0 1 cap2 ((List.range es.length).map fun k => c.getD k undef) [c2.getD 0 undef] W (by omega) (by omega) hcap (by omega) (by omega) hcsl rfl (fun j v hj => by
              obtain ⟨q1, q2⟩ := ge_range hj
              rw [q2, Nat.zero_add]; exact cell_of hb (by omega)) (fun j v hj => by
              have hj0 : j = 0 := by have := (List.getElem?_eq_some_iff.1 hj).1; simp at this; omega
              subst hj0
              simp only [List.getElem?_cons_zero, Option.some.injEq] at hj
              subst hj; exact huc) hcs1 (fun v hv => by rw [List.mem_singleton.1 hv]; exact hu1)).mono fun e w ⟨e1, e2⟩ => ?_
            have hG := grownCap_ge W (es.length + 1) cap (ρ.t 3)
            generalize grownCap W (es.length + 1) cap (ρ.t 3) = G at e1 e2 hG
            generalize hrow : ((((List.range es.length).map (fun k => c.getD k undef)).take i).toArray ++ Builtin.zeroCells (Value.int .i64 0).cells (es.length + 1 - i) ++ Builtin.zeroCells (Value.int .i64 0).cells (G - (es.length + 1)) : Array Value) = row at e2
            have hrs' : row.size = G := by rw [← hrow]; simp [Builtin.zeroCells, Value.cells]; omega
            have hbA : (pushD W (W.drawn + 1) (.cells row (ρ.t 3))).heap[W.heap.size]? = some (.cells row (ρ.t 3) (0, 0)) := push_new W _
            obtain ⟨r, _, hr1, hrs2, k1, k2, k3⟩ := two_rows (u := c2.getD 0 undef) (f := fun k => c.getD k undef) hbA hin' (show es.length + 1 ≤ row.size by omega)
            have hw : w = (pushD W (W.drawn + 1) (.cells row (ρ.t 3))).drew.setRow W.heap.size r := e2.trans hr1
            have T0 := tr_setRow (W := (pushD W (W.drawn + 1) (.cells row (ρ.t 3))).drew) (c' := r) hbA hrs2
            have T : Tr (fun x => x = b) W w := by
              rw [hw]
              refine (((tr_push (fun x => x = b) W _).trans (tr_drewn (fun x => x = b) _) (fun _ _ h => h)).trans T0 fun x hx e => ?_)
              omega
            have hmono : ∀ {x : D} {v : Value}, RepD F W x v → RepD F w x v := fun h => h.mono (fun _ h => h) fun x hx => T.keep x (R.hF x hx) fun e => hF (e ▸ hx)
            have hb' := setRow_heap (pushD W (W.drawn + 1) (.cells row (ρ.t 3))).drew W.heap.size row r (ρ.t 3) (0, 0) hbA
            rw [← hw] at hb'
            have k0 : ∀ k, k < i → row.getD k undef = c.getD k undef := by
              intro k hk
              rw [← hrow, Array.getD_eq_getD_getElem?, Array.getElem?_append_left (by simp; omega), Array.getElem?_append_left (by simp; omega), List.getElem?_toArray, List.getElem?_take, if_pos hk]
              simp [show k < es.length by omega]
            obtain ⟨m', F', G', R', up', rv, ow, rg⟩ := move_rel (ob' := .arr 1 (es.take i ++ [d] :: es.drop i)) (v := .ref st.length 1 0 (es.length + 1)) (w := .slice (some ⟨W.heap.size, 0, none⟩) (es.length + 1) G) R up hid rfl hm T (.inr ⟨Nat.le_refl _, by rw [hw]; simp [pushD, World.drew]⟩)
              (ins_row hb' hz hin' (by omega)
                (fun k e x hk hke hx => by rw [k1 k hk, k0 k hk]; exact ⟨(hel k e x hke hx).1, hmono (hel k e x hke hx).2⟩)
                (by rw [k2]; exact ⟨hu1, hmono hur⟩)
                (fun k e x hk hke hx => by rw [k3 k hk (List.getElem?_eq_some_iff.1 hke).1]; exact ⟨(hel k e x hke hx).1, hmono (hel k e x hke hx).2⟩))
              (.ref _ _ _ _ W.heap.size ⟨W.heap.size, 0, none⟩ G G (by simp [addM]) rfl rfl (fun _ => by simp) (by simp [rowSize, hb', hrs2, hrs']) (by omega) hG)
            exact ⟨_, m', F', e1, G', R', up', rv, ow, rg⟩
      · cases hg
    · cases hg
  · cases hg
end
end Go.Vm

/- Floats: which 32 bits are those of a finite number, in the model. -/
set_option maxRecDepth 100000
namespace Go.Fl
open Go Ieee
theorem dread (w : Nat) : double.read w = if w % 9223372036854775808 < 4503599627370496 then .number (w / 9223372036854775808 % 2 == 1) (w % 9223372036854775808) (-1074)
    else if w % 9223372036854775808 < 9218868437227405312 then .number (w / 9223372036854775808 % 2 == 1) (4503599627370496 + w % 9223372036854775808 % 4503599627370496) (-1074 + (w % 9223372036854775808 / 4503599627370496 - 1 : Nat))
    else if w % 9223372036854775808 = 9218868437227405312 then .infinity (w / 9223372036854775808 % 2 == 1) else .nan (w / 9223372036854775808 % 2 == 1) (w % 9223372036854775808 - 9218868437227405312) := rfl
theorem sread (w : Nat) : single.read w = if w % 2147483648 < 8388608 then .number (w / 2147483648 % 2 == 1) (w % 2147483648) (-149)
    else if w % 2147483648 < 2139095040 then .number (w / 2147483648 % 2 == 1) (8388608 + w % 2147483648 % 8388608) (-149 + (w % 2147483648 / 8388608 - 1 : Nat))
    else if w % 2147483648 = 2139095040 then .infinity (w / 2147483648 % 2 == 1) else .nan (w / 2147483648 % 2 == 1) (w % 2147483648 - 2139095040) := rfl
def Fin (w : Nat) : Prop := w % 9223372036854775808 < 9218868437227405312
def Inf (w : Nat) : Prop := w % 9223372036854775808 = 9218868437227405312
def NaN (w : Nat) : Prop := 9218868437227405312 < w % 9223372036854775808
theorem fin_read {w : Nat} (h : Fin w) : ∃ s m e, double.read w = .number s m e ∧ m < 9007199254740992 ∧ e ≤ 971 := by
  unfold Fin at h
  rw [dread]
  by_cases h1 : w % 9223372036854775808 < 4503599627370496
  · rw [if_pos h1]; exact ⟨_, _, _, rfl, by omega, by omega⟩
  · rw [if_neg h1, if_pos h]; exact ⟨_, _, _, rfl, by omega, by omega⟩
theorem inf_read {w : Nat} (h : Inf w) : ∃ s, double.read w = .infinity s ∧ (w < 9223372036854775808 → s = false) := by
  unfold Inf at h
  rw [dread, if_neg (by omega), if_neg (by omega), if_pos h]
  exact ⟨_, rfl, fun hw => by rw [Nat.div_eq_of_lt hw]; rfl⟩
theorem nan_read {w : Nat} (h : NaN w) : ∃ s t, double.read w = .nan s t := by
  unfold NaN at h
  rw [dread, if_neg (by omega), if_neg (by omega), if_neg (by omega)]
  exact ⟨_, _, rfl⟩
theorem self_fin {w : Nat} (h : Fin w) : double.order w w = some .eq := by
  obtain ⟨s, m, e, h1, _⟩ := fin_read h
  simp [Format.order, h1, Datum.order, Int.compare_eq_eq]
theorem self_inf {w : Nat} (h : Inf w) : double.order w w = some .eq := by
  obtain ⟨s, h1, _⟩ := inf_read h
  simp [Format.order, h1, Datum.order]
theorem self_nan {w : Nat} (h : NaN w) : double.order w w = none := by
  obtain ⟨s, t, h1⟩ := nan_read h
  simp [Format.order, h1, Datum.order]
theorem max_read : double.read 9218868437227405311 = .number false 9007199254740991 971 := rfl
theorem max_inf {w : Nat} (h : Inf w) (hw : w < 9223372036854775808) : double.order w 9218868437227405311 = some .gt := by
  obtain ⟨s, h1, h2⟩ := inf_read h
  rw [Format.order, h1, max_read, h2 hw]
  rfl
theorem max_fin {w : Nat} (h : Fin w) : double.order w 9218868437227405311 ≠ some .gt := by
  obtain ⟨s, m, e, h1, h2, h3⟩ := fin_read h
  rw [Format.order, h1, max_read]
  simp only [Datum.order]
  intro hc
  injection hc with hc
  rw [Int.compare_eq_gt] at hc
  have e1 : min e 971 = e := by omega
  rw [e1] at hc
  simp only [signed, Int.sub_self, Int.toNat_zero, Nat.shiftLeft_zero, Bool.false_eq_true, if_false] at hc
  have h4 : (9007199254740991 : Nat) ≤ 9007199254740991 <<< (971 - e).toNat := by
    rw [Nat.shiftLeft_eq]
    exact Nat.le_mul_of_pos_right _ (Nat.two_pow_pos _)
  have h5 : (if s = true then (-(m : Int)) else (m : Int)) ≤ m := by split <;> omega
  omega
theorem log_lt {m k : Nat} (h0 : m ≠ 0) (h : m < 2 ^ k) : m.log2 < k := (Nat.log2_lt h0).2 h
theorem near_fin (s : Bool) (m : Nat) (e : Int) (hm : m < 16777216) (h1 : -149 ≤ e) (h2 : e ≤ 104) : Fin (double.nearest s m e) ∧ double.nearest s m e < 18446744073709551616 := by
  have hword : ∀ r, r < 9218868437227405312 → Fin (double.word s r) ∧ double.word s r < 18446744073709551616 := by
    intro r hr
    unfold Fin
    cases s
    · show r % 9223372036854775808 < _ ∧ r < _
      omega
    · show (9223372036854775808 + r) % 9223372036854775808 < _ ∧ 9223372036854775808 + r < _
      omega
  unfold Format.nearest
  by_cases h0 : m = 0
  · rw [if_pos h0]; exact hword 0 (by decide)
  · rw [if_neg h0]
    have hl : m.log2 < 24 := log_lt h0 hm
    have hlast : max (e + (m.log2 : Int) - (double.fractionBits : Nat)) double.leastPlace = e + m.log2 - 52 := by
      have : double.leastPlace = -1074 := rfl
      rw [this]
      show max (e + (m.log2 : Int) - 52) (-1074) = _
      omega
    simp only [hlast]
    have d1 : (e - (e + m.log2 - 52)).toNat = 52 - m.log2 := by omega
    have d2 : ((e + m.log2 - 52) - e).toNat = 0 := by omega
    rw [d1, d2]
    apply hword
    have hk : Toward.even.cut s (m <<< (52 - m.log2)) 0 = m <<< (52 - m.log2) := by
      simp [Toward.cut, Nat.mod_one]
    rw [hk]
    have hs : m <<< (52 - m.log2) < 9007199254740992 := by
      rw [Nat.shiftLeft_eq]
      have a1 : m < 2 ^ (m.log2 + 1) := Nat.lt_log2_self
      have a2 : m * 2 ^ (52 - m.log2) < 2 ^ (m.log2 + 1) * 2 ^ (52 - m.log2) := Nat.mul_lt_mul_of_pos_right a1 (Nat.two_pow_pos _)
      rw [← Nat.pow_add, show m.log2 + 1 + (52 - m.log2) = 53 by omega] at a2
      exact a2
    have d3 : (e + m.log2 - 52 - double.leastPlace).toNat ≤ 1149 := by
      have : double.leastPlace = -1074 := rfl
      rw [this]; omega
    have d4 : (e + m.log2 - 52 - double.leastPlace).toNat * 4503599627370496 ≤ 1149 * 4503599627370496 := Nat.mul_le_mul_right _ d3
    refine Nat.lt_of_le_of_lt (Nat.min_le_left _ _) ?_
    show (e + m.log2 - 52 - double.leastPlace).toNat * 4503599627370496 + _ < _
    omega
theorem andNot63 (a : BitVec 64) : (a &&& ~~~(9223372036854775808#64)).toNat = a.toNat % 9223372036854775808 := by
  rw [show (9223372036854775808 : Nat) = 2 ^ 63 from rfl]
  apply Nat.eq_of_testBit_eq
  intro i
  rw [Nat.testBit_mod_two_pow, BitVec.testBit_toNat, BitVec.testBit_toNat, BitVec.getLsbD_and, BitVec.getLsbD_not, show (BitVec.ofNat 64 (2 ^ 63)) = BitVec.twoPow 64 63 from by decide, BitVec.getLsbD_twoPow]
  by_cases h : i < 63
  · have h1 : ¬ 63 = i := by omega
    simp [h, h1, show i < 64 by omega]
  · by_cases h2 : i = 63
    · subst h2; simp
    · have h3 : ¬ i < 64 := by omega
      simp [h, h3]
theorem clear_sign (x : Nat) : (bits .andNot .u64 (x : Int) 9223372036854775808).toNat = x % 9223372036854775808 := by
  have e : bits .andNot .u64 (x : Int) 9223372036854775808 = IntKind.u64.wrap ((BitVec.ofInt 64 (x : Int) &&& ~~~(9223372036854775808#64)).toNat : Nat) := rfl
  rw [e, andNot63]
  have h : (BitVec.ofInt 64 (x : Int)).toNat = x % 18446744073709551616 := by
    rw [BitVec.ofInt_natCast, BitVec.toNat_ofNat]
  rw [h]
  have e1 : (2 ^ IntKind.u64.bits : Int) = 18446744073709551616 := by decide
  simp only [IntKind.wrap, e1, show IntKind.u64.signed = false from rfl, Bool.false_and, Bool.false_eq_true, if_false]
  omega
theorem conv_fin {w : Nat} (h : w % 2147483648 < 2139095040) : ∃ r, floatToFloatBits .f32 w .f64 = some r ∧ Fin r ∧ r < 18446744073709551616 := by
  have key : ∀ s m e, single.read w = .number s m e → m < 16777216 → -149 ≤ e → e ≤ 104 → ∃ r, floatToFloatBits .f32 w .f64 = some r ∧ Fin r ∧ r < 18446744073709551616 := by
    intro s m e h1 h2 h3 h4
    obtain ⟨k1, k2⟩ := near_fin s m e h2 h3 h4
    refine ⟨double.nearest s m e, ?_, k1, k2⟩
    have h1' : FloatKind.f32.decode w = .number s m e := h1
    have hi : (FloatKind.f64.decode (FloatKind.f64.encode (.number s m e))).isInfinity = false := by
      obtain ⟨s', m', e', q, _⟩ := fin_read k1
      show (double.read (double.nearest s m e)).isInfinity = false
      rw [q]; rfl
    unfold floatToFloatBits
    rw [if_neg (by decide), h1']
    simp only [hi, Bool.false_eq_true, if_false]
    rfl
  have hr := sread w
  by_cases h1 : w % 2147483648 < 8388608
  · rw [if_pos h1] at hr
    exact key _ _ _ hr (by omega) (by omega) (by omega)
  · rw [if_neg h1, if_pos h] at hr
    exact key _ _ _ hr (by omega) (by omega) (by omega)
theorem conv_inf {w : Nat} (h : w % 2147483648 = 2139095040) : ∃ r, floatToFloatBits .f32 w .f64 = some r ∧ Inf r ∧ r < 18446744073709551616 := by
  have hr := sread w
  rw [if_neg (by omega), if_neg (by omega), if_pos h] at hr
  generalize (w / 2147483648 % 2 == 1) = s at hr
  have hr' : FloatKind.f32.decode w = .infinity s := hr
  refine ⟨FloatKind.f64.encode (.infinity s), ?_, ?_⟩
  · unfold floatToFloatBits
    rw [if_neg (by decide), hr']
  · unfold Inf
    cases s <;> exact ⟨by decide, by decide⟩
theorem conv_nan {P : Program} {W : World} {w : Nat} (src dst : TypeId) (hs : (P.underlying src).isSome = true) (hd : P.underlying dst = some (.float .f64)) (h : 2139095040 < w % 2147483648) : ∃ r, (convert src dst (.float .f32 w)).run P W = .ok (.float .f64 r) W.drew ∧ NaN r ∧ r < 18446744073709551616 := by
  have hr := sread w
  rw [if_neg (by omega), if_neg (by omega), if_neg (by omega)] at hr
  have hr' : FloatKind.f32.decode w = _ := hr
  obtain ⟨u, hs'⟩ := Option.isSome_iff_exists.1 hs
  refine ⟨(Question.nanConv .f64 w).cut (W.tape W.drawn (.nanConv .f64 w)), ?_, ?_⟩
  · have hc : ∀ W : World, (Conv.floatToFloat .f32 w .f64).run P W = .ok (.float .f64 ((Question.nanConv .f64 w).cut (W.tape W.drawn (.nanConv .f64 w)))) W.drew := by
      intro W
      unfold Conv.floatToFloat
      rw [if_neg (by decide), hr']
      rfl
    cases u <;> simp only [convert, run_underlying hs', run_underlying hd, Sem.run_bind, Result.andThen_ok, hc]
  · simp only [Question.cut, NaN]
    generalize W.tape W.drawn (Question.nanConv FloatKind.f64 w) = t
    have hy : t / 2 % (2 ^ 52 - 1) < 4503599627370495 := Nat.mod_lt _ (by decide)
    generalize t / 2 % (2 ^ 52 - 1) = y at hy
    rcases Nat.mod_two_eq_zero_or_one t with h | h <;> rw [h] <;> constructor <;> omega
end Go.Fl

/- Chapter 04: which bits are those of a right float: the program's function, walked in the model. -/
set_option maxRecDepth 100000
set_option maxHeartbeats 4000000
namespace Go.Fl
open Go Ieee Go.Proofs Go.RowKit Go.Lib
theorem isNaN_in (x : Nat) (w : World) : Calls Tryz.prog 130 #[.float .f64 x] w fun e w' => e = .returned (.bool (double.order x x != some .eq)) ∧ w' = w := by
  go_enter Tryz.func130, Tryz.ntmps130
  go_wp2
  go_ret
  exact ⟨rfl, rfl⟩
theorem fbits_in (x : Nat) (w : World) : (callFunc 135 #[.float .f64 x]).run Tryz.prog w = .ok (.value (.int .u64 x)) w := by
  rw [run_callFunc_extern Tryz.func135 (by kernel_rfl) (by kernel_rfl) (by kernel_rfl) (e := Extern.MathFloatBits.float64bits) (by kernel_rfl)]
  rfl
theorem ffrom_in (x : Int) (w : World) : (callFunc 134 #[.int .u64 x]).run Tryz.prog w = .ok (.value (.float .f64 x.toNat)) w := by
  rw [run_callFunc_extern Tryz.func134 (by kernel_rfl) (by kernel_rfl) (by kernel_rfl) (e := Extern.MathFloatBits.float64frombits) (by kernel_rfl)]
  rfl
theorem f32_in (x : Int) (w : World) : (callFunc 129 #[.int .u32 x]).run Tryz.prog w = .ok (.value (.float .f32 x.toNat)) w := by
  rw [run_callFunc_extern Tryz.func129 (by kernel_rfl) (by kernel_rfl) (by kernel_rfl) (e := Extern.MathFloatBits.float32frombits) (by kernel_rfl)]
  rfl
theorem abs_in (x : Nat) (w : World) : Calls Tryz.prog 133 #[.float .f64 x] w fun e w' => e = .returned (.float .f64 (x % 9223372036854775808)) ∧ w' = w := by
  go_enter Tryz.func133, Tryz.ntmps133
  go_wp2_with (simp only [fbits_in, ffrom_in])
  go_ret
  exact ⟨by rw [← clear_sign]; rfl, rfl⟩
theorem isInf_in (x : Nat) (w : World) : Calls Tryz.prog 131 #[.float .f64 x, .int .i64 0] w fun e w' => e = .returned (.bool (double.order (x % 9223372036854775808) 9218868437227405311 == some .gt)) ∧ w' = w := by
  go_enter Tryz.func131, Tryz.ntmps131
  go_wp2_with (first | (go_at_call 133; refine (abs_in _ _).mono ?_; rintro e w1 ⟨rfl, rfl⟩))
  go_ret
  exact ⟨rfl, rfl⟩
theorem u32_of {b : Int} {v : Nat} (h : b % 4294967296 = v) : IntKind.u32.wrap b = (v : Int) := by
  have e1 : (2 ^ IntKind.u32.bits : Int) = 4294967296 := by decide
  simp only [IntKind.wrap, e1, show IntKind.u32.signed = false from rfl, Bool.false_and, Bool.false_eq_true, if_false]
  omega
theorem right_fin (b : Int) (v : Nat) (hv : b % 4294967296 = v) (w : World) (h : v % 2147483648 < 2139095040) : Calls Tryz.prog 126 #[.int .u64 b] w fun e w' => e = .returned (.bool ((v : Int) != 2147483648)) ∧ w' = w := by
  obtain ⟨r, hr, hF, _⟩ := conv_fin h
  have hc : ∀ W, (convert 172 171 (.float .f32 v)).run Tryz.prog W = .ok (.float .f64 r) W := fun W => run_convert_float_float W _ _ _ _ _ _ (by kernel_rfl) (by kernel_rfl) hr
  have hN := self_fin hF
  have hI : double.order (r % 9223372036854775808) 9218868437227405311 ≠ some .gt := max_fin (by unfold Fin at hF ⊢; omega)
  have hI' : (double.order (r % 9223372036854775808) 9218868437227405311 == some .gt) = false := by simpa using hI
  have hN' : (double.order r r != some .eq) = false := by rw [hN]; rfl
  have hu := u32_of hv
  clear hr hF hI hN
  go_enter Tryz.func126, Tryz.ntmps126
  go_wp2_with (first | (simp only [f32_in, hu, Int.toNat_natCast, hc]) | (go_at_call 130; refine (isNaN_in _ _).mono ?_; rintro e w1 ⟨rfl, rfl⟩; rw [hN']) | (go_at_call 131; refine (isInf_in _ _).mono ?_; rintro e w1 ⟨rfl, rfl⟩; rw [hI']))
  go_ret
  exact ⟨rfl, rfl⟩
theorem right_inf (b : Int) (v : Nat) (hv : b % 4294967296 = v) (w : World) (h : v % 2147483648 = 2139095040) : Calls Tryz.prog 126 #[.int .u64 b] w fun e w' => e = .returned (.bool false) ∧ w' = w := by
  obtain ⟨r, hr, hF, _⟩ := conv_inf h
  have hc : ∀ W, (convert 172 171 (.float .f32 v)).run Tryz.prog W = .ok (.float .f64 r) W := fun W => run_convert_float_float W _ _ _ _ _ _ (by kernel_rfl) (by kernel_rfl) hr
  have hN := self_inf hF
  have hI : double.order (r % 9223372036854775808) 9218868437227405311 = some .gt := max_inf (by unfold Inf at hF ⊢; omega) (Nat.mod_lt _ (by decide))
  have hI' : (double.order (r % 9223372036854775808) 9218868437227405311 == some .gt) = true := by simpa using hI
  have hN' : (double.order r r != some .eq) = false := by rw [hN]; rfl
  have hu := u32_of hv
  clear hr hF hI hN
  go_enter Tryz.func126, Tryz.ntmps126
  go_wp2_with (first | (simp only [f32_in, hu, Int.toNat_natCast, hc]) | (go_at_call 130; refine (isNaN_in _ _).mono ?_; rintro e w1 ⟨rfl, rfl⟩; rw [hN']) | (go_at_call 131; refine (isInf_in _ _).mono ?_; rintro e w1 ⟨rfl, rfl⟩; rw [hI']))
  go_ret
  exact ⟨rfl, rfl⟩
theorem right_nan (b : Int) (v : Nat) (hv : b % 4294967296 = v) (w : World) (h : 2139095040 < v % 2147483648) : Calls Tryz.prog 126 #[.int .u64 b] w fun e w' => e = .returned (.bool false) ∧ w' = w.drew := by
  obtain ⟨r, hc, hF, _⟩ := conv_nan (P := Tryz.prog) (W := w) 172 171 (by kernel_rfl) (by kernel_rfl) h
  have hN := self_nan hF
  have hN' : (double.order r r != some .eq) = true := by rw [hN]; rfl
  have hu := u32_of hv
  clear hF hN
  go_enter Tryz.func126, Tryz.ntmps126
  go_wp2_with (first | (simp only [f32_in, hu, Int.toNat_natCast, hc]) | (go_at_call 130; refine (isNaN_in _ _).mono ?_; rintro e w1 ⟨rfl, rfl⟩; rw [hN']))
  go_ret
  exact ⟨rfl, rfl⟩
theorem right_in (b : Int) (w : World) : Calls Tryz.prog 126 #[.int .u64 b] w fun e w' => e = .returned (.bool (Vm.rfOk b)) ∧ (w' = w ∨ w' = w.drew) := by
  obtain ⟨v, hv⟩ : ∃ v : Nat, b % 4294967296 = v := ⟨(b % 4294967296).toNat, by omega⟩
  have hv2 : v < 4294967296 := by omega
  have hr : Vm.rfOk b = (decide ((v : Int) / 8388608 % 256 ≠ 255) && decide ((v : Int) ≠ 2147483648)) := by
    unfold Vm.rfOk; rw [hv]
  rcases Nat.lt_trichotomy (v % 2147483648) 2139095040 with h | h | h
  · refine (right_fin b v hv w h).mono fun e w' ⟨h1, h2⟩ => ⟨?_, .inl h2⟩
    have e1 : (v : Int) / 8388608 % 256 ≠ 255 := by omega
    rw [h1, hr, decide_eq_true e1, Bool.true_and]
    by_cases h3 : (v : Int) = 2147483648
    · simp [h3]
    · simp [h3]
  · refine (right_inf b v hv w h).mono fun e w' ⟨h1, h2⟩ => ⟨?_, .inl h2⟩
    have e1 : ¬ ((v : Int) / 8388608 % 256 ≠ 255) := by omega
    rw [h1, hr, decide_eq_false e1, Bool.false_and]
  · refine (right_nan b v hv w h).mono fun e w' ⟨h1, h2⟩ => ⟨?_, .inr h2⟩
    have e1 : ¬ ((v : Int) / 8388608 % 256 ≠ 255) := by omega
    rw [h1, hr, decide_eq_false e1, Bool.false_and]
end Go.Fl

/- Chapter 04: the machine's calls are the model's calls. -/
set_option maxRecDepth 100000
namespace Go.Vm.P4Z
open Go Go.Vm Go.Vm.P4 Go.Proofs Go.Shelf Go.Proofs.YtgbmhofpndjdoaaGreatDoor
def renI : Ren := ⟨fun n => match n with | 21 => 93 | 27 => 121 | 28 => 122 | 35 => 128 | 39 => 132 | k => k, fun n => match n with | 22 => 24 | k => k, fun x => x⟩
theorem lays21 : Lays2.n21 Tryz.prog renI where
  mixed := by kernel_rfl
  f21 := by kernel_rfl
  f27 := by kernel_rfl
  f28 := by kernel_rfl
  f35 := by kernel_rfl
  f39 := by kernel_rfl
  t0 := Tryz.underlying0
  a0 := Tryz.isAgg0
  z0 := Tryz.sizeOf0
  v0 := Tryz.zeroValue0
  t3 := Tryz.underlying3
  a3 := Tryz.isAgg3
  z3 := Tryz.sizeOf3
  v3 := Tryz.zeroValue3
  t4 := Tryz.underlying4
  a4 := Tryz.isAgg4
  z4 := Tryz.sizeOf4
  v4 := Tryz.zeroValue4
  t22 := Tryz.underlying24
  a22 := Tryz.isAgg24
  z22 := Tryz.sizeOf24
  v22 := Tryz.zeroValue24
  i3 := by kernel_rfl
theorem ins_entry : Entry Tryz.prog 93 := fn_entry Tryz.func93 (by kernel_rfl) (by kernel_rfl)
theorem follows : Tryz.prog.follows .mixedOrders = true := by kernel_rfl
theorem rf_ok : PrimOk Tryz.prog glob 126 rfPrim := by
  refine ⟨fn_entry Tryz.func126 (by kernel_rfl) (by kernel_rfl), ?_⟩
  intro args st v st' m F L W vs hg R up hsz hr
  unfold rfPrim at hg
  split at hg
  · rename_i k b
    split at hg
    · rename_i hk
      subst hk
      simp only [Option.some.injEq, Prod.mk.injEq] at hg
      obtain ⟨rfl, rfl⟩ := hg
      have r0 := hr 0 _ rfl
      have e1 : vs = #[vs.getD 0 undef] := by
        have h1 : vs.size = 1 := hsz
        apply Array.ext
        · simp [h1]
        · intro j h2 h3
          have : j = 0 := by omega
          subst this
          simp [Array.getD_eq_getD_getElem?, h2]
      rw [e1]
      generalize vs.getD 0 undef = x0 at r0 ⊢
      cases r0 with
      | imm _ _ h =>
      cases h
      refine callsIn_wide.2 ((Fl.right_in b W).mono fun e w ⟨h1, h2⟩ => ?_)
      rcases h2 with rfl | rfl
      · exact ⟨_, m, F, h1, Grow.refl _ m F _, R, up, .imm _ _ (.bool _), fun b h => .inl h, fun i b h => .inl ⟨i, h⟩⟩
      · have T := tr_drewn (own m (sto st)) W
        exact ⟨_, m, F, h1, ⟨fun _ _ h => h, fun _ h => h, fun _ h => .inl h, T⟩,
          Rel.mono R (tr_drewn (fun _ => False) W) (fun _ _ h => h) R.hm (fun _ h => h) R.hF (fun _ _ _ _ h => h) (fun _ _ h => h) R.nF, up, .imm _ _ (.bool _), fun b h => .inl h, fun i b h => .inl ⟨i, h⟩⟩
    · cases hg
  · cases hg
theorem prims_ok : ∀ f g, E.prim f = some g → PrimOk Tryz.prog glob f g := by
  intro f g h
  change (if f = 93 then some insPrim else if f = 126 then some rfPrim else none) = some g at h
  split at h
  · rename_i e
    subst e
    injection h with h
    subst h
    exact ins_ok (ρ := renI) lays21 ins_entry
  · split at h
    · rename_i e
      subst e
      injection h with h
      subst h
      exact rf_ok
    · cases h
theorem lev (n : Nat) (p : XP) : LowerOk Tryz.prog glob (XC Tryz.prog glob p) (level E n) := level_okP E follows fns_ok prims_ok n p
theorem call_ok {n : Nat} {f : FuncId} {ds : List D} {d : D} {vs : Array Value} {W : World} (p : XP) (h : callP (level E n) f ds = some d) (hw : laidMetH Tryz.prog laidW W) (hs : vs.size = ds.length) (hr : ∀ j d, ds[j]? = some d → RepD (Old W) W d (vs.getD j undef)) :
    Calls Tryz.prog f vs W fun e w => ∃ r F, e = .returned r ∧ Tr (fun _ => False) W w ∧ RepD F w d r := by
  have R : Rel glob (fun _ => none) (Old W) none W (fun _ => AO.dead) :=
    ⟨glob_ok hw, fun i h => absurd rfl h, fun i j b h => by simp [lv] at h, fun i b h => by simp [lv] at h, fun b h => h, fun i b h => by cases h⟩
  exact (callsIn_wide.1 (callP_core (lev n p) h R (fun b h => h) (fun b h => h) hs hr)).mono fun e w ⟨r, F2, h1, h2, _, _, _, h3⟩ => ⟨r, F2, h1, h2, h3⟩
end Go.Vm.P4Z

/- Chapter 04: what the rows and cards of the laws share. -/
set_option maxRecDepth 100000
namespace Go.Proofs.YtgbmhofpndjdoaaGreatDoor
open Go Go.Vm Go.Vm.P4 Go.Vm.P4Z Go.ChangeShapes Go.WideShapes Go.ChangeAt Go.RowKit
theorem ownT : ownKnob Tryz.prog.godebug = none := by kernel_rfl
theorem laidOutT : laidOutB Tryz.prog = true := by kernel_rfl
theorem door_met (os : Os) (args : Array Value) : laidMetH Tryz.prog laidW ((World.doorLaid Tryz.prog 2000 os).forCall (fun _ _ => 0) ⟨#[], args, []⟩).memory :=
  laidMetH_of_parts3 (fuel := 8) (laidMet_of_run' 8 (by kernel_rfl) (by kernel_rfl)) (by kernel_rfl) (by kernel_rfl)
theorem below_of {W w : World} (h : Tr (fun _ => False) W w) : Below W.heap.size W w := ⟨h.os, h.tape, h.output, h.size, fun b hb => h.keep b hb (fun h => h)⟩
theorem bool_of {F : Nat → Prop} {w : World} {b : Bool} {r : Value} (h : RepD F w (.bool b) r) : r = .bool b := by cases h; rfl
def anyXP : XP := ⟨fun _ => none, 0, 0, [], { own := false, dyn := .pure, md := [] }, #[]⟩
end Go.Proofs.YtgbmhofpndjdoaaGreatDoor

/- Chapter 04, functions: numbers, ranges, boxes. -/
set_option maxRecDepth 100000
set_option maxHeartbeats 1000000
namespace Go.Vm.P4Z
open Go Go.Vm Go.Vm.P4
theorem okWhen (n : Nat) (b : Bool) (x : Int) : callP (level E (n+1)) 64 [.bool b, .int .i64 x] = some (.int .i64 (if b then x else 0)) := by
  rw [p64]
  cases b <;> simp only [go_sem, Nat.reduceAdd, Nat.reduceSub, Nat.reduceMul, Nat.reduceDiv, Nat.reduceMod, Nat.reduceLeDiff, Nat.reduceLT, Nat.reduceBEq, Int.reduceToNat, Int.reduceLT, Int.reduceLE, Int.reduceEq, Bool.false_eq_true]
theorem okNwhen (n : Nat) (b : Bool) (x : Int) : callP (level E (n+1)) 113 [.bool b, .int .i64 x] = some (.int .i64 (if b then x else 0)) := by
  rw [p113]
  cases b <;> simp only [go_sem, Nat.reduceAdd, Nat.reduceSub, Nat.reduceMul, Nat.reduceDiv, Nat.reduceMod, Nat.reduceLeDiff, Nat.reduceLT, Nat.reduceBEq, Int.reduceToNat, Int.reduceLT, Int.reduceLE, Int.reduceEq, Bool.false_eq_true]
theorem okWithin (n : Nat) (x a b : Int) : callP (level E (n+1)) 67 [.int .i64 x, .int .i64 a, .int .i64 b] = some (.bool (decide (x ≥ a) && decide (x ≤ b))) := by
  rw [p67]
  by_cases h : x ≥ a <;> simp only [go_sem, Nat.reduceAdd, Nat.reduceSub, Nat.reduceMul, Nat.reduceDiv, Nat.reduceMod, Nat.reduceLeDiff, Nat.reduceLT, Nat.reduceBEq, Int.reduceToNat, Int.reduceLT, Int.reduceLE, Int.reduceEq, h]
theorem okFirst (n : Nat) (b : Bool) (l : List Int) (hl : l.length < 1000000000) : callP (level E (n+1)) 65 [slD b 1 (l.map ic)] = some (.int .i64 (fnz l)) := by
  rw [p65]
  simp only [go_sem, Nat.reduceAdd, Nat.reduceSub, Nat.reduceMul, Nat.reduceDiv, Nat.reduceMod, Nat.reduceLeDiff, Nat.reduceLT, Nat.reduceBEq, Int.reduceToNat, Int.reduceLT, Int.reduceLE, Int.reduceEq]
  have h := loop_run (f := aCode (level E (n)) ⟨0, false⟩ b65_0) (h := head ⟨0, false⟩ [0, 0, 0, 1, 1, 1, 0, 0]) (Φ := outC ⟨0, false⟩ [0, 1, 0, 0, 0, 0, 0, 0]) l (fun (_ : Unit) i => ⟨[.junk, .junk, .junk, .imm (slD b 1 (l.map ic)), .imm (.int .i64 l.length), .imm (.int .i64 i), .junk, .junk], [], none⟩) (fun _ _ => True)
    (fun _ x => if x = 0 then .inl () else .inr (some (.ret, ⟨[.junk, .imm (.int .i64 x), .junk, .junk, .junk, .junk, .junk, .junk], [], none⟩))) (fun _ => some (.exit 0, ⟨[.junk, .junk, .junk, .junk, .junk, .junk, .junk, .junk], [], none⟩)) () trivial
    (fun _ i x _ h2 h1 => ⟨by
      rw [rnd_eq]
      by_cases h0 : x = 0
      · subst h0
        simp only [go_sem, Nat.reduceAdd, Nat.reduceSub, Nat.reduceMul, Nat.reduceDiv, Nat.reduceMod, Nat.reduceLeDiff, Nat.reduceLT, Nat.reduceBEq, Int.reduceToNat, Int.reduceLT, Int.reduceLE, Int.reduceEq, lt_t h2, h1, ne_eq, not_true_eq_false]
        rw [wrpS (by omega)]
      · simp only [go_sem, Nat.reduceAdd, Nat.reduceSub, Nat.reduceMul, Nat.reduceDiv, Nat.reduceMod, Nat.reduceLeDiff, Nat.reduceLT, Nat.reduceBEq, Int.reduceToNat, Int.reduceLT, Int.reduceLE, Int.reduceEq, lt_t h2, h1, ne_eq, h0, not_false_eq_true], fun _ _ => trivial⟩)
    (fun _ _ => by
      rw [rnd_eq]
      simp only [go_sem, Nat.reduceAdd, Nat.reduceSub, Nat.reduceMul, Nat.reduceDiv, Nat.reduceMod, Nat.reduceLeDiff, Nat.reduceLT, Nat.reduceBEq, Int.reduceToNat, Int.reduceLT, Int.reduceLE, Int.reduceEq, lt_f (Nat.le_refl _)])
  rw [cast_0] at h
  rw [h]
  clear h hl
  induction l with
  | nil => simp only [go_sem, Nat.reduceAdd, Nat.reduceSub, Nat.reduceMul, Nat.reduceDiv, Nat.reduceMod, Nat.reduceLeDiff, Nat.reduceLT, Nat.reduceBEq, Int.reduceToNat, Int.reduceLT, Int.reduceLE, Int.reduceEq, runL_nil, fnz]
  | cons x r ih =>
    by_cases h0 : x = 0
    · simp only [runL_cons, h0, if_true, fnz]; exact ih
    · simp only [go_sem, Nat.reduceAdd, Nat.reduceSub, Nat.reduceMul, Nat.reduceDiv, Nat.reduceMod, Nat.reduceLeDiff, Nat.reduceLT, Nat.reduceBEq, Int.reduceToNat, Int.reduceLT, Int.reduceLE, Int.reduceEq, runL_cons, h0, fnz]
theorem okMany (n : Nat) (b : Bool) (l : Bx) (hl : l.length < 1000000000) : callP (level E (n+1)) 70 [enB b l] = some (.int .i64 (many l)) := by
  rw [p70]
  simp only [go_sem, Nat.reduceAdd, Nat.reduceSub, Nat.reduceMul, Nat.reduceDiv, Nat.reduceMod, Nat.reduceLeDiff, Nat.reduceLT, Nat.reduceBEq, Int.reduceToNat, Int.reduceLT, Int.reduceLE, Int.reduceEq]
  have h := loop_fold (f := aCode (level E (n)) ⟨0, false⟩ b70_0) (h := head ⟨0, false⟩ [0, 0, 1, 0, 1, 1, 1, 0]) (Φ := outC ⟨0, false⟩ [0, 0, 1, 0, 0, 0, 0, 0]) l (fun (a : Int) i => ⟨[.junk, .junk, .imm (.int .i64 a), .junk, .imm (slD b 2 (l.map enR)), .imm (.int .i64 l.length), .imm (.int .i64 i), .junk], [], none⟩) (fun _ _ => True)
    (fun a x => ml a x.ex) (fun a => some (.exit 0, ⟨[.junk, .junk, .imm (.int .i64 a), .junk, .junk, .junk, .junk, .junk], [], none⟩)) 1 trivial
    (fun a i x _ h2 h1 => ⟨by
      rw [rnd_eq]
      simp only [go_sem, Nat.reduceAdd, Nat.reduceSub, Nat.reduceMul, Nat.reduceDiv, Nat.reduceMod, Nat.reduceLeDiff, Nat.reduceLT, Nat.reduceBEq, Int.reduceToNat, Int.reduceLT, Int.reduceLE, Int.reduceEq, lt_t h2, h1, ml]
      rw [wrpS (by omega)], trivial⟩)
    (fun _ _ => by
      rw [rnd_eq]
      simp only [go_sem, Nat.reduceAdd, Nat.reduceSub, Nat.reduceMul, Nat.reduceDiv, Nat.reduceMod, Nat.reduceLeDiff, Nat.reduceLT, Nat.reduceBEq, Int.reduceToNat, Int.reduceLT, Int.reduceLE, Int.reduceEq, lt_f (Nat.le_refl _)])
  rw [cast_0] at h
  rw [h]
  simp only [go_sem, Nat.reduceAdd, Nat.reduceSub, Nat.reduceMul, Nat.reduceDiv, Nat.reduceMod, Nat.reduceLeDiff, Nat.reduceLT, Nat.reduceBEq, Int.reduceToNat, Int.reduceLT, Int.reduceLE, Int.reduceEq, many]
def strides : Int → Bx → List Int
  | _, [] => []
  | n, r :: b => n :: strides (ml n r.ex) b
theorem strides_len : ∀ (n : Int) (b : Bx), (strides n b).length = b.length
  | _, [] => rfl
  | n, r :: b => by simp only [strides, List.length_cons, strides_len _ b]
theorem strides_fold : ∀ (b : Bx) (acc : List Int) (n : Int), (b.foldl (fun (p : List Int × Int) r => (p.1 ++ [p.2], ml p.2 r.ex)) (acc, n)).1 = acc ++ strides n b
  | [], acc, n => by simp [strides]
  | r :: b, acc, n => by simp only [List.foldl_cons, strides_fold b, strides, List.append_assoc, List.cons_append, List.nil_append]
theorem okDense (n : Nat) (b : Bool) (l : Bx) (hl : l.length < 1000000000) : callP (level E (n+1)) 69 [enB b l] = some (slD true 1 ((strides 1 l).map ic)) := by
  rw [p69]
  simp only [go_sem, Nat.reduceAdd, Nat.reduceSub, Nat.reduceMul, Nat.reduceDiv, Nat.reduceMod, Nat.reduceLeDiff, Nat.reduceLT, Nat.reduceBEq, Int.reduceToNat, Int.reduceLT, Int.reduceLE, Int.reduceEq]
  have h := loop_fold (f := aCode (level E (n)) ⟨0, false⟩ b69_0) (h := head ⟨0, false⟩ [0, 0, 1, 1, 0, 1, 1, 1, 0]) (Φ := outC ⟨0, false⟩ [0, 0, 1, 0, 0, 0, 0, 0, 0]) l (fun (a : List Int × Int) i => ⟨[.junk, .junk, vK 0 1 (a.1.map ic), .imm (.int .i64 a.2), .junk, .imm (slD b 2 (l.map enR)), .imm (.int .i64 l.length), .imm (.int .i64 i), .junk], oK 1 (a.1.map ic), none⟩) (fun a i => a.1.length = i)
    (fun a x => (a.1 ++ [a.2], ml a.2 x.ex)) (fun a => some (.exit 0, ⟨[.junk, .junk, vK 0 1 (a.1.map ic), .junk, .junk, .junk, .junk, .junk, .junk], oK 1 (a.1.map ic), none⟩)) ([], 1) rfl
    (fun a i x hI h2 h1 => ⟨by
      rw [rnd_eq]
      have e1 : (a.1.length + 1) * 9 ≤ 70368744177664 := by omega
      rcases a with ⟨_ | ⟨y, t⟩, m⟩
      · simp only [go_sem, Nat.reduceAdd, Nat.reduceSub, Nat.reduceMul, Nat.reduceDiv, Nat.reduceMod, Nat.reduceLeDiff, Nat.reduceLT, Nat.reduceBEq, Int.reduceToNat, Int.reduceLT, Int.reduceLE, Int.reduceEq, lt_t h2, h1, ml, vK, oK]
        rw [wrpS (by omega)]
      · simp only [List.length_cons] at e1
        simp only [go_sem, Nat.reduceAdd, Nat.reduceSub, Nat.reduceMul, Nat.reduceDiv, Nat.reduceMod, Nat.reduceLeDiff, Nat.reduceLT, Nat.reduceBEq, Int.reduceToNat, Int.reduceLT, Int.reduceLE, Int.reduceEq, lt_t h2, h1, ml, vK, oK, e1]
        rw [wrpS (by omega)], by simp [hI]⟩)
    (fun a _ => by
      rw [rnd_eq]
      rcases a with ⟨_ | ⟨y, t⟩, m⟩ <;> simp only [go_sem, Nat.reduceAdd, Nat.reduceSub, Nat.reduceMul, Nat.reduceDiv, Nat.reduceMod, Nat.reduceLeDiff, Nat.reduceLT, Nat.reduceBEq, Int.reduceToNat, Int.reduceLT, Int.reduceLE, Int.reduceEq, lt_f (Nat.le_refl _), vK, oK])
  rw [cast_0] at h
  simp only [List.map_nil, vK, oK] at h
  rw [h]
  generalize hA : (l.foldl (fun (a : List Int × Int) (x : Rg) => (a.1 ++ [a.2], ml a.2 x.ex)) ([], 1)).1 = A
  have e := strides_fold l [] 1
  rw [hA, List.nil_append] at e
  rw [← e]
  rcases A with _ | ⟨y, t⟩ <;> simp only [go_sem, Nat.reduceAdd, Nat.reduceSub, Nat.reduceMul, Nat.reduceDiv, Nat.reduceMod, Nat.reduceLeDiff, Nat.reduceLT, Nat.reduceBEq, Int.reduceToNat, Int.reduceLT, Int.reduceLE, Int.reduceEq, vK, oK, slD]
def hasB : Bx → List Int → Bool
  | r :: b, x :: p => if x < r.lo ∨ x ≥ ad r.lo r.ex then false else hasB b p
  | _, _ => true
theorem okHas0 (n : Nat) (b c : Bool) (l : Bx) (p : List Int) (hl : l.length < 1000000000) (hp : l.length ≤ p.length) : callP (level E (n+1)) 109 [enB b l, slD c 1 (p.map ic)] = some (.bool (hasB l p)) := by
  rw [p109]
  simp only [go_sem, Nat.reduceAdd, Nat.reduceSub, Nat.reduceMul, Nat.reduceDiv, Nat.reduceMod, Nat.reduceLeDiff, Nat.reduceLT, Nat.reduceBEq, Int.reduceToNat, Int.reduceLT, Int.reduceLE, Int.reduceEq]
  have h := loop_run (f := aCode (level E (n)) ⟨0, false⟩ b109_0) (h := head ⟨0, false⟩ [0, 1, 0, 0, 0, 1, 1, 1, 0, 0]) (Φ := outC ⟨0, false⟩ [0, 0, 1, 0, 0, 0, 0, 0, 0, 0]) l (fun (_ : List Int) i => ⟨[.junk, .imm (slD c 1 (p.map ic)), .junk, .junk, .junk, .imm (slD b 2 (l.map enR)), .imm (.int .i64 l.length), .imm (.int .i64 i), .junk, .junk], [], none⟩) (fun a i => p.drop i = a)
    (fun a r => match a with | [] => .inl [] | x :: t => if x < r.lo ∨ x ≥ ad r.lo r.ex then .inr (some (.ret, ⟨[.junk, .junk, .imm (.bool false), .junk, .junk, .junk, .junk, .junk, .junk, .junk], [], none⟩)) else .inl t) (fun _ => some (.exit 0, ⟨[.junk, .junk, .junk, .junk, .junk, .junk, .junk, .junk, .junk, .junk], [], none⟩)) p rfl
    (fun a i r hI h2 h1 => by
      rcases a with _ | ⟨x, t⟩
      · have := drop_n hI; omega
      obtain ⟨q1, q2, q3⟩ := drop_c hI
      refine ⟨?_, fun t' ht => ?_⟩
      · rw [rnd_eq]
        by_cases k1 : x < r.lo
        · simp only [go_sem, Nat.reduceAdd, Nat.reduceSub, Nat.reduceMul, Nat.reduceDiv, Nat.reduceMod, Nat.reduceLeDiff, Nat.reduceLT, Nat.reduceBEq, Int.reduceToNat, Int.reduceLT, Int.reduceLE, Int.reduceEq, lt_t h2, h1, q1, k1, true_or]
        · by_cases k2 : x ≥ ad r.lo r.ex
          · have k3 : wrp .i64 (r.lo + r.ex) ≤ x := k2
            simp only [go_sem, Nat.reduceAdd, Nat.reduceSub, Nat.reduceMul, Nat.reduceDiv, Nat.reduceMod, Nat.reduceLeDiff, Nat.reduceLT, Nat.reduceBEq, Int.reduceToNat, Int.reduceLT, Int.reduceLE, Int.reduceEq, lt_t h2, h1, q1, k1, k2, k3, or_true]
          · have k3 : ¬ wrp .i64 (r.lo + r.ex) ≤ x := k2
            simp only [go_sem, Nat.reduceAdd, Nat.reduceSub, Nat.reduceMul, Nat.reduceDiv, Nat.reduceMod, Nat.reduceLeDiff, Nat.reduceLT, Nat.reduceBEq, Int.reduceToNat, Int.reduceLT, Int.reduceLE, Int.reduceEq, lt_t h2, h1, q1, k1, k2, k3, or_self]
            rw [wrpS (by omega)]
      · dsimp only at ht
        split at ht
        · cases ht
        · injection ht with ht; rw [← ht]; exact q3)
    (fun _ _ => by
      rw [rnd_eq]
      simp only [go_sem, Nat.reduceAdd, Nat.reduceSub, Nat.reduceMul, Nat.reduceDiv, Nat.reduceMod, Nat.reduceLeDiff, Nat.reduceLT, Nat.reduceBEq, Int.reduceToNat, Int.reduceLT, Int.reduceLE, Int.reduceEq, lt_f (Nat.le_refl _)])
  rw [cast_0] at h
  rw [h]
  clear h hl
  induction l generalizing p with
  | nil => simp only [go_sem, Nat.reduceAdd, Nat.reduceSub, Nat.reduceMul, Nat.reduceDiv, Nat.reduceMod, Nat.reduceLeDiff, Nat.reduceLT, Nat.reduceBEq, Int.reduceToNat, Int.reduceLT, Int.reduceLE, Int.reduceEq, runL_nil, hasB]
  | cons r l ih =>
    rcases p with _ | ⟨x, t⟩
    · simp at hp
    by_cases k : x < r.lo ∨ x ≥ ad r.lo r.ex
    · simp only [go_sem, Nat.reduceAdd, Nat.reduceSub, Nat.reduceMul, Nat.reduceDiv, Nat.reduceMod, Nat.reduceLeDiff, Nat.reduceLT, Nat.reduceBEq, Int.reduceToNat, Int.reduceLT, Int.reduceLE, Int.reduceEq, runL_cons, hasB, k]
    · simp only [runL_cons, hasB, k, if_false]
      exact ih t (by simpa using hp)
def enP (p : List Int) : D := .agg (p.map (.int .i64 ·))
def elt : Bx → List Int → List Int → Int → Int
  | r :: b, x :: p, s :: t, n => elt b p t (ad n (ml (sb x r.lo) s))
  | _, _, _, n => n
theorem sg_map (p : List Int) : ((p.map (D.int .i64 ·)).map AV.imm).all single = true := by simp [single]
theorem elt_fold : ∀ (l : Bx) (p s : List Int) (m : Int), l.length ≤ p.length → l.length ≤ s.length → (l.foldl (fun (a : List Int × List Int × Int) r => (a.1.tail, a.2.1.tail, ad a.2.2 (ml (sb (a.1.headD 0) r.lo) (a.2.1.headD 0)))) (p, s, m)).2.2 = elt l p s m
  | [], _, _, _, _, _ => by simp [elt]
  | r :: l, [], _, _, h, _ => by simp at h
  | r :: l, _ :: _, [], _, _, h => by simp at h
  | r :: l, x :: p, y :: s, m, h1, h2 => by
    simp only [List.foldl_cons, List.tail_cons, List.headD_cons, elt]
    exact elt_fold l p s _ (by simpa using h1) (by simpa using h2)
theorem okElement (n : Nat) (b c : Bool) (l : Bx) (s p : List Int) (hl : l.length ≤ 3) (hs : l.length ≤ s.length) (hp : p.length = 3) : callP (level E (n+1)) 100 [enB b l, slD c 1 (s.map ic), enP p] = some (.int .i64 (elt l p s 0)) := by
  rw [p100]
  simp only [go_sem, Nat.reduceAdd, Nat.reduceSub, Nat.reduceMul, Nat.reduceDiv, Nat.reduceMod, Nat.reduceLeDiff, Nat.reduceLT, Nat.reduceBEq, Int.reduceToNat, Int.reduceLT, Int.reduceLE, Int.reduceEq, enP, sg_map]
  have h := loop_fold (f := aCode (level E (n)) ⟨0, false⟩ b100_0) (h := head ⟨0, false⟩ [0, 1, 0, 0, 1, 1, 0, 0, 1, 1, 1, 0]) (Φ := outC ⟨0, false⟩ [0, 0, 0, 0, 0, 1, 0, 0, 0, 0, 0, 0]) l (fun (a : List Int × List Int × Int) i => ⟨[.junk, .imm (slD c 1 (s.map ic)), .junk, .junk, .imm (.ptr (p.map (.int .i64 ·))), .imm (.int .i64 a.2.2), .junk, .junk, .imm (slD b 2 (l.map enR)), .imm (.int .i64 l.length), .imm (.int .i64 i), .junk], [], none⟩) (fun a i => p.drop i = a.1 ∧ s.drop i = a.2.1)
    (fun a r => (a.1.tail, a.2.1.tail, ad a.2.2 (ml (sb (a.1.headD 0) r.lo) (a.2.1.headD 0)))) (fun a => some (.exit 0, ⟨[.junk, .junk, .junk, .junk, .junk, .imm (.int .i64 a.2.2), .junk, .junk, .junk, .junk, .junk, .junk], [], none⟩)) (p, s, 0) ⟨rfl, rfl⟩
    (fun a i r hI h2 h1 => by
      rcases a with ⟨_ | ⟨x, t⟩, _ | ⟨y, u⟩, m⟩
      · have := drop_n hI.1; omega
      · have := drop_n hI.1; omega
      · have := drop_n hI.2; omega
      obtain ⟨q1, q2, q3⟩ := drop_c hI.1
      obtain ⟨u1, u2, u3⟩ := drop_c hI.2
      refine ⟨?_, q3, u3⟩
      rw [rnd_eq]
      have q4 : (p.map (D.int .i64 ·))[i]? = some (.int .i64 x) := by simp [q1]
      have k1 : i < 3 := by omega
      simp only [go_sem, Nat.reduceAdd, Nat.reduceSub, Nat.reduceMul, Nat.reduceDiv, Nat.reduceMod, Nat.reduceLeDiff, Nat.reduceLT, Nat.reduceBEq, Int.reduceToNat, Int.reduceLT, Int.reduceLE, Int.reduceEq, lt_t h2, h1, q1, u1, k1, q4]
      rw [wrpS (by omega)]
      rfl)
    (fun _ _ => by
      rw [rnd_eq]
      simp only [go_sem, Nat.reduceAdd, Nat.reduceSub, Nat.reduceMul, Nat.reduceDiv, Nat.reduceMod, Nat.reduceLeDiff, Nat.reduceLT, Nat.reduceBEq, Int.reduceToNat, Int.reduceLT, Int.reduceLE, Int.reduceEq, lt_f (Nat.le_refl _)])
  rw [cast_0] at h
  rw [h]
  simp only [go_sem, Nat.reduceAdd, Nat.reduceSub, Nat.reduceMul, Nat.reduceDiv, Nat.reduceMod, Nat.reduceLeDiff, Nat.reduceLT, Nat.reduceBEq, Int.reduceToNat, Int.reduceLT, Int.reduceLE, Int.reduceEq]
  rw [elt_fold l p s 0 (by omega) hs]
def rmeet (a b : Rg) : Rg := ⟨max a.lo b.lo, max (sb (min (ad a.lo a.ex) (ad b.lo b.ex)) (max a.lo b.lo)) 0⟩
def rspan (a b : Rg) : Rg := ⟨min a.lo b.lo, sb (max (ad a.lo a.ex) (ad b.lo b.ex)) (min a.lo b.lo)⟩
theorem okMeet (n : Nat) (a b : Rg) : callP (level E (n+1)) 89 [enRD a, enRD b] = some (enRD (rmeet a b)) := by
  rw [p89]
  simp only [go_sem, Nat.reduceAdd, Nat.reduceSub, Nat.reduceMul, Nat.reduceDiv, Nat.reduceMod, Nat.reduceLeDiff, Nat.reduceLT, Nat.reduceBEq, Int.reduceToNat, Int.reduceLT, Int.reduceLE, Int.reduceEq, rmeet, ad, sb]
theorem okSpan (n : Nat) (a b : Rg) : callP (level E (n+1)) 111 [enRD a, enRD b] = some (enRD (rspan a b)) := by
  rw [p111]
  simp only [go_sem, Nat.reduceAdd, Nat.reduceSub, Nat.reduceMul, Nat.reduceDiv, Nat.reduceMod, Nat.reduceLeDiff, Nat.reduceLT, Nat.reduceBEq, Int.reduceToNat, Int.reduceLT, Int.reduceLE, Int.reduceEq, rspan, ad, sb]
end Go.Vm.P4Z

/- Chapter 04, functions: boxes are checked, met and joined. -/
set_option maxRecDepth 100000
set_option maxHeartbeats 1000000
namespace Go.Vm.P4Z
open Go Go.Vm Go.Vm.P4
theorem zip_fold (k : Rg → Rg → Rg) : ∀ (l acc m : Bx), l.length ≤ m.length → (l.foldl (fun (a : Bx × Bx) x => (a.1 ++ [k x (a.2.headD ⟨0, 0⟩)], a.2.tail)) (acc, m)).1 = acc ++ List.zipWith k l m
  | [], acc, m, _ => by simp
  | x :: l, acc, [], h => by simp at h
  | x :: l, acc, y :: m, h => by
    simp only [List.foldl_cons, List.headD_cons, List.tail_cons, List.zipWith_cons_cons]
    rw [zip_fold k l _ m (by simpa using h)]
    simp
theorem okZipped (n : Nat) (b c : Bool) (l m : Bx) (f : FuncId) (k : Rg → Rg → Rg) (hl : l.length < 1000000) (hm : l.length ≤ m.length) (H : ∀ r s, callP (level E n) f [enRD r, enRD s] = some (enRD (k r s))) :
    callP (level E (n+1)) 88 [enB b l, enB c m, .fn f [] []] = some (enB true (List.zipWith k l m)) := by
  rw [p88]
  simp only [go_sem, Nat.reduceAdd, Nat.reduceSub, Nat.reduceMul, Nat.reduceDiv, Nat.reduceMod, Nat.reduceLeDiff, Nat.reduceLT, Nat.reduceBEq, Int.reduceToNat, Int.reduceLT, Int.reduceLE, Int.reduceEq]
  have h := loop_fold (f := aCode (level E (n)) ⟨0, false⟩ b88_0) (h := head ⟨0, false⟩ [1, 1, 1, 0, 1, 0, 1, 1, 0]) (Φ := outC ⟨0, false⟩ [0, 0, 0, 0, 1, 0, 0, 0, 0]) l (fun (a : Bx × Bx) i => ⟨[.imm (slD b 2 (l.map enR)), .imm (slD c 2 (m.map enR)), .imm (.fn f [] []), .junk, vK 0 2 (a.1.map enR), .junk, .imm (.int .i64 l.length), .imm (.int .i64 i), .junk], oK 2 (a.1.map enR), none⟩) (fun a i => a.1.length = i ∧ m.drop i = a.2)
    (fun a x => (a.1 ++ [k x (a.2.headD ⟨0, 0⟩)], a.2.tail)) (fun a => some (.exit 0, ⟨[.junk, .junk, .junk, .junk, vK 0 2 (a.1.map enR), .junk, .junk, .junk, .junk], oK 2 (a.1.map enR), none⟩)) ([], m) ⟨rfl, rfl⟩
    (fun a i x hI h2 h1 => by
      rcases a with ⟨a, _ | ⟨y, t⟩⟩
      · have := drop_n hI.2; omega
      obtain ⟨q1, q2, q3⟩ := drop_c hI.2
      refine ⟨?_, by simp [hI.1], q3⟩
      rw [rnd_eq]
      have e1 : (a.length + 1) * 17 ≤ 70368744177664 := by have hI1 : a.length = i := hI.1; omega
      have H' := H x y
      simp only [enRD, enR] at H'
      rcases a with _ | ⟨z, a⟩
      · simp only [go_sem, Nat.reduceAdd, Nat.reduceSub, Nat.reduceMul, Nat.reduceDiv, Nat.reduceMod, Nat.reduceLeDiff, Nat.reduceLT, Nat.reduceBEq, Int.reduceToNat, Int.reduceLT, Int.reduceLE, Int.reduceEq, lt_t h2, h1, q1, vK, oK, H']
        rw [wrpS (by omega)]
      · simp only [List.length_cons] at e1
        simp only [go_sem, Nat.reduceAdd, Nat.reduceSub, Nat.reduceMul, Nat.reduceDiv, Nat.reduceMod, Nat.reduceLeDiff, Nat.reduceLT, Nat.reduceBEq, Int.reduceToNat, Int.reduceLT, Int.reduceLE, Int.reduceEq, lt_t h2, h1, q1, vK, oK, e1, H']
        rw [wrpS (by omega)])
    (fun a _ => by
      rw [rnd_eq]
      rcases a with ⟨_ | ⟨y, t⟩, m⟩ <;> simp only [go_sem, Nat.reduceAdd, Nat.reduceSub, Nat.reduceMul, Nat.reduceDiv, Nat.reduceMod, Nat.reduceLeDiff, Nat.reduceLT, Nat.reduceBEq, Int.reduceToNat, Int.reduceLT, Int.reduceLE, Int.reduceEq, lt_f (Nat.le_refl _), vK, oK])
  rw [cast_0] at h
  simp only [List.map_nil, vK, oK] at h
  rw [h]
  clear h
  generalize hA : (l.foldl (fun (a : Bx × Bx) x => (a.1 ++ [k x (a.2.headD ⟨0, 0⟩)], a.2.tail)) ([], m)).1 = A
  have e := zip_fold k l [] m hm
  rw [hA, List.nil_append] at e
  rw [← e]
  rcases A with _ | ⟨y, t⟩ <;> simp only [go_sem, Nat.reduceAdd, Nat.reduceSub, Nat.reduceMul, Nat.reduceDiv, Nat.reduceMod, Nat.reduceLeDiff, Nat.reduceLT, Nat.reduceBEq, Int.reduceToNat, Int.reduceLT, Int.reduceLE, Int.reduceEq] <;> rfl
theorem okMapR (n : Nat) (b : Bool) (l : Bx) (f : FuncId) (k : Rg → Int) (hl : l.length < 1000000) (H : ∀ r, callP (level E n) f [enRD r] = some (.int .i64 (k r))) :
    callP (level E (n+1)) 115 [enB b l, .fn f [] []] = some (slD false 1 ((l.map k).map ic)) := by
  rw [p115]
  have e0 : (8 : Int) * (l.length : Int) ≤ 70368744177664 := by omega
  have e2 : (l.length : Int) ≤ 70368744177664 := by omega
  have e3 : (0 : Int) ≤ (l.length : Int) := by omega
  simp only [go_sem, Nat.reduceAdd, Nat.reduceSub, Nat.reduceMul, Nat.reduceDiv, Nat.reduceMod, Nat.reduceLeDiff, Nat.reduceLT, Nat.reduceBEq, Int.reduceToNat, Int.reduceLT, Int.reduceLE, Int.reduceEq, e0, e2, e3]
  have h := loop_fold (f := aCode (level E (n)) ⟨0, false⟩ b115_0) (h := head ⟨0, false⟩ [0, 1, 0, 1, 0, 1, 1, 1, 0]) (Φ := outC ⟨0, false⟩ [0, 0, 0, 1, 0, 0, 0, 0, 0]) l (fun (a : List Int) i => ⟨[.junk, .imm (.fn f [] []), .junk, .ref 0 1 0 a.length, .junk, .imm (slD b 2 (l.map enR)), .imm (.int .i64 l.length), .imm (.int .i64 i), .junk], [.arr 1 (a.map ic)], none⟩) (fun a i => a.length = i)
    (fun a x => a ++ [k x]) (fun a => some (.exit 0, ⟨[.junk, .junk, .junk, .ref 0 1 0 a.length, .junk, .junk, .junk, .junk, .junk], [.arr 1 (a.map ic)], none⟩)) [] rfl
    (fun a i x hI h2 h1 => by
      refine ⟨?_, by simp [hI]⟩
      rw [rnd_eq]
      have e1 : (a.length + 1) * 9 ≤ 70368744177664 := by omega
      have H' := H x
      simp only [enRD, enR] at H'
      simp only [go_sem, Nat.reduceAdd, Nat.reduceSub, Nat.reduceMul, Nat.reduceDiv, Nat.reduceMod, Nat.reduceLeDiff, Nat.reduceLT, Nat.reduceBEq, Int.reduceToNat, Int.reduceLT, Int.reduceLE, Int.reduceEq, lt_t h2, h1, e1, H']
      rw [wrpS (by omega)])
    (fun a _ => by
      rw [rnd_eq]
      simp only [go_sem, Nat.reduceAdd, Nat.reduceSub, Nat.reduceMul, Nat.reduceDiv, Nat.reduceMod, Nat.reduceLeDiff, Nat.reduceLT, Nat.reduceBEq, Int.reduceToNat, Int.reduceLT, Int.reduceLE, Int.reduceEq, lt_f (Nat.le_refl _)])
  rw [cast_0] at h
  simp only [List.map_nil, List.length_nil] at h
  rw [h]
  clear h
  have e : ∀ acc : List Int, l.foldl (fun a x => a ++ [k x]) acc = acc ++ l.map k := by
    intro acc
    clear hl e0 e2 e3
    induction l generalizing acc with
    | nil => simp
    | cons x l ih => simp only [List.foldl_cons, ih, List.map_cons, List.append_assoc, List.cons_append, List.nil_append]
  rw [e, List.nil_append]
  simp only [go_sem, Nat.reduceAdd, Nat.reduceSub, Nat.reduceMul, Nat.reduceDiv, Nat.reduceMod, Nat.reduceLeDiff, Nat.reduceLT, Nat.reduceBEq, Int.reduceToNat, Int.reduceLT, Int.reduceLE, Int.reduceEq, slD]
def ckRange (r : Rg) : Int := if r.lo < -1048576 ∨ 1048576 < r.lo ∨ r.ex < 0 ∨ 64 < r.ex ∨ 1048577 < r.lo + r.ex then 3 else 0
theorem okCheckRange (n : Nat) (r : Rg) : callP (level E (n+2)) 116 [enRD r] = some (.int .i64 (ckRange r)) := by
  rw [p116]
  simp only [enRD, enR]
  by_cases h1 : r.lo ≥ -1048576
  · by_cases h2 : r.lo ≤ 1048576
    · by_cases h3 : r.ex ≥ 0
      · by_cases h4 : r.ex ≤ 64
        · have e : wrp .i64 (r.lo + r.ex) = r.lo + r.ex := wrp_ok (by omega)
          by_cases h5 : r.lo + r.ex > 1048577
          · simp only [go_sem, Nat.reduceAdd, Nat.reduceSub, Nat.reduceMul, Nat.reduceDiv, Nat.reduceMod, Nat.reduceLeDiff, Nat.reduceLT, Nat.reduceBEq, Int.reduceToNat, Int.reduceLT, Int.reduceLE, Int.reduceEq, okWithin, okWhen, h1, h2, h3, h4, h5, e]
            rw [ckRange, if_pos (by omega)]
          · simp only [go_sem, Nat.reduceAdd, Nat.reduceSub, Nat.reduceMul, Nat.reduceDiv, Nat.reduceMod, Nat.reduceLeDiff, Nat.reduceLT, Nat.reduceBEq, Int.reduceToNat, Int.reduceLT, Int.reduceLE, Int.reduceEq, okWithin, okWhen, h1, h2, h3, h4, h5, e]
            rw [ckRange, if_neg (by omega)]
        · simp only [go_sem, Nat.reduceAdd, Nat.reduceSub, Nat.reduceMul, Nat.reduceDiv, Nat.reduceMod, Nat.reduceLeDiff, Nat.reduceLT, Nat.reduceBEq, Int.reduceToNat, Int.reduceLT, Int.reduceLE, Int.reduceEq, okWithin, okWhen, h1, h2, h3, h4]
          rw [ckRange, if_pos (by omega)]
      · simp only [go_sem, Nat.reduceAdd, Nat.reduceSub, Nat.reduceMul, Nat.reduceDiv, Nat.reduceMod, Nat.reduceLeDiff, Nat.reduceLT, Nat.reduceBEq, Int.reduceToNat, Int.reduceLT, Int.reduceLE, Int.reduceEq, okWithin, okWhen, h1, h2, h3]
        rw [ckRange, if_pos (by omega)]
    · simp only [go_sem, Nat.reduceAdd, Nat.reduceSub, Nat.reduceMul, Nat.reduceDiv, Nat.reduceMod, Nat.reduceLeDiff, Nat.reduceLT, Nat.reduceBEq, Int.reduceToNat, Int.reduceLT, Int.reduceLE, Int.reduceEq, okWithin, okWhen, h1, h2]
      rw [ckRange, if_pos (by omega)]
  · simp only [go_sem, Nat.reduceAdd, Nat.reduceSub, Nat.reduceMul, Nat.reduceDiv, Nat.reduceMod, Nat.reduceLeDiff, Nat.reduceLT, Nat.reduceBEq, Int.reduceToNat, Int.reduceLT, Int.reduceLE, Int.reduceEq, okWithin, okWhen, h1]
    rw [ckRange, if_pos (by omega)]
def ckBox (b : Bx) : Int := if b.length < 1 ∨ 3 < b.length then 13 else fnz [fnz (b.map ckRange), if 4096 < many b then 5 else 0]
theorem okFirstL (n : Nat) (es : List (List D)) (l : List Int) (he : es = l.map ic) (hl : l.length < 1000000000) : callP (level E (n+1)) 65 [.sl 1 es] = some (.int .i64 (fnz l)) := by
  subst he
  exact okFirst n false l hl
theorem okCheckBox (n : Nat) (b : Bool) (l : Bx) (hl : l.length < 1000000) : callP (level E (n+4)) 68 [enB b l] = some (.int .i64 (ckBox l)) := by
  rw [p68]
  by_cases h1 : l.length < 1
  · have h1' : (l.length : Int) < 1 := by omega
    simp only [go_sem, Nat.reduceAdd, Nat.reduceSub, Nat.reduceMul, Nat.reduceDiv, Nat.reduceMod, Nat.reduceLeDiff, Nat.reduceLT, Nat.reduceBEq, Int.reduceToNat, Int.reduceLT, Int.reduceLE, Int.reduceEq, h1', ckBox, h1, true_or]
  · have h1' : ¬ (l.length : Int) < 1 := by omega
    by_cases h2 : 3 < l.length
    · have h2' : (3 : Int) < l.length := by omega
      simp only [go_sem, Nat.reduceAdd, Nat.reduceSub, Nat.reduceMul, Nat.reduceDiv, Nat.reduceMod, Nat.reduceLeDiff, Nat.reduceLT, Nat.reduceBEq, Int.reduceToNat, Int.reduceLT, Int.reduceLE, Int.reduceEq, h1', h2', ckBox, h1, h2, or_true]
    · have h2' : ¬ (3 : Int) < l.length := by omega
      have hm := okMapR (n+2) b l 116 ckRange hl (fun r => okCheckRange n r)
      have hf := okFirst (n+2) false (l.map ckRange) (by simp; omega)
      have hf2 := okFirstL (n+2) [[.int .i64 (fnz (l.map ckRange))], [.int .i64 (if 4096 < many l then 5 else 0)]] [fnz (l.map ckRange), if 4096 < many l then 5 else 0] rfl (by simp)
      have hmm := okMany (n+2) b l (by omega)
      by_cases h3 : 4096 < many l
      · simp only [if_pos h3] at hf2
        simp only [go_sem, Nat.reduceAdd, Nat.reduceSub, Nat.reduceMul, Nat.reduceDiv, Nat.reduceMod, Nat.reduceLeDiff, Nat.reduceLT, Nat.reduceBEq, Int.reduceToNat, Int.reduceLT, Int.reduceLE, Int.reduceEq, h1', h2', ckBox, h1, h2, or_self, hm, hf, hmm, h3, okWhen, hf2]
      · simp only [if_neg h3] at hf2
        simp only [go_sem, Nat.reduceAdd, Nat.reduceSub, Nat.reduceMul, Nat.reduceDiv, Nat.reduceMod, Nat.reduceLeDiff, Nat.reduceLT, Nat.reduceBEq, Int.reduceToNat, Int.reduceLT, Int.reduceLE, Int.reduceEq, h1', h2', ckBox, h1, h2, or_self, hm, hf, hmm, h3, okWhen, hf2]
end Go.Vm.P4Z

/- Chapter 04, functions: Intersect, Union, Size. -/
set_option maxRecDepth 100000
set_option maxHeartbeats 1000000
namespace Go.Vm.P4Z
open Go Go.Vm Go.Vm.P4
def clV (b : Bool) (sz : Nat) (es : List (List D)) : AV := match b, es with | true, [] => .imm .nil | false, [] => .e0 sz | _, es => .ref 0 sz 0 es.length
def clO (sz : Nat) (es : List (List D)) : List AO := match es with | [] => [] | es => [.arr sz es]
theorem okCloneB (n : Nat) (b : Bool) (l : Bx) (hl : l.length < 1000000) : callI (level E (n+1)) 91 [enB b l] = some (clV b 2 (l.map enR), clO 2 (l.map enR)) := by
  rw [i91]
  rcases l with _ | ⟨x, t⟩
  · cases b <;> simp only [go_sem, Nat.reduceAdd, Nat.reduceSub, Nat.reduceMul, Nat.reduceDiv, Nat.reduceMod, Nat.reduceLeDiff, Nat.reduceLT, Nat.reduceBEq, Int.reduceToNat, Int.reduceLT, Int.reduceLE, Int.reduceEq, slD, clV, clO, isNilSl, aEq] <;> rfl
  · have e : (t.length + 1) * 17 ≤ 70368744177664 := by simp at hl; omega
    have e0 : enB b (x :: t) = .sl 2 ((x :: t).map enR) := by cases b <;> rfl
    have e1 : clV b 2 ((x :: t).map enR) = .ref 0 2 0 (t.length + 1) := by cases b <;> simp [clV]
    rw [e0, e1]
    simp only [go_sem, Nat.reduceAdd, Nat.reduceSub, Nat.reduceMul, Nat.reduceDiv, Nat.reduceMod, Nat.reduceLeDiff, Nat.reduceLT, Nat.reduceBEq, Int.reduceToNat, Int.reduceLT, Int.reduceLE, Int.reduceEq, clO, e, isNilSl, aEq]
    done
def ckBoth (a b : Bx) : Int := fnz [ckBox a, ckBox b, if a.length = b.length then 0 else 13]
theorem okCheckBoth (n : Nat) (b c : Bool) (l m : Bx) (hl : l.length < 1000000) (hm : m.length < 1000000) : callP (level E (n+5)) 110 [enB b l, enB c m] = some (.int .i64 (ckBoth l m)) := by
  rw [p110]
  have h1 := okCheckBox n b l hl
  have h2 := okCheckBox n c m hm
  have hf := okFirstL (n+3) [[.int .i64 (ckBox l)], [.int .i64 (ckBox m)], [.int .i64 (if l.length = m.length then 0 else 13)]] [ckBox l, ckBox m, if l.length = m.length then 0 else 13] rfl (by simp)
  by_cases h : l.length = m.length
  · have h' : (l.length : Int) = m.length := by omega
    simp only [if_pos h] at hf
    simp only [go_sem, Nat.reduceAdd, Nat.reduceSub, Nat.reduceMul, Nat.reduceDiv, Nat.reduceMod, Nat.reduceLeDiff, Nat.reduceLT, Nat.reduceBEq, Int.reduceToNat, Int.reduceLT, Int.reduceLE, Int.reduceEq, h1, h2, h, okWhen, ne_eq, not_true_eq_false, hf, ckBoth]
  · have h' : ¬ (l.length : Int) = m.length := by omega
    simp only [if_neg h] at hf
    simp only [go_sem, Nat.reduceAdd, Nat.reduceSub, Nat.reduceMul, Nat.reduceDiv, Nat.reduceMod, Nat.reduceLeDiff, Nat.reduceLT, Nat.reduceBEq, Int.reduceToNat, Int.reduceLT, Int.reduceLE, Int.reduceEq, h1, h2, h, h', okWhen, ne_eq, not_false_eq_true, hf, ckBoth]
def interD (a b : Bx) : D := if ckBoth a b = 0 then enB true (List.zipWith rmeet a b) else .nil
theorem okIntersect (n : Nat) (b c : Bool) (l m : Bx) (hl : l.length < 1000000) (hm : m.length < 1000000) (hlm : ckBoth l m = 0 → l.length = m.length) :
    callP (level E (n+6)) 55 [enB b l, enB c m] = some (.tup [interD l m, .int .i64 (ckBoth l m)]) := by
  rw [p55]
  have h1 := okCheckBoth n b c l m hl hm
  by_cases h : ckBoth l m = 0
  · have h2 := okZipped (n+4) b c l m 89 rmeet hl (Nat.le_of_eq (hlm h)) (fun r s => okMeet (n+3) r s)
    simp only [go_sem, Nat.reduceAdd, Nat.reduceSub, Nat.reduceMul, Nat.reduceDiv, Nat.reduceMod, Nat.reduceLeDiff, Nat.reduceLT, Nat.reduceBEq, Int.reduceToNat, Int.reduceLT, Int.reduceLE, Int.reduceEq, h1, h2, h, ne_eq, not_true_eq_false, interD]
  · simp only [go_sem, Nat.reduceAdd, Nat.reduceSub, Nat.reduceMul, Nat.reduceDiv, Nat.reduceMod, Nat.reduceLeDiff, Nat.reduceLT, Nat.reduceBEq, Int.reduceToNat, Int.reduceLT, Int.reduceLE, Int.reduceEq, h1, h, ne_eq, not_false_eq_true, interD]
def unionD (a b : Bx) : D × Int := if ckBoth a b = 0 then (if many b = 0 then (enB false a, 0) else if many a = 0 then (enB false b, 0) else if ckBox (List.zipWith rspan a b) = 0 then (enB true (List.zipWith rspan a b), 0) else (.nil, 4)) else (.nil, ckBoth a b)
theorem okUnion (n : Nat) (b c : Bool) (l m : Bx) (hl : l.length < 1000000) (hm : m.length < 1000000) (hlm : ckBoth l m = 0 → l.length = m.length ∧ l ≠ [] ∧ m ≠ []) :
    callP (level E (n+6)) 56 [enB b l, enB c m] = some (.tup [(unionD l m).1, .int .i64 (unionD l m).2]) := by
  rw [p56]
  have h1 := okCheckBoth n b c l m hl hm
  have m1 := okMany (n+4) b l (by omega)
  have m2 := okMany (n+4) c m (by omega)
  have c1 := okCloneB (n+4) b l hl
  have c2 := okCloneB (n+4) c m hm
  by_cases h : ckBoth l m = 0
  · obtain ⟨k1, k2, k3⟩ := hlm h
    obtain ⟨x, t, rfl⟩ : ∃ x t, l = x :: t := by rcases l with _ | ⟨x, t⟩; exact absurd rfl k2; exact ⟨x, t, rfl⟩
    obtain ⟨y, u, rfl⟩ : ∃ x t, m = x :: t := by rcases m with _ | ⟨x, t⟩; exact absurd rfl k3; exact ⟨x, t, rfl⟩
    have e1 : ∀ b : Bool, clV b 2 ((x :: t).map enR) = .ref 0 2 0 (t.length + 1) := by intro b; cases b <;> simp [clV]
    have e2 : ∀ b : Bool, clV b 2 ((y :: u).map enR) = .ref 0 2 0 (u.length + 1) := by intro b; cases b <;> simp [clV]
    rw [e1] at c1
    rw [e2] at c2
    by_cases hb : many (y :: u) = 0
    · simp only [go_sem, Nat.reduceAdd, Nat.reduceSub, Nat.reduceMul, Nat.reduceDiv, Nat.reduceMod, Nat.reduceLeDiff, Nat.reduceLT, Nat.reduceBEq, Int.reduceToNat, Int.reduceLT, Int.reduceLE, Int.reduceEq, h1, h, m1, m2, hb, c1, clO, ne_eq, not_true_eq_false, unionD]
      rfl
    · by_cases ha : many (x :: t) = 0
      · simp only [go_sem, Nat.reduceAdd, Nat.reduceSub, Nat.reduceMul, Nat.reduceDiv, Nat.reduceMod, Nat.reduceLeDiff, Nat.reduceLT, Nat.reduceBEq, Int.reduceToNat, Int.reduceLT, Int.reduceLE, Int.reduceEq, h1, h, m1, m2, hb, ha, c2, clO, ne_eq, not_true_eq_false, unionD]
        rfl
      · have h2 := okZipped (n+4) b c (x :: t) (y :: u) 111 rspan hl (Nat.le_of_eq k1) (fun r s => okSpan (n+3) r s)
        have h3 := okCheckBox (n+1) true (List.zipWith rspan (x :: t) (y :: u)) (by simp at hl ⊢; omega)
        by_cases hc : ckBox (List.zipWith rspan (x :: t) (y :: u)) = 0
        · simp only [go_sem, Nat.reduceAdd, Nat.reduceSub, Nat.reduceMul, Nat.reduceDiv, Nat.reduceMod, Nat.reduceLeDiff, Nat.reduceLT, Nat.reduceBEq, Int.reduceToNat, Int.reduceLT, Int.reduceLE, Int.reduceEq, h1, h, m1, m2, hb, ha, h2, h3, hc, ne_eq, not_true_eq_false, unionD]
        · simp only [go_sem, Nat.reduceAdd, Nat.reduceSub, Nat.reduceMul, Nat.reduceDiv, Nat.reduceMod, Nat.reduceLeDiff, Nat.reduceLT, Nat.reduceBEq, Int.reduceToNat, Int.reduceLT, Int.reduceLE, Int.reduceEq, h1, h, m1, m2, hb, ha, h2, h3, hc, ne_eq, not_true_eq_false, not_false_eq_true, unionD]
  · simp only [go_sem, Nat.reduceAdd, Nat.reduceSub, Nat.reduceMul, Nat.reduceDiv, Nat.reduceMod, Nat.reduceLeDiff, Nat.reduceLT, Nat.reduceBEq, Int.reduceToNat, Int.reduceLT, Int.reduceLE, Int.reduceEq, h1, h, ne_eq, not_false_eq_true, unionD]
end Go.Vm.P4Z

/- Chapter 04, functions: the points of a box, one after the other. -/
set_option maxRecDepth 100000
set_option maxHeartbeats 2000000
namespace Go.Vm.P4Z
open Go Go.Vm Go.Vm.P4
def nextW : Bx → List Int → List Int
  | r :: b, x :: p => if ad x 1 < ad r.lo r.ex then ad x 1 :: p else r.lo :: nextW b p
  | _, p => p
def plc0 (l : Bx) : List Int := (l.map Rg.lo ++ [0, 0, 0]).take 3
def plc (l : Bx) : Nat → List Int
  | 0 => plc0 l
  | i + 1 => nextW l (plc l i)
theorem nextW_len : ∀ (l : Bx) (p : List Int), (nextW l p).length = p.length
  | [], p => by simp [nextW]
  | r :: b, [] => by simp [nextW]
  | r :: b, x :: p => by
    unfold nextW; split
    · simp
    · simp [nextW_len b p]
theorem plc_len (l : Bx) : ∀ i, (plc l i).length = 3
  | 0 => by simp [plc, plc0]
  | i + 1 => by rw [plc, nextW_len, plc_len l i]
abbrev cI (p : List Int) : List AV := p.map (fun x => AV.imm (.int .i64 x))
theorem slD_c {b : Bool} {sz : Nat} {x : List D} {r : List (List D)} : slD b sz (x :: r) = .sl sz (x :: r) := by cases b <;> rfl
theorem iL_cI : ∀ p : List Int, idsL (p.map (fun x => AV.imm (.int .i64 x))) = []
  | [] => rfl
  | x :: p => by simp only [List.map_cons, iL_cons, id_imm, iL_cI p, List.append_nil]
theorem rL_cI (f : Nat → Option Nat) : ∀ p : List Int, renL f (p.map (fun x => AV.imm (.int .i64 x))) = p.map (fun x => AV.imm (.int .i64 x))
  | [] => rfl
  | x :: p => by simp only [List.map_cons, rL_cons, rn_imm, rL_cI f p]
theorem okNext (n : Nat) (b : Bool) (l : Bx) (p : List Int) (q : List Int) (tot i : D) (e : Ext) (hl : l.length ≤ 3) (hp : p.length = 3) (hq : q = plc0 l) :
    outC ⟨0, false⟩ [1, 1, 0, 1, 1, 0, 0, 0, 0, 0, 0, 0, 0, 0, 1, 1, 0, 0, 0, 0, 0, 0, 0] (rnd (aCode (level E n) ⟨0, false⟩ b125_1) (head ⟨0, false⟩ [1, 1, 0, 1, 1, 0, 0, 0, 0, 0, 0, 0, 0, 0, 1, 1, 0, 0, 1, 1, 1, 0, 0])
      ⟨[.yield, .imm (.ptr [enB b l]), .junk, .ptr 0 0, .ptr 1 0, .junk, .junk, .junk, .junk, .junk, .junk, .junk, .junk, .junk, .imm tot, .imm i, .junk, .junk, .imm (enB b l), .imm (.int .i64 l.length), .imm (.int .i64 0), .junk, .junk], [.box (cI p), .box (cI q)], some e⟩) =
    some (.exit 4, ⟨[.yield, .imm (.ptr [enB b l]), .junk, .ptr 0 0, .ptr 1 0, .junk, .junk, .junk, .junk, .junk, .junk, .junk, .junk, .junk, .imm tot, .imm i, .junk, .junk, .junk, .junk, .junk, .junk, .junk], [.box (cI (nextW l p)), .box (cI q)], some e⟩) := by
  obtain ⟨x, y, z, rfl⟩ : ∃ x y z, p = [x, y, z] := by
    match p, hp with
    | [x, y, z], _ => exact ⟨x, y, z, rfl⟩
  subst hq
  have i0 : (0 : Int) < ((3 : Nat) : Int) := by decide
  have i1 : (1 : Int) < ((3 : Nat) : Int) := by decide
  have i2 : (2 : Int) < ((3 : Nat) : Int) := by decide
  have j1 : ((1 : Nat) : Int) = 1 := rfl
  have j2 : ((2 : Nat) : Int) = 2 := rfl
  have j3 : ((3 : Nat) : Int) = 3 := rfl
  rcases l with _ | ⟨r, _ | ⟨s, _ | ⟨t, _ | ⟨u, l⟩⟩⟩⟩
  · simp only [go_sem, Nat.reduceAdd, Nat.reduceSub, Nat.reduceMul, Nat.reduceDiv, Nat.reduceMod, Nat.reduceLeDiff, Nat.reduceLT, Nat.reduceBEq, Int.reduceToNat, Int.reduceLT, Int.reduceLE, Int.reduceEq, rnd_eq, nextW, cI, plc0]
  · by_cases h0 : ad x 1 < ad r.lo r.ex
    · have h0' := h0
      unfold ad at h0'
      simp only [go_sem, Nat.reduceAdd, Nat.reduceSub, Nat.reduceMul, Nat.reduceDiv, Nat.reduceMod, Nat.reduceLeDiff, Nat.reduceLT, Nat.reduceBEq, Int.reduceToNat, Int.reduceLT, Int.reduceLE, Int.reduceEq, rnd_eq, nextW, h0, h0', cI, plc0, i0, i1, i2, j1, j2, j3, ad, enB, slD_c, ia_sl]
    have h0' := h0
    unfold ad at h0'
    simp only [go_sem, Nat.reduceAdd, Nat.reduceSub, Nat.reduceMul, Nat.reduceDiv, Nat.reduceMod, Nat.reduceLeDiff, Nat.reduceLT, Nat.reduceBEq, Int.reduceToNat, Int.reduceLT, Int.reduceLE, Int.reduceEq, rnd_eq, nextW, h0, h0', cI, plc0, i0, i1, i2, j1, j2, j3, ad, enB, slD_c, ia_sl]
  · by_cases h0 : ad x 1 < ad r.lo r.ex
    · have h0' := h0
      unfold ad at h0'
      simp only [go_sem, Nat.reduceAdd, Nat.reduceSub, Nat.reduceMul, Nat.reduceDiv, Nat.reduceMod, Nat.reduceLeDiff, Nat.reduceLT, Nat.reduceBEq, Int.reduceToNat, Int.reduceLT, Int.reduceLE, Int.reduceEq, rnd_eq, nextW, h0, h0', cI, plc0, i0, i1, i2, j1, j2, j3, ad, enB, slD_c, ia_sl]
    have h0' := h0
    unfold ad at h0'
    by_cases h1 : ad y 1 < ad s.lo s.ex
    · have h1' := h1
      unfold ad at h1'
      simp only [go_sem, Nat.reduceAdd, Nat.reduceSub, Nat.reduceMul, Nat.reduceDiv, Nat.reduceMod, Nat.reduceLeDiff, Nat.reduceLT, Nat.reduceBEq, Int.reduceToNat, Int.reduceLT, Int.reduceLE, Int.reduceEq, rnd_eq, nextW, h0, h0', h1, h1', cI, plc0, i0, i1, i2, j1, j2, j3, ad, enB, slD_c, ia_sl]
    have h1' := h1
    unfold ad at h1'
    simp only [go_sem, Nat.reduceAdd, Nat.reduceSub, Nat.reduceMul, Nat.reduceDiv, Nat.reduceMod, Nat.reduceLeDiff, Nat.reduceLT, Nat.reduceBEq, Int.reduceToNat, Int.reduceLT, Int.reduceLE, Int.reduceEq, rnd_eq, nextW, h0, h0', h1, h1', cI, plc0, i0, i1, i2, j1, j2, j3, ad, enB, slD_c, ia_sl]
  · by_cases h0 : ad x 1 < ad r.lo r.ex
    · have h0' := h0
      unfold ad at h0'
      simp only [go_sem, Nat.reduceAdd, Nat.reduceSub, Nat.reduceMul, Nat.reduceDiv, Nat.reduceMod, Nat.reduceLeDiff, Nat.reduceLT, Nat.reduceBEq, Int.reduceToNat, Int.reduceLT, Int.reduceLE, Int.reduceEq, rnd_eq, nextW, h0, h0', cI, plc0, i0, i1, i2, j1, j2, j3, ad, enB, slD_c, ia_sl]
    have h0' := h0
    unfold ad at h0'
    by_cases h1 : ad y 1 < ad s.lo s.ex
    · have h1' := h1
      unfold ad at h1'
      simp only [go_sem, Nat.reduceAdd, Nat.reduceSub, Nat.reduceMul, Nat.reduceDiv, Nat.reduceMod, Nat.reduceLeDiff, Nat.reduceLT, Nat.reduceBEq, Int.reduceToNat, Int.reduceLT, Int.reduceLE, Int.reduceEq, rnd_eq, nextW, h0, h0', h1, h1', cI, plc0, i0, i1, i2, j1, j2, j3, ad, enB, slD_c, ia_sl]
    have h1' := h1
    unfold ad at h1'
    by_cases h2 : ad z 1 < ad t.lo t.ex
    · have h2' := h2
      unfold ad at h2'
      simp only [go_sem, Nat.reduceAdd, Nat.reduceSub, Nat.reduceMul, Nat.reduceDiv, Nat.reduceMod, Nat.reduceLeDiff, Nat.reduceLT, Nat.reduceBEq, Int.reduceToNat, Int.reduceLT, Int.reduceLE, Int.reduceEq, rnd_eq, nextW, h0, h0', h1, h1', h2, h2', cI, plc0, i0, i1, i2, j1, j2, j3, ad, enB, slD_c, ia_sl]
    have h2' := h2
    unfold ad at h2'
    simp only [go_sem, Nat.reduceAdd, Nat.reduceSub, Nat.reduceMul, Nat.reduceDiv, Nat.reduceMod, Nat.reduceLeDiff, Nat.reduceLT, Nat.reduceBEq, Int.reduceToNat, Int.reduceLT, Int.reduceLE, Int.reduceEq, rnd_eq, nextW, h0, h0', h1, h1', h2, h2', cI, plc0, i0, i1, i2, j1, j2, j3, ad, enB, slD_c, ia_sl]
  · simp at hl
end Go.Vm.P4Z

/- Chapter 04, functions: the loop over the points of a box. -/
set_option maxRecDepth 100000
set_option maxHeartbeats 2000000
namespace Go.Vm.P4Z
open Go Go.Vm Go.Vm.P4
theorem okBegin (n : Nat) (b : Bool) (l : Bx) (tot : D) (e : Ext) (hl : l.length ≤ 3) :
    outC ⟨0, false⟩ [1, 1, 1, 1, 1, 0, 0, 0, 0, 0, 0, 0, 0, 0, 0, 0, 0, 0, 0, 0, 0, 0, 0] (rnd (aCode (level E n) ⟨0, false⟩ b125_0) (head ⟨0, false⟩ [1, 1, 1, 1, 1, 0, 0, 0, 0, 0, 1, 1, 1, 0, 0, 0, 0, 0, 0, 0, 0, 0, 0])
      ⟨[.yield, .imm (.ptr [enB b l]), .imm tot, .ptr 0 0, .ptr 1 0, .junk, .junk, .junk, .junk, .junk, .imm (enB b l), .imm (.int .i64 l.length), .imm (.int .i64 0), .junk, .junk, .junk, .junk, .junk, .junk, .junk, .junk, .junk, .junk], [.box (cI [0, 0, 0]), .box (cI [0, 0, 0])], some e⟩) =
    some (.exit 0, ⟨[.yield, .imm (.ptr [enB b l]), .imm tot, .ptr 0 0, .ptr 1 0, .junk, .junk, .junk, .junk, .junk, .junk, .junk, .junk, .junk, .junk, .junk, .junk, .junk, .junk, .junk, .junk, .junk, .junk], [.box (cI [0, 0, 0]), .box (cI (plc0 l))], some e⟩) := by
  have i0 : (0 : Int) < ((3 : Nat) : Int) := by decide
  have i1 : (1 : Int) < ((3 : Nat) : Int) := by decide
  have i2 : (2 : Int) < ((3 : Nat) : Int) := by decide
  have j1 : ((1 : Nat) : Int) = 1 := rfl
  have j2 : ((2 : Nat) : Int) = 2 := rfl
  have j3 : ((3 : Nat) : Int) = 3 := rfl
  rcases l with _ | ⟨r, _ | ⟨s, _ | ⟨t, _ | ⟨u, l⟩⟩⟩⟩
  · simp only [go_sem, Nat.reduceAdd, Nat.reduceSub, Nat.reduceMul, Nat.reduceDiv, Nat.reduceMod, Nat.reduceLeDiff, Nat.reduceLT, Nat.reduceBEq, Int.reduceToNat, Int.reduceLT, Int.reduceLE, Int.reduceEq, rnd_eq, cI, plc0]
  · simp only [go_sem, Nat.reduceAdd, Nat.reduceSub, Nat.reduceMul, Nat.reduceDiv, Nat.reduceMod, Nat.reduceLeDiff, Nat.reduceLT, Nat.reduceBEq, Int.reduceToNat, Int.reduceLT, Int.reduceLE, Int.reduceEq, rnd_eq, cI, plc0, i0, i1, i2, j1, j2, j3, enB, slD_c, ia_sl]
  · simp only [go_sem, Nat.reduceAdd, Nat.reduceSub, Nat.reduceMul, Nat.reduceDiv, Nat.reduceMod, Nat.reduceLeDiff, Nat.reduceLT, Nat.reduceBEq, Int.reduceToNat, Int.reduceLT, Int.reduceLE, Int.reduceEq, rnd_eq, cI, plc0, i0, i1, i2, j1, j2, j3, enB, slD_c, ia_sl]
  · simp only [go_sem, Nat.reduceAdd, Nat.reduceSub, Nat.reduceMul, Nat.reduceDiv, Nat.reduceMod, Nat.reduceLeDiff, Nat.reduceLT, Nat.reduceBEq, Int.reduceToNat, Int.reduceLT, Int.reduceLE, Int.reduceEq, rnd_eq, cI, plc0, i0, i1, i2, j1, j2, j3, enB, slD_c, ia_sl]
  · simp at hl
theorem getRange {N i x : Nat} (h : (List.range N)[i]? = some x) : x = i := by
  obtain ⟨h1, h2⟩ := List.getElem?_eq_some_iff.1 h
  simpa using h2.symm
theorem okAll1 {β : Type} (n : Nat) (b : Bool) (l : Bx) (hl : l.length ≤ 3) (N : Nat) (hN : many l = N) (hN2 : N < 1000000000) (St : β → Ext) (I : β → Nat → Prop) (g : β → Nat → β ⊕ Ext) (a0 : β) (h0 : I a0 0)
    (hr : ∀ a i, I a i → i < N → ((level E (n+1)).round (St a) [.int .i64 (i : Int), enP (plc l i)] = match g a i with | .inl a' => some (St a', true) | .inr e => some (e, false)) ∧ ∀ a', g a i = .inl a' → I a' (i + 1)) :
    (level E (n+2)).call 125 [.yield, .imm (.ptr [enB b l])] [] (some (St a0)) = some (.imm (.tup []), [], some (runL g St a0 (List.range N))) := by
  have e : (level E (n+2)).call 125 [.yield, .imm (.ptr [enB b l])] [] (some (St a0)) = fin [] (aCode (level E (n+1)) ⟨0, false⟩ c125 ⟨[.yield, .imm (.ptr [enB b l]), .junk, .junk, .junk, .junk, .junk, .junk, .junk, .junk, .junk, .junk, .junk, .junk, .junk, .junk, .junk, .junk, .junk, .junk, .junk, .junk, .junk], [], some (St a0)⟩) := call_go e125 rfl rfl rfl rfl
  rw [e]
  have hm := okMany n b l (by omega)
  have hb := okBegin (n+1) b l (.int .i64 (many l)) (St a0) hl
  simp only [cI, List.map_cons, List.map_nil] at hb
  simp only [go_sem, Nat.reduceAdd, Nat.reduceSub, Nat.reduceMul, Nat.reduceDiv, Nat.reduceMod, Nat.reduceLeDiff, Nat.reduceLT, Nat.reduceBEq, Int.reduceToNat, Int.reduceLT, Int.reduceLE, Int.reduceEq, hm]
  rw [hb]
  obtain ⟨u, v, w, hq⟩ : ∃ u v w, plc0 l = [u, v, w] := by
    match hh : plc0 l, (show (plc0 l).length = 3 from plc_len l 0) with
    | [u, v, w], _ => exact ⟨u, v, w, rfl⟩
  simp only [go_sem, Nat.reduceAdd, Nat.reduceSub, Nat.reduceMul, Nat.reduceDiv, Nat.reduceMod, Nat.reduceLeDiff, Nat.reduceLT, Nat.reduceBEq, Int.reduceToNat, Int.reduceLT, Int.reduceLE, Int.reduceEq, hq, cI]
  have h := loop_run (f := aCode (level E (n+1)) ⟨0, false⟩ b125_2) (h := head ⟨0, false⟩ [1, 1, 0, 1, 1, 0, 0, 0, 0, 0, 0, 0, 0, 0, 1, 1, 0, 0, 0, 0, 0, 0, 0]) (Φ := outC ⟨0, false⟩ [0, 0, 0, 0, 0, 0, 0, 0, 0, 0, 0, 0, 0, 0, 0, 0, 0, 0, 0, 0, 0, 0, 0]) (List.range N) (fun (a : β) i => ⟨[.yield, .imm (.ptr [enB b l]), .junk, .ptr 0 0, .ptr 1 0, .junk, .junk, .junk, .junk, .junk, .junk, .junk, .junk, .junk, .imm (.int .i64 (many l)), .imm (.int .i64 i), .junk, .junk, .junk, .junk, .junk, .junk, .junk], [.box (cI (plc l i)), .box (cI [u, v, w])], some (St a)⟩) I
    (fun a i => match g a i with | .inl a' => .inl a' | .inr e => .inr (some (.ret, ⟨[.junk, .junk, .junk, .junk, .junk, .junk, .junk, .junk, .junk, .junk, .junk, .junk, .junk, .junk, .junk, .junk, .junk, .junk, .junk, .junk, .junk, .junk, .junk], [], some e⟩))) (fun a => some (.exit 2, ⟨[.junk, .junk, .junk, .junk, .junk, .junk, .junk, .junk, .junk, .junk, .junk, .junk, .junk, .junk, .junk, .junk, .junk, .junk, .junk, .junk, .junk, .junk, .junk], [], some (St a)⟩)) a0 h0
    (fun a i j hI h2 h1 => by
      have := getRange h1
      subst this
      rw [List.length_range] at h2
      obtain ⟨k1, k2⟩ := hr a j hI h2
      obtain ⟨x, y, z, hp⟩ : ∃ x y z, plc l j = [x, y, z] := by
        match hh : plc l j, plc_len l j with
        | [x, y, z], _ => exact ⟨x, y, z, rfl⟩
      have hx := fun e => okNext (n+1) b l [x, y, z] [u, v, w] (.int .i64 (many l)) (.int .i64 (j : Int)) e hl rfl hq.symm
      rw [hp] at k1 ⊢
      simp only [enP, List.map_cons, List.map_nil] at k1
      have hlt : (j : Int) < many l := by omega
      rw [rnd_eq]
      cases hg : g a j with
      | inl a' =>
        rw [hg] at k1
        dsimp only at k1
        refine ⟨?_, fun b hb => by injection hb with hb; subst hb; exact k2 a' hg⟩
        simp only [cI, List.map_cons, List.map_nil] at hx
        simp only [go_sem, Nat.reduceAdd, Nat.reduceSub, Nat.reduceMul, Nat.reduceDiv, Nat.reduceMod, Nat.reduceLeDiff, Nat.reduceLT, Nat.reduceBEq, Int.reduceToNat, Int.reduceLT, Int.reduceLE, Int.reduceEq, hlt, k1, cI]
        rw [hx]
        simp only [go_sem, Nat.reduceAdd, Nat.reduceSub, Nat.reduceMul, Nat.reduceDiv, Nat.reduceMod, Nat.reduceLeDiff, Nat.reduceLT, Nat.reduceBEq, Int.reduceToNat, Int.reduceLT, Int.reduceLE, Int.reduceEq, plc, hp, iL_cI, rL_cI]
        rw [wrpS (by omega)]
      | inr e =>
        rw [hg] at k1
        dsimp only at k1
        refine ⟨?_, fun b hb => by cases hb⟩
        simp only [go_sem, Nat.reduceAdd, Nat.reduceSub, Nat.reduceMul, Nat.reduceDiv, Nat.reduceMod, Nat.reduceLeDiff, Nat.reduceLT, Nat.reduceBEq, Int.reduceToNat, Int.reduceLT, Int.reduceLE, Int.reduceEq, hlt, k1, cI])
    (fun a _ => by
      rw [rnd_eq]
      rw [List.length_range]
      obtain ⟨x, y, z, hp⟩ : ∃ x y z, plc l N = [x, y, z] := by
        match hh : plc l N, plc_len l N with
        | [x, y, z], _ => exact ⟨x, y, z, rfl⟩
      have hlt : ¬ (N : Int) < many l := by omega
      simp only [go_sem, Nat.reduceAdd, Nat.reduceSub, Nat.reduceMul, Nat.reduceDiv, Nat.reduceMod, Nat.reduceLeDiff, Nat.reduceLT, Nat.reduceBEq, Int.reduceToNat, Int.reduceLT, Int.reduceLE, Int.reduceEq, hlt, hp, cI])
  rw [cast_0] at h
  simp only [plc, hq, cI, List.map_cons, List.map_nil] at h
  rw [h]
  clear h
  have k : ∀ (r : List Nat) (a : β), runL (γ := Option (AExit × S)) (fun a i => match g a i with | .inl a' => .inl a' | .inr e => .inr (some (.ret, ⟨[.junk, .junk, .junk, .junk, .junk, .junk, .junk, .junk, .junk, .junk, .junk, .junk, .junk, .junk, .junk, .junk, .junk, .junk, .junk, .junk, .junk, .junk, .junk], [], some e⟩))) (fun a => some (.exit 2, ⟨[.junk, .junk, .junk, .junk, .junk, .junk, .junk, .junk, .junk, .junk, .junk, .junk, .junk, .junk, .junk, .junk, .junk, .junk, .junk, .junk, .junk, .junk, .junk], [], some (St a)⟩)) a r = some (.ret, ⟨[.junk, .junk, .junk, .junk, .junk, .junk, .junk, .junk, .junk, .junk, .junk, .junk, .junk, .junk, .junk, .junk, .junk, .junk, .junk, .junk, .junk, .junk, .junk], [], some (runL g St a r)⟩) ∨
      runL (γ := Option (AExit × S)) (fun a i => match g a i with | .inl a' => .inl a' | .inr e => .inr (some (.ret, ⟨[.junk, .junk, .junk, .junk, .junk, .junk, .junk, .junk, .junk, .junk, .junk, .junk, .junk, .junk, .junk, .junk, .junk, .junk, .junk, .junk, .junk, .junk, .junk], [], some e⟩))) (fun a => some (.exit 2, ⟨[.junk, .junk, .junk, .junk, .junk, .junk, .junk, .junk, .junk, .junk, .junk, .junk, .junk, .junk, .junk, .junk, .junk, .junk, .junk, .junk, .junk, .junk, .junk], [], some (St a)⟩)) a r = some (.exit 2, ⟨[.junk, .junk, .junk, .junk, .junk, .junk, .junk, .junk, .junk, .junk, .junk, .junk, .junk, .junk, .junk, .junk, .junk, .junk, .junk, .junk, .junk, .junk, .junk], [], some (runL g St a r)⟩) := by
    intro r
    induction r with
    | nil => intro a; exact .inr rfl
    | cons i r ih =>
      intro a
      simp only [runL_cons]
      cases hg : g a i with
      | inl a' => exact ih a'
      | inr e => exact .inl rfl
  rcases k (List.range N) a0 with k | k <;> rw [k] <;> simp only [go_sem, Nat.reduceAdd, Nat.reduceSub, Nat.reduceMul, Nat.reduceDiv, Nat.reduceMod, Nat.reduceLeDiff, Nat.reduceLT, Nat.reduceBEq, Int.reduceToNat, Int.reduceLT, Int.reduceLE, Int.reduceEq]
end Go.Vm.P4Z

/- Chapter 04, functions: points. -/
set_option maxRecDepth 100000
set_option maxHeartbeats 2000000
namespace Go.Vm.P4Z
open Go Go.Vm Go.Vm.P4
theorem okCloneI (n : Nat) (b : Bool) (l : List Int) (hl : l.length < 1000000) : callI (level E (n+1)) 94 [slD b 1 (l.map ic)] = some (clV b 1 (l.map ic), clO 1 (l.map ic)) := by
  rw [i94]
  rcases l with _ | ⟨x, t⟩
  · cases b <;> simp only [go_sem, Nat.reduceAdd, Nat.reduceSub, Nat.reduceMul, Nat.reduceDiv, Nat.reduceMod, Nat.reduceLeDiff, Nat.reduceLT, Nat.reduceBEq, Int.reduceToNat, Int.reduceLT, Int.reduceLE, Int.reduceEq, slD, clV, clO, isNilSl, aEq] <;> rfl
  · have e : (t.length + 1) * 9 ≤ 70368744177664 := by simp at hl; omega
    have e0 : slD b 1 ((x :: t).map ic) = .sl 1 ((x :: t).map ic) := by cases b <;> rfl
    have e1 : clV b 1 ((x :: t).map ic) = .ref 0 1 0 (t.length + 1) := by cases b <;> simp [clV]
    rw [e0, e1]
    simp only [go_sem, Nat.reduceAdd, Nat.reduceSub, Nat.reduceMul, Nat.reduceDiv, Nat.reduceMod, Nat.reduceLeDiff, Nat.reduceLT, Nat.reduceBEq, Int.reduceToNat, Int.reduceLT, Int.reduceLE, Int.reduceEq, clO, e, isNilSl, aEq]
    done
theorem okAll (n : Nat) (b : Bool) (l : Bx) : callP (level E (n+1)) 102 [enB b l] = some (.fn 125 [] [.ptr [enB b l]]) := by
  rw [p102]
  simp only [go_sem, Nat.reduceAdd, Nat.reduceSub, Nat.reduceMul, Nat.reduceDiv, Nat.reduceMod, Nat.reduceLeDiff, Nat.reduceLT, Nat.reduceBEq, Int.reduceToNat, Int.reduceLT, Int.reduceLE, Int.reduceEq]
  done
theorem okOf (n : Nat) (c : Bool) (p : List Int) (hp : p.length ≤ 3) : callP (level E (n+1)) 83 [slD c 1 (p.map ic)] = some (enP ((p ++ [0, 0, 0]).take 3)) := by
  rw [p83]
  rcases p with _ | ⟨x, _ | ⟨y, _ | ⟨z, _ | ⟨u, p⟩⟩⟩⟩
  · simp only [go_sem, Nat.reduceAdd, Nat.reduceSub, Nat.reduceMul, Nat.reduceDiv, Nat.reduceMod, Nat.reduceLeDiff, Nat.reduceLT, Nat.reduceBEq, Int.reduceToNat, Int.reduceLT, Int.reduceLE, Int.reduceEq, enP, src_0]
  · simp only [go_sem, Nat.reduceAdd, Nat.reduceSub, Nat.reduceMul, Nat.reduceDiv, Nat.reduceMod, Nat.reduceLeDiff, Nat.reduceLT, Nat.reduceBEq, Int.reduceToNat, Int.reduceLT, Int.reduceLE, Int.reduceEq, enP, slD_c, ic]
  · simp only [go_sem, Nat.reduceAdd, Nat.reduceSub, Nat.reduceMul, Nat.reduceDiv, Nat.reduceMod, Nat.reduceLeDiff, Nat.reduceLT, Nat.reduceBEq, Int.reduceToNat, Int.reduceLT, Int.reduceLE, Int.reduceEq, enP, slD_c, ic]
  · simp only [go_sem, Nat.reduceAdd, Nat.reduceSub, Nat.reduceMul, Nat.reduceDiv, Nat.reduceMod, Nat.reduceLeDiff, Nat.reduceLT, Nat.reduceBEq, Int.reduceToNat, Int.reduceLT, Int.reduceLE, Int.reduceEq, enP, slD_c, ic]
  · simp at hp
theorem okCheckPoint (n : Nat) (b c : Bool) (l : Bx) (p : List Int) (hl : l.length < 1000000) : callP (level E (n+5)) 108 [enB b l, slD c 1 (p.map ic)] = some (.int .i64 (fnz [ckBox l, if p.length = l.length then 0 else 13])) := by
  rw [p108]
  have h1 := okCheckBox n b l hl
  have hf := okFirstL (n+3) [[.int .i64 (ckBox l)], [.int .i64 (if p.length = l.length then 0 else 13)]] [ckBox l, if p.length = l.length then 0 else 13] rfl (by simp)
  by_cases h : p.length = l.length
  · simp only [if_pos h] at hf
    simp only [go_sem, Nat.reduceAdd, Nat.reduceSub, Nat.reduceMul, Nat.reduceDiv, Nat.reduceMod, Nat.reduceLeDiff, Nat.reduceLT, Nat.reduceBEq, Int.reduceToNat, Int.reduceLT, Int.reduceLE, Int.reduceEq, h1, h, okWhen, ne_eq, not_true_eq_false, hf]
  · have h' : ¬ (p.length : Int) = l.length := by omega
    simp only [if_neg h] at hf
    simp only [go_sem, Nat.reduceAdd, Nat.reduceSub, Nat.reduceMul, Nat.reduceDiv, Nat.reduceMod, Nat.reduceLeDiff, Nat.reduceLT, Nat.reduceBEq, Int.reduceToNat, Int.reduceLT, Int.reduceLE, Int.reduceEq, h1, h, h', okWhen, ne_eq, not_false_eq_true, hf]
end Go.Vm.P4Z

/- Chapter 04, functions: Has, Index, Points. -/
set_option maxRecDepth 100000
set_option maxHeartbeats 2000000
namespace Go.Vm.P4Z
open Go Go.Vm Go.Vm.P4
def ckPoint (l : Bx) (p : List Int) : Int := fnz [ckBox l, if p.length = l.length then 0 else 13]
theorem ckPoint0 {l : Bx} {p : List Int} (h : ckPoint l p = 0) : ckBox l = 0 ∧ p.length = l.length := by
  have h1 := fz0 _ h (ckBox l) (by simp)
  have h3 := fz0 _ h (if p.length = l.length then 0 else 13) (by simp)
  refine ⟨h1, ?_⟩
  split at h3
  · assumption
  · omega
theorem ckBox0 {l : Bx} (h : ckBox l = 0) : 1 ≤ l.length ∧ l.length ≤ 3 ∧ (∀ r ∈ l, ckRange r = 0) ∧ many l ≤ 4096 := by
  unfold ckBox at h
  split at h
  · omega
  · have h1 := fz0 _ h (fnz (l.map ckRange)) (by simp)
    have h3 := fz0 _ h (if 4096 < many l then 5 else 0) (by simp)
    refine ⟨by omega, by omega, fun r hr => fz0 _ h1 _ (List.mem_map_of_mem hr), ?_⟩
    split at h3
    · omega
    · omega
theorem okIndex (n : Nat) (b c : Bool) (l : Bx) (p : List Int) (hl : l.length < 1000000) : callP (level E (n+6)) 54 [enB b l, slD c 1 (p.map ic)] =
    some (.tup (if ckPoint l p = 0 then (if hasB l p then [.int .i64 (elt l ((p ++ [0, 0, 0]).take 3) (strides 1 l) 0), .int .i64 0] else [.int .i64 0, .int .i64 14]) else [.int .i64 0, .int .i64 (ckPoint l p)])) := by
  rw [p54]
  have h1 : callP (level E (n+5)) 108 [enB b l, slD c 1 (p.map ic)] = some (.int .i64 (ckPoint l p)) := okCheckPoint n b c l p hl
  by_cases h : ckPoint l p = 0
  · obtain ⟨k1, k2⟩ := ckPoint0 h
    obtain ⟨k3, k4, _, _⟩ := ckBox0 k1
    have h2 := okHas0 (n+4) b c l p (by omega) (by omega)
    have h3 := okDense (n+4) b l (by omega)
    have h4 := okOf (n+4) c p (by omega)
    have h5 := okElement (n+4) b true l (strides 1 l) ((p ++ [0, 0, 0]).take 3) k4 (by rw [strides_len]; omega) (by simp)
    cases hh : hasB l p
    · rw [hh] at h2
      simp only [go_sem, Nat.reduceAdd, Nat.reduceSub, Nat.reduceMul, Nat.reduceDiv, Nat.reduceMod, Nat.reduceLeDiff, Nat.reduceLT, Nat.reduceBEq, Int.reduceToNat, Int.reduceLT, Int.reduceLE, Int.reduceEq, h1, h, ne_eq, not_true_eq_false, h2]
    · rw [hh] at h2
      simp only [go_sem, Nat.reduceAdd, Nat.reduceSub, Nat.reduceMul, Nat.reduceDiv, Nat.reduceMod, Nat.reduceLeDiff, Nat.reduceLT, Nat.reduceBEq, Int.reduceToNat, Int.reduceLT, Int.reduceLE, Int.reduceEq, h1, h, ne_eq, not_true_eq_false, h2, h3, h4, h5]
  · simp only [go_sem, Nat.reduceAdd, Nat.reduceSub, Nat.reduceMul, Nat.reduceDiv, Nat.reduceMod, Nat.reduceLeDiff, Nat.reduceLT, Nat.reduceBEq, Int.reduceToNat, Int.reduceLT, Int.reduceLE, Int.reduceEq, h1, h, ne_eq, not_false_eq_true]
def pD (l : Bx) (i : Nat) : D := .sl 1 (((plc l i).take l.length).map ic)
def PoSt (b : Bool) (l : Bx) (acc : List (List D)) : Ext :=
  ⟨[9, 10], b52_0, b52_1, [.imm (enB b l), .imm .nil, .imm (.int .i64 0), .imm (.ptr [enB b l]), .imm (.int .i64 0), .ptr 0 0, .junk, .imm (.bool false), .imm (.fn 125 [] [.ptr [enB b l]]), .junk, .junk], .box [vK 1 1 acc] :: oK 1 acc, 0, none⟩
theorem okPointsR (n : Nat) (b : Bool) (l : Bx) (h1 : 1 ≤ l.length) (h3 : l.length ≤ 3) (acc : List (List D)) (i : Nat) (ha : acc.length = i) (hi : i < 1000000) :
    (level E (n+2)).round (PoSt b l acc) [.int .i64 (i : Int), enP (plc l i)] = some (PoSt b l (acc ++ [[pD l i]]), true) := by
  obtain ⟨x, y, z, hp⟩ : ∃ x y z, plc l i = [x, y, z] := by
    match hh : plc l i, plc_len l i with
    | [x, y, z], _ => exact ⟨x, y, z, rfl⟩
  have c1 := okCloneI n false [x] (by simp)
  have c2 := okCloneI n false [x, y] (by simp)
  have c3 := okCloneI n false [x, y, z] (by simp)
  unfold PoSt pD
  rw [hp, round_go rfl]
  have e1 : (acc.length + 1) * 25 ≤ 70368744177664 := by omega
  simp only [clV, clO, slD, List.map_cons, List.map_nil, ic] at c1 c2 c3
  rcases l with _ | ⟨r, _ | ⟨s, _ | ⟨t, _ | ⟨u, l⟩⟩⟩⟩
  · simp at h1
  · rcases acc with _ | ⟨w, acc⟩
    · simp only [go_sem, Nat.reduceAdd, Nat.reduceSub, Nat.reduceMul, Nat.reduceDiv, Nat.reduceMod, Nat.reduceLeDiff, Nat.reduceLT, Nat.reduceBEq, Int.reduceToNat, Int.reduceLT, Int.reduceLE, Int.reduceEq, enP, vK, oK, ic, c1]
    · simp only [List.length_cons] at e1
      simp only [go_sem, Nat.reduceAdd, Nat.reduceSub, Nat.reduceMul, Nat.reduceDiv, Nat.reduceMod, Nat.reduceLeDiff, Nat.reduceLT, Nat.reduceBEq, Int.reduceToNat, Int.reduceLT, Int.reduceLE, Int.reduceEq, enP, vK, oK, ic, c1, e1]
  · rcases acc with _ | ⟨w, acc⟩
    · simp only [go_sem, Nat.reduceAdd, Nat.reduceSub, Nat.reduceMul, Nat.reduceDiv, Nat.reduceMod, Nat.reduceLeDiff, Nat.reduceLT, Nat.reduceBEq, Int.reduceToNat, Int.reduceLT, Int.reduceLE, Int.reduceEq, enP, vK, oK, ic, c2]
    · simp only [List.length_cons] at e1
      simp only [go_sem, Nat.reduceAdd, Nat.reduceSub, Nat.reduceMul, Nat.reduceDiv, Nat.reduceMod, Nat.reduceLeDiff, Nat.reduceLT, Nat.reduceBEq, Int.reduceToNat, Int.reduceLT, Int.reduceLE, Int.reduceEq, enP, vK, oK, ic, c2, e1]
  · rcases acc with _ | ⟨w, acc⟩
    · simp only [go_sem, Nat.reduceAdd, Nat.reduceSub, Nat.reduceMul, Nat.reduceDiv, Nat.reduceMod, Nat.reduceLeDiff, Nat.reduceLT, Nat.reduceBEq, Int.reduceToNat, Int.reduceLT, Int.reduceLE, Int.reduceEq, enP, vK, oK, ic, c3]
    · simp only [List.length_cons] at e1
      simp only [go_sem, Nat.reduceAdd, Nat.reduceSub, Nat.reduceMul, Nat.reduceDiv, Nat.reduceMod, Nat.reduceLeDiff, Nat.reduceLT, Nat.reduceBEq, Int.reduceToNat, Int.reduceLT, Int.reduceLE, Int.reduceEq, enP, vK, oK, ic, c3, e1]
  · simp at h3
end Go.Vm.P4Z

/- Chapter 04, functions: Points of right boxes. -/
set_option maxRecDepth 100000
set_option maxHeartbeats 2000000
namespace Go.Vm.P4Z
open Go Go.Vm Go.Vm.P4
theorem ckRange0 {r : Rg} (h : ckRange r = 0) : -1048576 ≤ r.lo ∧ r.lo ≤ 1048576 ∧ 0 ≤ r.ex ∧ r.ex ≤ 64 ∧ r.lo + r.ex ≤ 1048577 := by
  unfold ckRange at h
  split at h
  · omega
  · omega
theorem ml_ok {a b m : Int} (ha : 0 ≤ a) (ha2 : a ≤ m) (hb : 0 ≤ b) (hb2 : b ≤ 64) (hm : m ≤ 1000000) : ml a b = a * b ∧ 0 ≤ a * b ∧ a * b ≤ m * 64 := by
  have h1 : 0 ≤ a * b := Int.mul_nonneg ha hb
  have h2 : a * b ≤ m * 64 := Int.mul_le_mul ha2 hb2 hb (by omega)
  exact ⟨wrp_ok (by omega), h1, h2⟩
theorem many_nn {l : Bx} (hl : l.length ≤ 3) (h : ∀ r ∈ l, ckRange r = 0) : 0 ≤ many l ∧ many l ≤ 262144 := by
  rcases l with _ | ⟨r, _ | ⟨s, _ | ⟨t, _ | ⟨u, l⟩⟩⟩⟩
  · exact ⟨by decide, by decide⟩
  · have hr := ckRange0 (h r (by simp))
    obtain ⟨e1, e2, e3⟩ := ml_ok (a := 1) (m := 1) (by omega) (by omega) hr.2.2.1 hr.2.2.2.1 (by omega)
    simp only [many, List.foldl_cons, List.foldl_nil, e1]
    exact ⟨e2, by omega⟩
  · have hr := ckRange0 (h r (by simp))
    have hs := ckRange0 (h s (by simp))
    obtain ⟨e1, e2, e3⟩ := ml_ok (a := 1) (m := 1) (by omega) (by omega) hr.2.2.1 hr.2.2.2.1 (by omega)
    obtain ⟨f1, f2, f3⟩ := ml_ok (m := 64) e2 (by omega) hs.2.2.1 hs.2.2.2.1 (by omega)
    simp only [many, List.foldl_cons, List.foldl_nil, e1, f1]
    exact ⟨f2, by omega⟩
  · have hr := ckRange0 (h r (by simp))
    have hs := ckRange0 (h s (by simp))
    have ht := ckRange0 (h t (by simp))
    obtain ⟨e1, e2, e3⟩ := ml_ok (a := 1) (m := 1) (by omega) (by omega) hr.2.2.1 hr.2.2.2.1 (by omega)
    obtain ⟨f1, f2, f3⟩ := ml_ok (m := 64) e2 (by omega) hs.2.2.1 hs.2.2.2.1 (by omega)
    obtain ⟨g1, g2, g3⟩ := ml_ok (m := 4096) f2 (by omega) ht.2.2.1 ht.2.2.2.1 (by omega)
    simp only [many, List.foldl_cons, List.foldl_nil, e1, f1, g1]
    exact ⟨g2, by omega⟩
  · simp at hl
theorem many_nat {l : Bx} (hc : ckBox l = 0) : ∃ N : Nat, many l = N ∧ N ≤ 4096 := by
  obtain ⟨h1, h2, h3, h4⟩ := ckBox0 hc
  obtain ⟨h5, h6⟩ := many_nn h2 h3
  exact ⟨(many l).toNat, by omega, by omega⟩
theorem fold_snoc {α β : Type} (f : α → β) : ∀ (l : List α) (acc : List β), l.foldl (fun a x => a ++ [f x]) acc = acc ++ l.map f
  | [], acc => by simp
  | x :: l, acc => by simp only [List.foldl_cons, fold_snoc f l, List.map_cons, List.append_assoc, List.cons_append, List.nil_append]
def ptsD (l : Bx) (N : Nat) : D := slD true 1 ((List.range N).map fun i => [pD l i])
theorem okPointsS (n : Nat) (b : Bool) (l : Bx) (hc : ckBox l = 0) (N : Nat) (hN : many l = N) : callP (level E (n+5)) 52 [enB b l] = some (.tup [ptsD l N, .int .i64 0]) := by
  obtain ⟨h1, h2, h3, h4⟩ := ckBox0 hc
  have hN2 : N ≤ 4096 := by omega
  rw [p52]
  have c1 := okCheckBox n b l (by omega)
  have a1 := okAll (n+3) b l
  have h := okAll1 (n+2) b l h2 N hN (by omega) (PoSt b l) (fun a i => a.length = i) (fun a i => .inl (a ++ [[pD l i]])) [] rfl
    (fun a i hI hi => ⟨okPointsR (n+1) b l h1 h2 a i hI (by omega), fun a' ha => by injection ha with ha; subst ha; simp [hI]⟩)
  rw [runL_fold, fold_snoc, List.nil_append] at h
  simp only [PoSt, enB, vK, oK] at h
  simp only [go_sem, Nat.reduceAdd, Nat.reduceSub, Nat.reduceMul, Nat.reduceDiv, Nat.reduceMod, Nat.reduceLeDiff, Nat.reduceLT, Nat.reduceBEq, Int.reduceToNat, Int.reduceLT, Int.reduceLE, Int.reduceEq, c1, hc, ne_eq, not_true_eq_false, a1]
  rw [h]
  cases hq : (List.range N).map (fun i => [pD l i]) with
  | nil =>
    simp only [go_sem, Nat.reduceAdd, Nat.reduceSub, Nat.reduceMul, Nat.reduceDiv, Nat.reduceMod, Nat.reduceLeDiff, Nat.reduceLT, Nat.reduceBEq, Int.reduceToNat, Int.reduceLT, Int.reduceLE, Int.reduceEq, ptsD, hq] <;> rfl
  | cons w t =>
    simp only [go_sem, Nat.reduceAdd, Nat.reduceSub, Nat.reduceMul, Nat.reduceDiv, Nat.reduceMod, Nat.reduceLeDiff, Nat.reduceLT, Nat.reduceBEq, Int.reduceToNat, Int.reduceLT, Int.reduceLE, Int.reduceEq, ptsD, hq] <;> rfl
end Go.Vm.P4Z

/- Chapter 04, functions: values and elements are checked. -/
set_option maxRecDepth 100000
set_option maxHeartbeats 2000000
namespace Go.Vm.P4Z
open Go Go.Vm Go.Vm.P4
theorem okIsKind (n : Nat) (k : Int) : callP (level E (n+1)) 114 [.int .i64 k] = some (.bool (decide (0 ≤ k) && decide (k < 11))) := by
  rw [p114]
  by_cases h : k ≥ 0
  · have h' : 0 ≤ k := h
    simp only [go_sem, Nat.reduceAdd, Nat.reduceSub, Nat.reduceMul, Nat.reduceDiv, Nat.reduceMod, Nat.reduceLeDiff, Nat.reduceLT, Nat.reduceBEq, Int.reduceToNat, Int.reduceLT, Int.reduceLE, Int.reduceEq, h, h']
  · have h' : ¬ 0 ≤ k := h
    simp only [go_sem, Nat.reduceAdd, Nat.reduceSub, Nat.reduceMul, Nat.reduceDiv, Nat.reduceMod, Nat.reduceLeDiff, Nat.reduceLT, Nat.reduceBEq, Int.reduceToNat, Int.reduceLT, Int.reduceLE, Int.reduceEq, h, h']
def ckKind (k : Int) : Int := if 0 ≤ k ∧ k < 11 then 0 else 11
theorem okCheckKind (n : Nat) (k : Int) : callP (level E (n+2)) 66 [.int .i64 k] = some (.int .i64 (ckKind k)) := by
  rw [p66]
  have h1 := okIsKind n k
  by_cases h : 0 ≤ k
  · by_cases h2 : k < 11
    · simp only [go_sem, Nat.reduceAdd, Nat.reduceSub, Nat.reduceMul, Nat.reduceDiv, Nat.reduceMod, Nat.reduceLeDiff, Nat.reduceLT, Nat.reduceBEq, Int.reduceToNat, Int.reduceLT, Int.reduceLE, Int.reduceEq, h1, h, h2, okNwhen, ckKind, and_self, Bool.false_eq_true]
    · simp only [go_sem, Nat.reduceAdd, Nat.reduceSub, Nat.reduceMul, Nat.reduceDiv, Nat.reduceMod, Nat.reduceLeDiff, Nat.reduceLT, Nat.reduceBEq, Int.reduceToNat, Int.reduceLT, Int.reduceLE, Int.reduceEq, h1, h, h2, okNwhen, ckKind, and_false, Bool.false_eq_true]
  · simp only [go_sem, Nat.reduceAdd, Nat.reduceSub, Nat.reduceMul, Nat.reduceDiv, Nat.reduceMod, Nat.reduceLeDiff, Nat.reduceLT, Nat.reduceBEq, Int.reduceToNat, Int.reduceLT, Int.reduceLE, Int.reduceEq, h1, h, okNwhen, ckKind, false_and, Bool.false_eq_true]
def bits8 (v : Int) : Prop := wrp .u64 ((BitVec.ofInt 64 v &&& ~~~ BitVec.ofInt 64 255).toNat : Nat) = 0
theorem okOnes8 (n : Nat) : callP (level E (n+1)) 127 [.int .i64 8] = some (.int .u64 255) := by
  rw [p127]
  have s8 : aBin .shl (.imm (.int .u64 1)) (.imm (.int .i64 8)) = some (.imm (.int .u64 256)) := rfl
  have w8 : wrp .u64 (256 - 1) = 255 := by decide
  simp only [go_sem, Nat.reduceAdd, Nat.reduceSub, Nat.reduceMul, Nat.reduceDiv, Nat.reduceMod, Nat.reduceLeDiff, Nat.reduceLT, Nat.reduceBEq, Int.reduceToNat, Int.reduceLT, Int.reduceLE, Int.reduceEq, s8, w8]
theorem okRight8 (n : Nat) (v : Int) (hv : bits8 v) : callP (level E (n+2)) 119 [.int .i64 1, .int .u64 v] = some (.bool true) := by
  rw [p119]
  have h := okOnes8 n
  have hv' : wrp .u64 ((BitVec.ofInt 64 v &&& ~~~ BitVec.ofInt 64 255).toNat : Nat) = 0 := hv
  simp only [go_sem, Nat.reduceAdd, Nat.reduceSub, Nat.reduceMul, Nat.reduceDiv, Nat.reduceMod, Nat.reduceLeDiff, Nat.reduceLT, Nat.reduceBEq, Int.reduceToNat, Int.reduceLT, Int.reduceLE, Int.reduceEq, h]
  exact congrArg (fun b => some (D.bool b)) (decide_eq_true hv)
theorem okCheckValue8 (n : Nat) (v : Int) (hv : bits8 v) : callP (level E (n+3)) 81 [.agg [.int .i64 1, .int .u64 v]] = some (.int .i64 0) := by
  rw [p81]
  have h := okRight8 n v hv
  have h1 := okIsKind (n+1) 1
  simp only [go_sem, Nat.reduceAdd, Nat.reduceSub, Nat.reduceMul, Nat.reduceDiv, Nat.reduceMod, Nat.reduceLeDiff, Nat.reduceLT, Nat.reduceBEq, Int.reduceToNat, Int.reduceLT, Int.reduceLE, Int.reduceEq, h1, h, okNwhen, Bool.false_eq_true]
theorem okCheck8 (n : Nat) (v : Int) (hv : bits8 v) : callP (level E (n+4)) 72 [.int .i64 1, .int .u64 v] = some (.int .i64 0) := by
  rw [p72]
  have h := okCheckValue8 n v hv
  simp only [go_sem, Nat.reduceAdd, Nat.reduceSub, Nat.reduceMul, Nat.reduceDiv, Nat.reduceMod, Nat.reduceLeDiff, Nat.reduceLT, Nat.reduceBEq, Int.reduceToNat, Int.reduceLT, Int.reduceLE, Int.reduceEq, h, ne_eq, not_true_eq_false, okWhen, Bool.false_eq_true]
def ub (v : Int) : List D := [.int .u64 v]
attribute [go_sem] ub
theorem okMapU (n : Nat) (b : Bool) (l : List Int) (f : FuncId) (caps : List D) (k : Int → Int) (hl : l.length < 1000000) (H : ∀ v ∈ l, callP (level E n) f ([.int .u64 v] ++ caps) = some (.int .i64 (k v))) :
    callP (level E (n+1)) 123 [slD b 1 (l.map ub), .fn f [] caps] = some (slD false 1 ((l.map k).map ic)) := by
  rw [p123]
  have e0 : (8 : Int) * (l.length : Int) ≤ 70368744177664 := by omega
  have e2 : (l.length : Int) ≤ 70368744177664 := by omega
  have e3 : (0 : Int) ≤ (l.length : Int) := by omega
  simp only [go_sem, Nat.reduceAdd, Nat.reduceSub, Nat.reduceMul, Nat.reduceDiv, Nat.reduceMod, Nat.reduceLeDiff, Nat.reduceLT, Nat.reduceBEq, Int.reduceToNat, Int.reduceLT, Int.reduceLE, Int.reduceEq, e0, e2, e3]
  have h := loop_fold (f := aCode (level E (n)) ⟨0, false⟩ b123_0) (h := head ⟨0, false⟩ [0, 1, 0, 1, 0, 1, 1, 1, 0]) (Φ := outC ⟨0, false⟩ [0, 0, 0, 1, 0, 0, 0, 0, 0]) l (fun (a : List Int) i => ⟨[.junk, .imm (.fn f [] caps), .junk, .ref 0 1 0 a.length, .junk, .imm (slD b 1 (l.map ub)), .imm (.int .i64 l.length), .imm (.int .i64 i), .junk], [.arr 1 (a.map ic)], none⟩) (fun a i => a.length = i)
    (fun a x => a ++ [k x]) (fun a => some (.exit 0, ⟨[.junk, .junk, .junk, .ref 0 1 0 a.length, .junk, .junk, .junk, .junk, .junk], [.arr 1 (a.map ic)], none⟩)) [] rfl
    (fun a i x hI h2 h1 => by
      refine ⟨?_, by simp [hI]⟩
      rw [rnd_eq]
      have e1 : (a.length + 1) * 9 ≤ 70368744177664 := by omega
      have H' := H x (List.mem_of_getElem? h1)
      simp only [List.cons_append, List.nil_append] at H'
      simp only [go_sem, Nat.reduceAdd, Nat.reduceSub, Nat.reduceMul, Nat.reduceDiv, Nat.reduceMod, Nat.reduceLeDiff, Nat.reduceLT, Nat.reduceBEq, Int.reduceToNat, Int.reduceLT, Int.reduceLE, Int.reduceEq, lt_t h2, h1, e1, H']
      rw [wrpS (by omega)])
    (fun a _ => by
      rw [rnd_eq]
      simp only [go_sem, Nat.reduceAdd, Nat.reduceSub, Nat.reduceMul, Nat.reduceDiv, Nat.reduceMod, Nat.reduceLeDiff, Nat.reduceLT, Nat.reduceBEq, Int.reduceToNat, Int.reduceLT, Int.reduceLE, Int.reduceEq, lt_f (Nat.le_refl _)])
  rw [cast_0] at h
  simp only [List.map_nil, List.length_nil] at h
  rw [h]
  clear h
  rw [fold_snoc, List.nil_append]
  simp only [go_sem, Nat.reduceAdd, Nat.reduceSub, Nat.reduceMul, Nat.reduceDiv, Nat.reduceMod, Nat.reduceLeDiff, Nat.reduceLT, Nat.reduceBEq, Int.reduceToNat, Int.reduceLT, Int.reduceLE, Int.reduceEq, slD]
theorem okElements (n : Nat) (b : Bool) (kd : Int) (l : List Int) (k : Int → Int) (hl : l.length < 1000000) (H : ∀ v ∈ l, callP (level E (n+1)) 72 [.int .i64 kd, .int .u64 v] = some (.int .i64 (k v))) :
    callP (level E (n+4)) 97 [.int .i64 kd, slD b 1 (l.map ub)] = some (.int .i64 (fnz (l.map k))) := by
  rw [p97]
  have h1 := okMapU (n+2) b l 124 [.ptr [.int .i64 kd]] k hl (fun v hv => by
    have h := H v hv
    show callP (level E (n+1+1)) 124 [.int .u64 v, .ptr [.int .i64 kd]] = _
    rw [p124]
    simp only [go_sem, Nat.reduceAdd, Nat.reduceSub, Nat.reduceMul, Nat.reduceDiv, Nat.reduceMod, Nat.reduceLeDiff, Nat.reduceLT, Nat.reduceBEq, Int.reduceToNat, Int.reduceLT, Int.reduceLE, Int.reduceEq, h])
  have h2 := okFirst (n+2) false (l.map k) (by simp; omega)
  simp only [go_sem, Nat.reduceAdd, Nat.reduceSub, Nat.reduceMul, Nat.reduceDiv, Nat.reduceMod, Nat.reduceLeDiff, Nat.reduceLT, Nat.reduceBEq, Int.reduceToNat, Int.reduceLT, Int.reduceLE, Int.reduceEq, h1, h2]
theorem okCheck_1 (n : Nat) (x : Int) : callP (level E (n+2)) 107 [.int .i64 x] = some (.bool (!(decide (x ≥ 0) && decide (x ≤ 4096)))) := by
  rw [p107]
  have h1 := okWithin n x 0 4096
  simp only [go_sem, Nat.reduceAdd, Nat.reduceSub, Nat.reduceMul, Nat.reduceDiv, Nat.reduceMod, Nat.reduceLeDiff, Nat.reduceLT, Nat.reduceBEq, Int.reduceToNat, Int.reduceLT, Int.reduceLE, Int.reduceEq, h1]
def idxOf (q : Int → Bool) : List Int → Nat → Int
  | [], _ => -1
  | x :: r, i => if q x then i else idxOf q r (i + 1)
theorem okIndexf (n : Nat) (b : Bool) (l : List Int) (f : FuncId) (q : Int → Bool) (hl : l.length < 1000000000) (H : ∀ x ∈ l, callP (level E n) f [.int .i64 x] = some (.bool (q x))) :
    callP (level E (n+1)) 118 [slD b 1 (l.map ic), .fn f [] []] = some (.int .i64 (idxOf q l 0)) := by
  rw [p118]
  simp only [go_sem, Nat.reduceAdd, Nat.reduceSub, Nat.reduceMul, Nat.reduceDiv, Nat.reduceMod, Nat.reduceLeDiff, Nat.reduceLT, Nat.reduceBEq, Int.reduceToNat, Int.reduceLT, Int.reduceLE, Int.reduceEq]
  have h := loop_run (f := aCode (level E (n)) ⟨0, false⟩ b118_0) (h := head ⟨0, false⟩ [1, 1, 0, 0, 1, 1, 0, 0]) (Φ := outC ⟨0, false⟩ [0, 0, 1, 0, 0, 0, 0, 0]) l (fun (j : Nat) i => ⟨[.imm (slD b 1 (l.map ic)), .imm (.fn f [] []), .junk, .junk, .imm (.int .i64 l.length), .imm (.int .i64 i), .junk, .junk], [], none⟩) (fun j i => j = i)
    (fun j x => if q x then .inr (some (.ret, ⟨[.junk, .junk, .imm (.int .i64 j), .junk, .junk, .junk, .junk, .junk], [], none⟩)) else .inl (j + 1)) (fun _ => some (.exit 0, ⟨[.junk, .junk, .junk, .junk, .junk, .junk, .junk, .junk], [], none⟩)) 0 rfl
    (fun j i x hI h2 h1 => by
      subst hI
      refine ⟨?_, fun j' hj => ?_⟩
      · rw [rnd_eq]
        have H' := H x (List.mem_of_getElem? h1)
        cases hq : q x
        · rw [hq] at H'
          simp only [go_sem, Nat.reduceAdd, Nat.reduceSub, Nat.reduceMul, Nat.reduceDiv, Nat.reduceMod, Nat.reduceLeDiff, Nat.reduceLT, Nat.reduceBEq, Int.reduceToNat, Int.reduceLT, Int.reduceLE, Int.reduceEq, lt_t h2, h1, H']
          rw [wrpS (by omega)]
        · rw [hq] at H'
          simp only [go_sem, Nat.reduceAdd, Nat.reduceSub, Nat.reduceMul, Nat.reduceDiv, Nat.reduceMod, Nat.reduceLeDiff, Nat.reduceLT, Nat.reduceBEq, Int.reduceToNat, Int.reduceLT, Int.reduceLE, Int.reduceEq, lt_t h2, h1, H']
      · split at hj
        · cases hj
        · injection hj with hj; exact hj.symm)
    (fun _ _ => by
      rw [rnd_eq]
      simp only [go_sem, Nat.reduceAdd, Nat.reduceSub, Nat.reduceMul, Nat.reduceDiv, Nat.reduceMod, Nat.reduceLeDiff, Nat.reduceLT, Nat.reduceBEq, Int.reduceToNat, Int.reduceLT, Int.reduceLE, Int.reduceEq, lt_f (Nat.le_refl _)])
  rw [cast_0] at h
  rw [h]
  clear h hl H
  have e : ∀ (l : List Int) (j : Nat), runL (γ := Option (AExit × S)) (fun (j : Nat) x => if q x then .inr (some (.ret, ⟨[.junk, .junk, .imm (.int .i64 j), .junk, .junk, .junk, .junk, .junk], [], none⟩)) else .inl (j + 1)) (fun _ => some (.exit 0, ⟨[.junk, .junk, .junk, .junk, .junk, .junk, .junk, .junk], [], none⟩)) j l =
      (if idxOf q l j < 0 then some (.exit 0, ⟨[.junk, .junk, .junk, .junk, .junk, .junk, .junk, .junk], [], none⟩) else some (.ret, ⟨[.junk, .junk, .imm (.int .i64 (idxOf q l j)), .junk, .junk, .junk, .junk, .junk], [], none⟩)) := by
    intro l
    induction l with
    | nil => intro j; simp [runL_nil, idxOf]
    | cons x r ih =>
      intro j
      cases hq : q x
      · simp only [runL_cons, hq, Bool.false_eq_true, if_false, idxOf]; exact ih _
      · have : ¬ (j : Int) < 0 := by omega
        simp only [runL_cons, hq, if_true, idxOf, this, if_false]
  have e2 : ∀ (l : List Int) (j : Nat), idxOf q l j < 0 → idxOf q l j = -1 := by
    intro l
    induction l with
    | nil => intro j _; rfl
    | cons x r ih =>
      intro j
      cases hq : q x
      · simp only [hq, Bool.false_eq_true, if_false, idxOf]; exact ih _
      · simp only [hq, if_true, idxOf]; intro h; omega
  rw [e]
  by_cases h0 : idxOf q l 0 < 0
  · have h1 := e2 l 0 h0
    simp only [go_sem, Nat.reduceAdd, Nat.reduceSub, Nat.reduceMul, Nat.reduceDiv, Nat.reduceMod, Nat.reduceLeDiff, Nat.reduceLT, Nat.reduceBEq, Int.reduceToNat, Int.reduceLT, Int.reduceLE, Int.reduceEq, h0, h1]
  · simp only [go_sem, Nat.reduceAdd, Nat.reduceSub, Nat.reduceMul, Nat.reduceDiv, Nat.reduceMod, Nat.reduceLeDiff, Nat.reduceLT, Nat.reduceBEq, Int.reduceToNat, Int.reduceLT, Int.reduceLE, Int.reduceEq, h0]
theorem idxOf_nn (q : Int → Bool) : ∀ (l : List Int) (j : Nat), decide (idxOf q l j ≥ 0) = l.any q
  | [], j => by simp [idxOf]
  | x :: r, j => by
    cases hq : q x
    · simp only [idxOf, hq, Bool.false_eq_true, if_false, List.any_cons, Bool.false_or]; exact idxOf_nn q r _
    · have : (j : Int) ≥ 0 := by omega
      simp [idxOf, hq, this]
theorem okContains (n : Nat) (b : Bool) (l : List Int) (f : FuncId) (q : Int → Bool) (hl : l.length < 1000000000) (H : ∀ x ∈ l, callP (level E n) f [.int .i64 x] = some (.bool (q x))) :
    callP (level E (n+2)) 80 [slD b 1 (l.map ic), .fn f [] []] = some (.bool (l.any q)) := by
  rw [p80]
  have h := okIndexf n b l f q hl H
  simp only [go_sem, Nat.reduceAdd, Nat.reduceSub, Nat.reduceMul, Nat.reduceDiv, Nat.reduceMod, Nat.reduceLeDiff, Nat.reduceLT, Nat.reduceBEq, Int.reduceToNat, Int.reduceLT, Int.reduceLE, Int.reduceEq, h, idxOf_nn]
end Go.Vm.P4Z

/- Chapter 04, functions: Check. -/
set_option maxRecDepth 100000
set_option maxHeartbeats 4000000
namespace Go.Vm.P4Z
open Go Go.Vm Go.Vm.P4
structure Im where
  kd : Int
  bb : Bool
  bx : Bx
  tb : Bool
  st : List Int
  db : Bool
  dt : List Int
def enIm (m : Im) : D := .agg [.int .i64 m.kd, enB m.bb m.bx, slD m.tb 1 (m.st.map ic), slD m.db 1 (m.dt.map ub)]
def ckA (m : Im) : Int := fnz [ckKind m.kd, ckBox m.bx, if m.st.length = m.bx.length then 0 else 2]
def ckB (m : Im) : Int := fnz [if m.st.any (fun x => !(decide (x ≥ 0) && decide (x ≤ 4096))) then 3 else 0, if 4096 < m.dt.length then 5 else 0]
def elAt (m : Im) (i : Nat) : Int := elt m.bx (plc m.bx i) m.st 0
def tkD (T : List Int) : List (Int × D) := T.map (fun k => (k, .bool true))
def CkV (m : Im) (p7 p8 : Nat) : List AV := [.imm (enIm m), .imm (.int .i64 0), .imm (.ptr [.int .i64 m.kd, enB m.bb m.bx, slD m.tb 1 (m.st.map ic), slD m.db 1 (m.dt.map ub)]), .imm (.int .i64 0), .imm (.fn 107 [] []), .imm (.int .i64 0), .imm (.int .i64 0), .ptr p7 0, .ptr p8 0, .junk, .junk, .imm (.bool false), .imm (.bool false), .imm (.bool false), .imm (.fn 125 [] [.ptr [enB m.bb m.bx]]), .junk, .junk, .junk, .junk]
def CkSt (m : Im) : Option (List Int) → Ext
  | none => ⟨[15, 16], b50_0, b50_1, CkV m 1 2, [.imap [], .box [.map 0], .box [.imm (.int .i64 0)]], 0, none⟩
  | some T => ⟨[15, 16], b50_0, b50_1, CkV m 0 1, [.box [.map 2], .box [.imm (.int .i64 0)], .imap (tkD T)], 0, none⟩
def CkEnd (m : Im) (T : List Int) (e : Int) : Ext := ⟨[15, 16], b50_0, b50_1, CkV m 0 1, [.box [.map 2], .box [.imm (.int .i64 e)], .imap (tkD T)], 0, some (.exit 0)⟩
def CkG (m : Im) (a : Option (List Int)) (i : Nat) : Option (List Int) ⊕ Ext :=
  let T := a.getD []
  if (m.dt.length : Int) ≤ elAt m i then .inr (CkEnd m T 14) else if elAt m i ∈ T then .inr (CkEnd m T 26) else .inl (some (T ++ [elAt m i]))
theorem look_tk : ∀ (T : List Int) (k : Int), lookI (tkD T) k = if k ∈ T then some (.bool true) else none
  | [], k => by simp [lookI, tkD]
  | x :: T, k => by
    have ih := look_tk T k
    simp only [lookI, tkD] at ih ⊢
    by_cases h : x = k
    · subst h; simp
    · have h' : ¬ k = x := fun e => h e.symm
      simp only [List.map_cons, List.find?_cons, List.mem_cons, h', false_or, show (x == k) = false from by simp [h]]
      exact ih
theorem set_tk : ∀ (T : List Int) (k : Int), k ∉ T → mapSet (tkD T) k (.bool true) = tkD (T ++ [k])
  | [], k, _ => by simp [mapSet, tkD]
  | x :: T, k, h => by
    have ih := set_tk T k (fun hc => h (List.mem_cons_of_mem _ hc))
    have h' : ¬ x = k := fun e => h (by subst e; simp)
    simp only [tkD, List.map_cons, List.cons_append, mapSet, h', if_false] at ih ⊢
    rw [ih]
theorem okCheckR (n : Nat) (m : Im) (h3 : m.bx.length ≤ 3) (hs : m.bx.length = m.st.length) (a : Option (List Int)) (i : Nat) (hi : i < 1000000) :
    (level E (n+2)).round (CkSt m a) [.int .i64 (i : Int), enP (plc m.bx i)] = match CkG m a i with | .inl a' => some (CkSt m a', true) | .inr e => some (e, false) := by
  have he := okElement n m.bb m.tb m.bx m.st (plc m.bx i) h3 (by omega) (plc_len m.bx i)
  obtain ⟨x, y, z, hp⟩ : ∃ x y z, plc m.bx i = [x, y, z] := by
    match hh : plc m.bx i, plc_len m.bx i with
    | [x, y, z], _ => exact ⟨x, y, z, rfl⟩
  have hel : elt m.bx [x, y, z] m.st 0 = elAt m i := by rw [elAt, hp]
  rw [hp] at he ⊢
  rw [hel] at he
  simp only [enP, List.map_cons, List.map_nil] at he
  cases a with
  | none =>
    unfold CkSt
    dsimp only
    rw [round_go rfl]
    simp only [CkV, CkG, Option.getD_none, enP]
    by_cases h1 : (m.dt.length : Int) ≤ elAt m i
    · simp only [go_sem, Nat.reduceAdd, Nat.reduceSub, Nat.reduceMul, Nat.reduceDiv, Nat.reduceMod, Nat.reduceLeDiff, Nat.reduceLT, Nat.reduceBEq, Int.reduceToNat, Int.reduceLT, Int.reduceLE, Int.reduceEq, he, h1, CkEnd, CkV, tkD]
    · simp only [go_sem, Nat.reduceAdd, Nat.reduceSub, Nat.reduceMul, Nat.reduceDiv, Nat.reduceMod, Nat.reduceLeDiff, Nat.reduceLT, Nat.reduceBEq, Int.reduceToNat, Int.reduceLT, Int.reduceLE, Int.reduceEq, he, h1, CkEnd, CkV, tkD, List.not_mem_nil, CkSt, lookI, List.find?_nil, mapSet]
  | some T =>
    unfold CkSt
    dsimp only
    rw [round_go rfl]
    simp only [CkV, CkG, Option.getD_some, enP]
    by_cases h1 : (m.dt.length : Int) ≤ elAt m i
    · simp only [go_sem, Nat.reduceAdd, Nat.reduceSub, Nat.reduceMul, Nat.reduceDiv, Nat.reduceMod, Nat.reduceLeDiff, Nat.reduceLT, Nat.reduceBEq, Int.reduceToNat, Int.reduceLT, Int.reduceLE, Int.reduceEq, he, h1, CkEnd, CkV]
    · by_cases h2 : elAt m i ∈ T
      · simp only [go_sem, Nat.reduceAdd, Nat.reduceSub, Nat.reduceMul, Nat.reduceDiv, Nat.reduceMod, Nat.reduceLeDiff, Nat.reduceLT, Nat.reduceBEq, Int.reduceToNat, Int.reduceLT, Int.reduceLE, Int.reduceEq, he, h1, h2, CkEnd, CkV, look_tk]
      · simp only [go_sem, Nat.reduceAdd, Nat.reduceSub, Nat.reduceMul, Nat.reduceDiv, Nat.reduceMod, Nat.reduceLeDiff, Nat.reduceLT, Nat.reduceBEq, Int.reduceToNat, Int.reduceLT, Int.reduceLE, Int.reduceEq, he, h1, h2, CkSt, CkV, look_tk, set_tk T _ h2]
def ckPts (m : Im) : List Int → List Nat → Int
  | _, [] => 0
  | T, i :: r => if (m.dt.length : Int) ≤ elAt m i then 14 else if elAt m i ∈ T then 26 else ckPts m (T ++ [elAt m i]) r
theorem ck_run (m : Im) : ∀ (r : List Nat) (a : Option (List Int)), (ckPts m (a.getD []) r = 0 ∧ ∃ a', runL (CkG m) (CkSt m) a r = CkSt m a') ∨ ∃ T, runL (CkG m) (CkSt m) a r = CkEnd m T (ckPts m (a.getD []) r)
  | [], a => .inl ⟨rfl, a, rfl⟩
  | i :: r, a => by
    rw [runL_cons]
    unfold CkG ckPts
    dsimp only
    by_cases h1 : (m.dt.length : Int) ≤ elAt m i
    · simp only [h1, if_true]
      exact .inr ⟨_, rfl⟩
    · by_cases h2 : elAt m i ∈ a.getD []
      · simp only [h1, h2, if_true, if_false]
        exact .inr ⟨_, rfl⟩
      · simp only [h1, h2, if_false]
        exact ck_run m r (some (a.getD [] ++ [elAt m i]))
def ckIm (cb : Int → Int) (m : Im) : Int := if ckA m = 0 then (if ckB m = 0 then (if fnz (m.dt.map cb) = 0 then ckPts m [] (List.range (many m.bx).toNat) else fnz (m.dt.map cb)) else ckB m) else ckA m
theorem ckA0 {m : Im} (h : ckA m = 0) : ckKind m.kd = 0 ∧ ckBox m.bx = 0 ∧ m.st.length = m.bx.length := by
  have h1 := fz0 _ h (ckKind m.kd) (by simp)
  have h2 := fz0 _ h (ckBox m.bx) (by simp)
  have h3 := fz0 _ h (if m.st.length = m.bx.length then 0 else 2) (by simp)
  refine ⟨h1, h2, ?_⟩
  split at h3
  · assumption
  · omega
theorem okCheck (n : Nat) (m : Im) (cb : Int → Int) (hx : m.bx.length < 1000000) (hs : m.st.length < 1000000) (hd : m.dt.length < 1000000) (H : ∀ v ∈ m.dt, callP (level E (n+5)) 72 [.int .i64 m.kd, .int .u64 v] = some (.int .i64 (cb v))) :
    callP (level E (n+9)) 50 [enIm m] = some (.int .i64 (ckIm cb m)) := by
  rw [p50]
  have k1 := okCheckKind (n+6) m.kd
  have b1 := okCheckBox (n+4) m.bb m.bx hx
  have f1 := okFirstL (n+7) [[.int .i64 (ckKind m.kd)], [.int .i64 (ckBox m.bx)], [.int .i64 (if m.st.length = m.bx.length then 0 else 2)]] [ckKind m.kd, ckBox m.bx, if m.st.length = m.bx.length then 0 else 2] rfl (by simp)
  have w1 : callP (level E (n+8)) 64 [.bool (decide (¬ (m.st.length : Int) = m.bx.length)), .int .i64 2] = some (.int .i64 (if m.st.length = m.bx.length then 0 else 2)) := by
    rw [okWhen (n+7)]
    by_cases h : m.st.length = m.bx.length
    · simp [h]
    · have : ¬ (m.st.length : Int) = m.bx.length := by omega
      simp [h, this]
  have f1' : callP (level E (n+8)) 65 [.sl 1 [[.int .i64 (ckKind m.kd)], [.int .i64 (ckBox m.bx)], [.int .i64 (if m.st.length = m.bx.length then 0 else 2)]]] = some (.int .i64 (ckA m)) := f1
  have c1 := okContains (n+6) m.tb m.st 107 (fun x => !(decide (x ≥ 0) && decide (x ≤ 4096))) (by omega) (fun x _ => okCheck_1 (n+4) x)
  have w2 := okWhen (n+7) (m.st.any (fun x => !(decide (x ≥ 0) && decide (x ≤ 4096)))) 3
  have w3 : callP (level E (n+8)) 64 [.bool (decide ((m.dt.length : Int) > 4096)), .int .i64 5] = some (.int .i64 (if 4096 < m.dt.length then 5 else 0)) := by
    rw [okWhen (n+7)]
    by_cases h : 4096 < m.dt.length
    · have : (m.dt.length : Int) > 4096 := by omega
      simp [h, this]
    · have : ¬ (m.dt.length : Int) > 4096 := by omega
      simp [h, this]
  have f2 := okFirstL (n+7) [[.int .i64 (if m.st.any (fun x => !(decide (x ≥ 0) && decide (x ≤ 4096))) then 3 else 0)], [.int .i64 (if 4096 < m.dt.length then 5 else 0)]] [if m.st.any (fun x => !(decide (x ≥ 0) && decide (x ≤ 4096))) then 3 else 0, if 4096 < m.dt.length then 5 else 0] rfl (by simp)
  have f2' : callP (level E (n+8)) 65 [.sl 1 [[.int .i64 (if m.st.any (fun x => !(decide (x ≥ 0) && decide (x ≤ 4096))) then 3 else 0)], [.int .i64 (if 4096 < m.dt.length then 5 else 0)]]] = some (.int .i64 (ckB m)) := f2
  have e1 := okElements (n+4) m.db m.kd m.dt cb hd H
  by_cases h1 : ckA m = 0
  · obtain ⟨g1, g2, g3⟩ := ckA0 h1
    obtain ⟨q1, q2, q3, q4⟩ := ckBox0 g2
    obtain ⟨N, hN, hN2⟩ := many_nat g2
    by_cases h2 : ckB m = 0
    · by_cases h3 : fnz (m.dt.map cb) = 0
      · have a1 := okAll (n+7) m.bb m.bx
        have h := okAll1 (n+6) m.bb m.bx q2 N hN (by omega) (CkSt m) (fun _ _ => True) (CkG m) none trivial
          (fun a i _ hi => ⟨by
            have hr := okCheckR (n+5) m q2 g3.symm a i (by omega)
            cases hg : CkG m a i with
            | inl a' => rw [hg] at hr; exact hr
            | inr e => rw [hg] at hr; exact hr, fun _ _ => trivial⟩)
        simp only [CkSt, CkV] at h
        have hNt : (many m.bx).toNat = N := by omega
        simp only [go_sem, Nat.reduceAdd, Nat.reduceSub, Nat.reduceMul, Nat.reduceDiv, Nat.reduceMod, Nat.reduceLeDiff, Nat.reduceLT, Nat.reduceBEq, Int.reduceToNat, Int.reduceLT, Int.reduceLE, Int.reduceEq, enIm, k1, b1, w1, f1', h1, c1, w2, w3, f2', h2, e1, h3, a1, ne_eq, not_true_eq_false, ckIm, hNt]
        simp only [enIm] at h
        rw [h]
        rcases ck_run m (List.range N) none with ⟨h5, a', h6⟩ | ⟨T, h6⟩
        · rw [h6]
          simp only [Option.getD_none] at h5
          rcases a' with _ | T <;> simp only [go_sem, Nat.reduceAdd, Nat.reduceSub, Nat.reduceMul, Nat.reduceDiv, Nat.reduceMod, Nat.reduceLeDiff, Nat.reduceLT, Nat.reduceBEq, Int.reduceToNat, Int.reduceLT, Int.reduceLE, Int.reduceEq, CkSt, CkV, h5]
        · rw [h6]
          simp only [go_sem, Nat.reduceAdd, Nat.reduceSub, Nat.reduceMul, Nat.reduceDiv, Nat.reduceMod, Nat.reduceLeDiff, Nat.reduceLT, Nat.reduceBEq, Int.reduceToNat, Int.reduceLT, Int.reduceLE, Int.reduceEq, CkEnd, CkV]
      · simp only [go_sem, Nat.reduceAdd, Nat.reduceSub, Nat.reduceMul, Nat.reduceDiv, Nat.reduceMod, Nat.reduceLeDiff, Nat.reduceLT, Nat.reduceBEq, Int.reduceToNat, Int.reduceLT, Int.reduceLE, Int.reduceEq, enIm, k1, b1, w1, f1', h1, c1, w2, w3, f2', h2, e1, h3, ne_eq, not_true_eq_false, not_false_eq_true, ckIm]
    · simp only [go_sem, Nat.reduceAdd, Nat.reduceSub, Nat.reduceMul, Nat.reduceDiv, Nat.reduceMod, Nat.reduceLeDiff, Nat.reduceLT, Nat.reduceBEq, Int.reduceToNat, Int.reduceLT, Int.reduceLE, Int.reduceEq, enIm, k1, b1, w1, f1', h1, c1, w2, w3, f2', h2, ne_eq, not_true_eq_false, not_false_eq_true, ckIm]
  · simp only [go_sem, Nat.reduceAdd, Nat.reduceSub, Nat.reduceMul, Nat.reduceDiv, Nat.reduceMod, Nat.reduceLeDiff, Nat.reduceLT, Nat.reduceBEq, Int.reduceToNat, Int.reduceLT, Int.reduceLE, Int.reduceEq, enIm, k1, b1, w1, f1', h1, ne_eq, not_false_eq_true, ckIm]
end Go.Vm.P4Z

/- Chapter 04, functions: elements of points, images made of a function. -/
set_option maxRecDepth 100000
set_option maxHeartbeats 4000000
namespace Go.Vm.P4Z
open Go Go.Vm Go.Vm.P4
theorem okViewAt (n : Nat) (m : Im) (p : List Int) (k : Nat) (v : Int) (hp : p.length = 3) (h3 : m.bx.length ≤ 3) (hs : m.bx.length ≤ m.st.length) (he : elt m.bx p m.st 0 = k) (hv : m.dt[k]? = some v) :
    callP (level E (n+2)) 84 [enIm m, enP p] = some (.int .u64 v) := by
  rw [p84]
  have h1 := okElement n m.bb m.tb m.bx m.st p h3 hs hp
  obtain ⟨x, y, z, rfl⟩ : ∃ x y z, p = [x, y, z] := by
    match p, hp with
    | [x, y, z], _ => exact ⟨x, y, z, rfl⟩
  rw [he] at h1
  simp only [enP, List.map_cons, List.map_nil] at h1 ⊢
  simp only [go_sem, Nat.reduceAdd, Nat.reduceSub, Nat.reduceMul, Nat.reduceDiv, Nat.reduceMod, Nat.reduceLeDiff, Nat.reduceLT, Nat.reduceBEq, Int.reduceToNat, Int.reduceLT, Int.reduceLE, Int.reduceEq, enIm, h1, hv]
def ckAt (cb : Int → Int) (m : Im) (p : List Int) : Int := if fnz [ckIm cb m, if p.length = m.bx.length then 0 else 13] = 0 then (if hasB m.bx p then 0 else 14) else fnz [ckIm cb m, if p.length = m.bx.length then 0 else 13]
theorem okCheckAt (n : Nat) (m : Im) (c : Bool) (p : List Int) (cb : Int → Int) (hx : m.bx.length < 1000000) (hs : m.st.length < 1000000) (hd : m.dt.length < 1000000) (H : ∀ v ∈ m.dt, callP (level E (n+5)) 72 [.int .i64 m.kd, .int .u64 v] = some (.int .i64 (cb v))) :
    callP (level E (n+10)) 99 [enIm m, slD c 1 (p.map ic)] = some (.int .i64 (ckAt cb m p)) := by
  rw [p99]
  have h1 := okCheck n m cb hx hs hd H
  have f1 := okFirstL (n+8) [[.int .i64 (ckIm cb m)], [.int .i64 (if p.length = m.bx.length then 0 else 13)]] [ckIm cb m, if p.length = m.bx.length then 0 else 13] rfl (by simp)
  have w1 : callP (level E (n+9)) 64 [.bool (decide (¬ (p.length : Int) = m.bx.length)), .int .i64 13] = some (.int .i64 (if p.length = m.bx.length then 0 else 13)) := by
    rw [okWhen (n+8)]
    by_cases h : p.length = m.bx.length
    · simp [h]
    · have : ¬ (p.length : Int) = m.bx.length := by omega
      simp [h, this]
  by_cases h2 : fnz [ckIm cb m, if p.length = m.bx.length then 0 else 13] = 0
  · have h4 := fz0 _ h2 (if p.length = m.bx.length then 0 else 13) (by simp)
    have h5 : p.length = m.bx.length := by
      split at h4
      · assumption
      · omega
    have h6 := okHas0 (n+8) m.bb c m.bx p (by omega) (by omega)
    rw [h2] at f1
    simp only [enIm] at h1
    cases h7 : hasB m.bx p
    · rw [h7] at h6
      simp only [go_sem, Nat.reduceAdd, Nat.reduceSub, Nat.reduceMul, Nat.reduceDiv, Nat.reduceMod, Nat.reduceLeDiff, Nat.reduceLT, Nat.reduceBEq, Int.reduceToNat, Int.reduceLT, Int.reduceLE, Int.reduceEq, enIm, h1, w1, f1, h2, h6, h7, okWhen, ckAt, ne_eq, not_true_eq_false, Bool.false_eq_true]
    · rw [h7] at h6
      simp only [go_sem, Nat.reduceAdd, Nat.reduceSub, Nat.reduceMul, Nat.reduceDiv, Nat.reduceMod, Nat.reduceLeDiff, Nat.reduceLT, Nat.reduceBEq, Int.reduceToNat, Int.reduceLT, Int.reduceLE, Int.reduceEq, enIm, h1, w1, f1, h2, h6, h7, okWhen, ckAt, ne_eq, not_true_eq_false, Bool.false_eq_true]
  · simp only [enIm] at h1
    simp only [go_sem, Nat.reduceAdd, Nat.reduceSub, Nat.reduceMul, Nat.reduceDiv, Nat.reduceMod, Nat.reduceLeDiff, Nat.reduceLT, Nat.reduceBEq, Int.reduceToNat, Int.reduceLT, Int.reduceLE, Int.reduceEq, enIm, h1, w1, f1, h2, ckAt, ne_eq, not_false_eq_true]
theorem okAtS (n : Nat) (m : Im) (c : Bool) (p : List Int) (h1 : callP (level E (n+10)) 99 [enIm m, slD c 1 (p.map ic)] = some (.int .i64 0)) (h3 : m.bx.length ≤ 3) (hpl : p.length ≤ 3) (hs : m.bx.length ≤ m.st.length)
    (k : Nat) (v : Int) (he : elt m.bx ((p ++ [0, 0, 0]).take 3) m.st 0 = k) (hv : m.dt[k]? = some v) :
    callP (level E (n+11)) 39 [enIm m, slD c 1 (p.map ic)] = some (.tup [.agg [.int .i64 m.kd, .int .u64 v], .int .i64 0]) := by
  rw [p39]
  have h2 := okOf (n+9) c p hpl
  have h4 := okViewAt (n+8) m ((p ++ [0, 0, 0]).take 3) k v (by simp) h3 hs he hv
  simp only [enIm] at h1 h4
  simp only [go_sem, Nat.reduceAdd, Nat.reduceSub, Nat.reduceMul, Nat.reduceDiv, Nat.reduceMod, Nat.reduceLeDiff, Nat.reduceLT, Nat.reduceBEq, Int.reduceToNat, Int.reduceLT, Int.reduceLE, Int.reduceEq, enIm, h1, h2, h4, ne_eq, not_true_eq_false]
end Go.Vm.P4Z

/- Chapter 04, functions: images made of a function. -/
set_option maxRecDepth 100000
set_option maxHeartbeats 4000000
namespace Go.Vm.P4Z
open Go Go.Vm Go.Vm.P4
def CoV (kd : Int) (b : Bool) (l : Bx) (f : D) (q : Nat) : List AV := [.imm (.int .i64 kd), .imm (enB b l), .imm f, .ptr 0 0, .imm (.ptr [f]), .ptr q 0, .junk, .imm (.fn 125 [] [.ptr [enB b l]]), .junk, .junk]
def z4 : List AV := [.imm (.int .i64 0), .imm .nil, .imm .nil, .imm .nil]
def CoSt (kd : Int) (b : Bool) (l : Bx) (f : D) : List (List D) → Ext
  | [] => ⟨[8, 9], b86_0, b86_1, CoV kd b l f 2, [.box z4, .arr 2 (l.map enR), .box [.imm (.int .i64 kd), .ref 1 2 0 l.length, .imm (slD true 1 ((strides 1 l).map ic)), .imm .nil]], 0, none⟩
  | acc => ⟨[8, 9], b86_0, b86_1, CoV kd b l f 1, [.box z4, .box [.imm (.int .i64 kd), .ref 2 2 0 l.length, .imm (slD true 1 ((strides 1 l).map ic)), .ref 3 1 0 acc.length], .arr 2 (l.map enR), .arr 1 acc], 0, none⟩
theorem dL_cat (st : List AO) (fs cs : List D) (a : D) : deepL st (fs.map AV.imm ++ [.imm a] ++ cs.map AV.imm) = some (fs ++ [a] ++ cs) := by
  rw [show fs.map AV.imm ++ [.imm a] ++ cs.map AV.imm = (fs ++ [a] ++ cs).map AV.imm from by simp]
  exact dL_map _
theorem iL_cat (fs cs : List D) (a : D) : idsL (fs.map AV.imm ++ [.imm a] ++ cs.map AV.imm) = [] := by
  rw [show fs.map AV.imm ++ [.imm a] ++ cs.map AV.imm = (fs ++ [a] ++ cs).map AV.imm from by simp]
  exact iL_map _
theorem okCollectR (n : Nat) (kd : Int) (b : Bool) (l : Bx) (fid : FuncId) (fs cs : List D) (F : List Int → Int) (acc : List (List D)) (i : Nat) (ha : acc.length = i) (hi : i < 1000000)
    (H : callP (level E (n+1)) fid (fs ++ [enP (plc l i)] ++ cs) = some (.int .u64 (F (plc l i)))) :
    (level E (n+2)).round (CoSt kd b l (.fn fid fs cs) acc) [.int .i64 (i : Int), enP (plc l i)] = some (CoSt kd b l (.fn fid fs cs) (acc ++ [ub (F (plc l i))]), true) := by
  obtain ⟨x, y, z, hp⟩ : ∃ x y z, plc l i = [x, y, z] := by
    match hh : plc l i, plc_len l i with
    | [x, y, z], _ => exact ⟨x, y, z, rfl⟩
  rw [hp] at H ⊢
  have e1 : (acc.length + 1) * 9 ≤ 70368744177664 := by omega
  simp only [enP, List.map_cons, List.map_nil] at H
  rcases acc with _ | ⟨w, acc⟩
  · unfold CoSt
    dsimp only
    rw [round_go rfl]
    simp only [CoV, enP, z4]
    simp only [go_sem, Nat.reduceAdd, Nat.reduceSub, Nat.reduceMul, Nat.reduceDiv, Nat.reduceMod, Nat.reduceLeDiff, Nat.reduceLT, Nat.reduceBEq, Int.reduceToNat, Int.reduceLT, Int.reduceLE, Int.reduceEq, dL_cat, iL_cat, H]
  · simp only [List.length_cons] at e1
    unfold CoSt
    dsimp only
    rw [round_go rfl]
    simp only [CoV, enP, z4]
    simp only [go_sem, Nat.reduceAdd, Nat.reduceSub, Nat.reduceMul, Nat.reduceDiv, Nat.reduceMod, Nat.reduceLeDiff, Nat.reduceLT, Nat.reduceBEq, Int.reduceToNat, Int.reduceLT, Int.reduceLE, Int.reduceEq, e1, dL_cat, iL_cat, H]
def mkIm (kd : Int) (l : Bx) (N : Nat) (F : List Int → Int) : Im := ⟨kd, false, l, true, strides 1 l, true, (List.range N).map fun i => F (plc l i)⟩
theorem okCollect (n : Nat) (kd : Int) (b : Bool) (l : Bx) (fid : FuncId) (fs cs : List D) (F : List Int → Int) (h1 : 1 ≤ l.length) (h3 : l.length ≤ 3) (N : Nat) (hN : many l = N) (hN2 : N < 1000000)
    (H : ∀ i, i < N → callP (level E (n+1)) fid (fs ++ [enP (plc l i)] ++ cs) = some (.int .u64 (F (plc l i)))) :
    callP (level E (n+4)) 86 [.int .i64 kd, enB b l, .fn fid fs cs] = some (enIm (mkIm kd l N F)) := by
  rw [p86]
  have a1 := okAll (n+2) b l
  have c1 := okCloneB (n+2) b l (by omega)
  have d1 := okDense (n+2) b l (by omega)
  have h := okAll1 (n+1) b l h3 N hN (by omega) (CoSt kd b l (.fn fid fs cs)) (fun a i => a.length = i) (fun a i => .inl (a ++ [ub (F (plc l i))])) [] rfl
    (fun a i hI hi => ⟨okCollectR n kd b l fid fs cs F a i hI (by omega) (H i hi), fun a' ha => by injection ha with ha; subst ha; simp [hI]⟩)
  rw [runL_fold, fold_snoc, List.nil_append] at h
  have e1 : clV b 2 (l.map enR) = .ref 0 2 0 l.length := by
    rcases l with _ | ⟨x, t⟩
    · simp at h1
    · cases b <;> simp [clV]
  have e2 : clO 2 (l.map enR) = [.arr 2 (l.map enR)] := by
    rcases l with _ | ⟨x, t⟩
    · simp at h1
    · simp [clO]
  have e3 : flatDLL (l.map enR) = true := by
    clear h h1 h3 hN H c1 d1 a1 e1 e2
    induction l with
    | nil => rfl
    | cons x t ih => simp only [go_sem, Nat.reduceAdd, Nat.reduceSub, Nat.reduceMul, Nat.reduceDiv, Nat.reduceMod, Nat.reduceLeDiff, Nat.reduceLT, Nat.reduceBEq, Int.reduceToNat, Int.reduceLT, Int.reduceLE, Int.reduceEq, ih]
  rw [e1, e2] at c1
  simp only [go_sem, Nat.reduceAdd, Nat.reduceSub, Nat.reduceMul, Nat.reduceDiv, Nat.reduceMod, Nat.reduceLeDiff, Nat.reduceLT, Nat.reduceBEq, Int.reduceToNat, Int.reduceLT, Int.reduceLE, Int.reduceEq, c1, d1, e3, a1]
  simp only [CoSt, CoV, z4] at h
  rw [h]
  have e4 : (List.range N).map (fun i => ub (F (plc l i))) = ((List.range N).map fun i => F (plc l i)).map ub := by simp
  rw [e4]
  cases hq : (List.range N).map (fun i => F (plc l i)) with
  | nil => simp only [go_sem, Nat.reduceAdd, Nat.reduceSub, Nat.reduceMul, Nat.reduceDiv, Nat.reduceMod, Nat.reduceLeDiff, Nat.reduceLT, Nat.reduceBEq, Int.reduceToNat, Int.reduceLT, Int.reduceLE, Int.reduceEq, CoSt, CoV, z4, enIm, mkIm, hq] <;> rfl
  | cons w t => simp only [go_sem, Nat.reduceAdd, Nat.reduceSub, Nat.reduceMul, Nat.reduceDiv, Nat.reduceMod, Nat.reduceLeDiff, Nat.reduceLT, Nat.reduceBEq, Int.reduceToNat, Int.reduceLT, Int.reduceLE, Int.reduceEq, CoSt, CoV, z4, enIm, mkIm, hq] <;> rfl
end Go.Vm.P4Z

/- Chapter 04, functions: Crop, Delete, Insert, Slice. -/
set_option maxRecDepth 100000
set_option maxHeartbeats 4000000
namespace Go.Vm.P4Z
open Go Go.Vm Go.Vm.P4
theorem okEqualB (n : Nat) (b c : Bool) (l : Bx) (hl : l.length < 1000000000) : callP (level E (n+1)) 87 [enB b l, enB c l] = some (.bool true) := by
  rw [p87]
  simp only [go_sem, Nat.reduceAdd, Nat.reduceSub, Nat.reduceMul, Nat.reduceDiv, Nat.reduceMod, Nat.reduceLeDiff, Nat.reduceLT, Nat.reduceBEq, Int.reduceToNat, Int.reduceLT, Int.reduceLE, Int.reduceEq, ne_eq, not_true_eq_false]
  have h := loop_fold (f := aCode (level E (n)) ⟨0, false⟩ b87_0) (h := head ⟨0, false⟩ [1, 1, 0, 0, 0, 1, 1, 0, 0]) (Φ := outC ⟨0, false⟩ [0, 0, 1, 0, 0, 0, 0, 0, 0]) l (fun (a : Unit) i => ⟨[.imm (slD b 2 (l.map enR)), .imm (slD c 2 (l.map enR)), .junk, .junk, .junk, .imm (.int .i64 l.length), .imm (.int .i64 i), .junk, .junk], [], none⟩) (fun _ _ => True)
    (fun a x => ()) (fun a => some (.exit 0, ⟨[.junk, .junk, .junk, .junk, .junk, .junk, .junk, .junk, .junk], [], none⟩)) () trivial
    (fun a i x hI h2 h1 => by
      refine ⟨?_, trivial⟩
      rw [rnd_eq]
      simp only [go_sem, Nat.reduceAdd, Nat.reduceSub, Nat.reduceMul, Nat.reduceDiv, Nat.reduceMod, Nat.reduceLeDiff, Nat.reduceLT, Nat.reduceBEq, Int.reduceToNat, Int.reduceLT, Int.reduceLE, Int.reduceEq, lt_t h2, h1, aEq, eqL, eqE, intEq, beq_self_eq_true]
      rw [wrpS (by omega)])
    (fun a _ => by
      rw [rnd_eq]
      simp only [go_sem, Nat.reduceAdd, Nat.reduceSub, Nat.reduceMul, Nat.reduceDiv, Nat.reduceMod, Nat.reduceLeDiff, Nat.reduceLT, Nat.reduceBEq, Int.reduceToNat, Int.reduceLT, Int.reduceLE, Int.reduceEq, lt_f (Nat.le_refl _)])
  rw [cast_0] at h
  rw [h]
  simp only [go_sem, Nat.reduceAdd, Nat.reduceSub, Nat.reduceMul, Nat.reduceDiv, Nat.reduceMod, Nat.reduceLeDiff, Nat.reduceLT, Nat.reduceBEq, Int.reduceToNat, Int.reduceLT, Int.reduceLE, Int.reduceEq]
def Lies (m : Im) (l : Bx) (N : Nat) (F : List Int → Int) : Prop := ∀ i, i < N → ∃ k : Nat, elt m.bx (plc l i) m.st 0 = k ∧ m.dt[k]? = some (F (plc l i))
theorem okCropS (n : Nat) (m : Im) (c : Bool) (l : Bx) (h1 : callP (level E (n+9)) 50 [enIm m] = some (.int .i64 0)) (hm : ckBox m.bx = 0) (hs : m.st.length = m.bx.length) (h2 : ckBox l = 0) (h3 : l.length = m.bx.length) (hz : List.zipWith rmeet m.bx l = l)
    (N : Nat) (hN : many l = N) (F : List Int → Int) (hF : Lies m l N F) :
    callP (level E (n+10)) 25 [enIm m, enB c l] = some (.tup [enIm (mkIm m.kd l N F), .int .i64 0]) := by
  obtain ⟨q1, q2, _, q4⟩ := ckBox0 h2
  obtain ⟨r1, r2, _, _⟩ := ckBox0 hm
  rw [p25]
  have c1 := okCheckBox (n+5) c l (by omega)
  have m1 := okMany (n+8) c l (by omega)
  have f1 := okFirstL (n+8) [[.int .i64 0], [.int .i64 0], [.int .i64 0]] [0, 0, 0] rfl (by simp)
  have z1 := okZipped (n+8) m.bb c m.bx l 89 rmeet (by omega) (by omega) (fun r s => okMeet (n+7) r s)
  rw [hz] at z1
  have e1 := okEqualB (n+8) true c l (by omega)
  have k1 := okCollect (n+5) m.kd c l 84 [enIm m] [] F q1 q2 N hN (by omega) (fun i hi => by
    obtain ⟨k, hk1, hk2⟩ := hF i hi
    exact okViewAt (n+4) m (plc l i) k _ (plc_len l i) r2 (by omega) hk1 hk2)
  have hw := okWhen (n+8) false 13
  simp only [enIm] at h1 k1
  rw [h2] at c1
  simp only [fnz, if_true] at f1
  by_cases hp : many l > 0
  · simp only [go_sem, Nat.reduceAdd, Nat.reduceSub, Nat.reduceMul, Nat.reduceDiv, Nat.reduceMod, Nat.reduceLeDiff, Nat.reduceLT, Nat.reduceBEq, Int.reduceToNat, Int.reduceLT, Int.reduceLE, Int.reduceEq, enIm, h1, c1, m1, f1, h3, z1, e1, hp, hw, k1, ne_eq, not_true_eq_false, Bool.false_eq_true]
  · simp only [go_sem, Nat.reduceAdd, Nat.reduceSub, Nat.reduceMul, Nat.reduceDiv, Nat.reduceMod, Nat.reduceLeDiff, Nat.reduceLT, Nat.reduceBEq, Int.reduceToNat, Int.reduceLT, Int.reduceLE, Int.reduceEq, enIm, h1, c1, m1, f1, h3, hp, hw, k1, ne_eq, not_true_eq_false, Bool.false_eq_true]
theorem okDel20 (n : Nat) (r s : Rg) : callS (level E (n+1)) 90 [.ref 0 2 0 2, .imm (.int .i64 0), .imm (.int .i64 1)] [.arr 2 [enR r, enR s]] = some (.ref 1 2 0 1, [.dead, .arr 2 [enR s, [.int .i64 0, .int .i64 0]]]) := by
  rw [s90]
  simp only [go_sem, Nat.reduceAdd, Nat.reduceSub, Nat.reduceMul, Nat.reduceDiv, Nat.reduceMod, Nat.reduceLeDiff, Nat.reduceLT, Nat.reduceBEq, Int.reduceToNat, Int.reduceLT, Int.reduceLE, Int.reduceEq]
theorem ins_call (n : Nat) (es : List (List D)) (i : Nat) (a : D) (hi : i ≤ es.length) (hl : es.length < 1000000) : (level E (n+1)).call 93 [.ref 0 1 0 es.length, .imm (.int .i64 i), .ref 1 1 0 1] [.arr 1 es, .arr 1 [[a]]] none =
    some (.ref 2 1 0 (es.length + 1), [.dead, .arr 1 [[a]], .arr 1 (es.take i ++ [a] :: es.drop i)], none) := by
  have h1 : E.fn 93 = none := rfl
  have h2 : E.prim 93 = some insPrim := rfl
  have k1 : (0 : Int) ≤ (i : Int) := by omega
  have k2 : (i : Int) ≤ (es.length : Int) := by omega
  simp only [level, h1, runPrim, h2, insPrim, List.getElem?_cons_zero, List.getElem?_cons_succ, k1, k2, hl, and_self, ne_eq, Nat.zero_ne_one, not_false_eq_true, if_true, Int.toNat_natCast]
  rfl
theorem okIns (n : Nat) (es : List (List D)) (i : Nat) (a : D) (hi : i ≤ es.length) (hl : es.length < 1000000) : callS (level E (n+1)) 93 [.ref 0 1 0 es.length, .imm (.int .i64 i), .ref 1 1 0 1] [.arr 1 es, .arr 1 [[a]]] =
    some (.ref 2 1 0 (es.length + 1), [.dead, .arr 1 [[a]], .arr 1 (es.take i ++ [a] :: es.drop i)]) := by
  unfold callS
  rw [ins_call n es i a hi hl]
  simp only [go_sem, Nat.reduceAdd, Nat.reduceSub, Nat.reduceMul, Nat.reduceDiv, Nat.reduceMod, Nat.reduceLeDiff, Nat.reduceLT, Nat.reduceBEq, Int.reduceToNat, Int.reduceLT, Int.reduceLE, Int.reduceEq]
theorem okSlice_1 (n : Nat) (m : Im) (at' x y z : Int) (h3 : m.bx.length = 2) (hs : m.bx.length ≤ m.st.length) (k : Nat) (v : Int) (he : elt m.bx [at', x, 0] m.st 0 = k) (hv : m.dt[k]? = some v) :
    callP (level E (n+3)) 92 ([] ++ [enP [x, y, z]] ++ [.ptr [.int .i64 m.kd, enB m.bb m.bx, slD m.tb 1 (m.st.map ic), slD m.db 1 (m.dt.map ub)], .ptr [.int .i64 0], .ptr [.int .i64 at']]) = some (.int .u64 v) := by
  show callP (level E (n+3)) 92 [enP [x, y, z], .ptr [.int .i64 m.kd, enB m.bb m.bx, slD m.tb 1 (m.st.map ic), slD m.db 1 (m.dt.map ub)], .ptr [.int .i64 0], .ptr [.int .i64 at']] = _
  rw [p92]
  have c1 := okCloneI (n+1) false [x] (by simp)
  simp only [clV, clO, slD, List.map_cons, List.map_nil, ic] at c1
  have i1 := okIns (n+1) [[.int .i64 x]] 0 (.int .i64 at') (by simp) (by simp)
  have o1 := okOf (n+1) false [at', x] (by simp)
  simp only [List.map_cons, List.map_nil, ic, slD] at o1
  have v1 := okViewAt n m [at', x, 0] k v rfl (by omega) hs he hv
  have e2 : (m.bx.length : Int) = 2 := by omega
  simp only [enIm, enP, List.map_cons, List.map_nil] at v1
  have w21 : wrp .i64 (2 - 1) = 1 := by decide
  simp only [enP, go_sem, Nat.reduceAdd, Nat.reduceSub, Nat.reduceMul, Nat.reduceDiv, Nat.reduceMod, Nat.reduceLeDiff, Nat.reduceLT, Nat.reduceBEq, Int.reduceToNat, Int.reduceLT, Int.reduceLE, Int.reduceEq] at o1
  simp only [go_sem, Nat.reduceAdd, Nat.reduceSub, Nat.reduceMul, Nat.reduceDiv, Nat.reduceMod, Nat.reduceLeDiff, Nat.reduceLT, Nat.reduceBEq, Int.reduceToNat, Int.reduceLT, Int.reduceLE, Int.reduceEq] at i1
  simp only [go_sem, Nat.reduceAdd, Nat.reduceSub, Nat.reduceMul, Nat.reduceDiv, Nat.reduceMod, Nat.reduceLeDiff, Nat.reduceLT, Nat.reduceBEq, Int.reduceToNat, Int.reduceLT, Int.reduceLE, Int.reduceEq, enP, e2, w21, c1, i1, o1, v1]
theorem okSlice2 (n : Nat) (m : Im) (r s : Rg) (hb : m.bx = [r, s]) (at' : Int) (h1 : callP (level E (n+9)) 50 [enIm m] = some (.int .i64 0)) (hs : m.st.length = 2) (hk : ckBox m.bx = 0) (g1 : at' ≥ r.lo) (g2 : at' ≤ r.lo + r.ex - 1)
    (N : Nat) (hN : many [s] = N) (hN2 : N < 1000000) (F : List Int → Int) (hF : ∀ i, i < N → ∃ x y z k, plc [s] i = [x, y, z] ∧ elt m.bx [at', x, 0] m.st 0 = (k : Nat) ∧ m.dt[k]? = some (F [x, y, z])) :
    callP (level E (n+10)) 27 [enIm m, .int .i64 0, .int .i64 at'] = some (.tup [enIm (mkIm m.kd [s] N F), .int .i64 0]) := by
  obtain ⟨_, _, hr, _⟩ := ckBox0 hk
  have hr0 := ckRange0 (hr r (by rw [hb]; simp))
  rw [p27]
  have f1 := okFirstL (n+8) [[.int .i64 0], [.int .i64 0], [.int .i64 0]] [0, 0, 0] rfl (by simp)
  simp only [fnz, if_true] at f1
  have w1 := okWhen (n+8) false 13
  have w2 := okWhen (n+8) false 3
  have i1 := okWithin (n+8) 0 0 1
  have i2 := okWithin (n+8) at' r.lo (r.lo + r.ex - 1)
  have c1 := okCloneB (n+8) m.bb [r, s] (by simp)
  have e1 : clV m.bb 2 ([r, s].map enR) = .ref 0 2 0 2 := by cases m.bb <;> rfl
  have e2 : clO 2 ([r, s].map enR) = [.arr 2 [enR r, enR s]] := rfl
  rw [e1, e2] at c1
  have d1 := okDel20 (n+8) r s
  have k1 := okCollect (n+5) m.kd false [s] 92 [] [.ptr [.int .i64 m.kd, enB m.bb m.bx, slD m.tb 1 (m.st.map ic), slD m.db 1 (m.dt.map ub)], .ptr [.int .i64 0], .ptr [.int .i64 at']] F (by simp) (by simp) N hN hN2 (fun i hi => by
    obtain ⟨x, y, z, k, q1, q2, q3⟩ := hF i hi
    rw [q1]
    exact okSlice_1 (n+3) m at' x y z (by rw [hb]; rfl) (by rw [hb, hs]; exact Nat.le_refl _) k _ q2 q3)
  have w21 : wrp .i64 (2 - 1) = 1 := by decide
  have w01 : wrp .i64 (0 + 1) = 1 := by decide
  have w3 : wrp .i64 (r.lo + r.ex) = r.lo + r.ex := wrp_ok (by omega)
  have w4 : wrp .i64 (r.lo + r.ex - 1) = r.lo + r.ex - 1 := wrp_ok (by omega)
  have eb : enB false [s] = .sl 2 [enR s] := rfl
  simp only [enIm, hb, go_sem, Nat.reduceAdd, Nat.reduceSub, Nat.reduceMul, Nat.reduceDiv, Nat.reduceMod, Nat.reduceLeDiff, Nat.reduceLT, Nat.reduceBEq, Int.reduceToNat, Int.reduceLT, Int.reduceLE, Int.reduceEq, enB, slD_c] at h1 k1 c1 d1 i1 i2
  have g1' : r.lo ≤ at' := g1
  simp only [ge_iff_le, g1', g2, go_sem, Nat.reduceAdd, Nat.reduceSub, Nat.reduceMul, Nat.reduceDiv, Nat.reduceMod, Nat.reduceLeDiff, Nat.reduceLT, Nat.reduceBEq, Int.reduceToNat, Int.reduceLT, Int.reduceLE, Int.reduceEq] at i1 i2
  simp only [enIm, hb, go_sem, Nat.reduceAdd, Nat.reduceSub, Nat.reduceMul, Nat.reduceDiv, Nat.reduceMod, Nat.reduceLeDiff, Nat.reduceLT, Nat.reduceBEq, Int.reduceToNat, Int.reduceLT, Int.reduceLE, Int.reduceEq, h1, f1, w1, w2, i1, i2, c1, d1, w21, w01, w3, w4, ge_iff_le, ne_eq, not_true_eq_false, enB, slD_c, ia_sl, k1, mkIm]
  done
end Go.Vm.P4Z

/- Chapter 04, functions: Transpose (the first two dimensions of a plane). -/
set_option maxRecDepth 100000
set_option maxHeartbeats 4000000
namespace Go.Vm.P4Z
open Go Go.Vm Go.Vm.P4
theorem okTranspose_1 (n : Nat) (m : Im) (x y z : Int) (h3 : m.bx.length ≤ 3) (hs : m.bx.length ≤ m.st.length) (k : Nat) (v : Int) (he : elt m.bx [y, x, z] m.st 0 = k) (hv : m.dt[k]? = some v) :
    callP (level E (n+3)) 95 ([] ++ [enP [x, y, z]] ++ [.ptr [.int .i64 1], .ptr [.int .i64 0], .ptr [.int .i64 m.kd, enB m.bb m.bx, slD m.tb 1 (m.st.map ic), slD m.db 1 (m.dt.map ub)]]) = some (.int .u64 v) := by
  show callP (level E (n+3)) 95 [enP [x, y, z], .ptr [.int .i64 1], .ptr [.int .i64 0], .ptr [.int .i64 m.kd, enB m.bb m.bx, slD m.tb 1 (m.st.map ic), slD m.db 1 (m.dt.map ub)]] = _
  rw [p95]
  have v1 := okViewAt n m [y, x, z] k v rfl h3 hs he hv
  simp only [enIm, enP, List.map_cons, List.map_nil] at v1
  simp only [go_sem, Nat.reduceAdd, Nat.reduceSub, Nat.reduceMul, Nat.reduceDiv, Nat.reduceMod, Nat.reduceLeDiff, Nat.reduceLT, Nat.reduceBEq, Int.reduceToNat, Int.reduceLT, Int.reduceLE, Int.reduceEq, enP, v1]
  done
theorem okTranspose2 (n : Nat) (m : Im) (r s : Rg) (hb : m.bx = [r, s]) (h1 : callP (level E (n+9)) 50 [enIm m] = some (.int .i64 0)) (hs : m.st.length = 2)
    (N : Nat) (hN : many [s, r] = N) (hN2 : N < 1000000) (F : List Int → Int) (hF : ∀ i, i < N → ∃ x y z k, plc [s, r] i = [x, y, z] ∧ elt m.bx [y, x, z] m.st 0 = (k : Nat) ∧ m.dt[k]? = some (F [x, y, z])) :
    callP (level E (n+10)) 28 [enIm m, .int .i64 0, .int .i64 1] = some (.tup [enIm (mkIm m.kd [s, r] N F), .int .i64 0]) := by
  rw [p28]
  have f1 := okFirstL (n+8) [[.int .i64 0], [.int .i64 0], [.int .i64 0]] [0, 0, 0] rfl (by simp)
  simp only [fnz, if_true] at f1
  have w2 := okWhen (n+8) false 3
  have i1 := okWithin (n+8) 0 0 1
  have i2 := okWithin (n+8) 1 0 1
  have c1 := okCloneB (n+8) m.bb [r, s] (by simp)
  have e1 : clV m.bb 2 ([r, s].map enR) = .ref 0 2 0 2 := by cases m.bb <;> rfl
  have e2 : clO 2 ([r, s].map enR) = [.arr 2 [enR r, enR s]] := rfl
  rw [e1, e2] at c1
  have k1 := okCollect (n+5) m.kd false [s, r] 95 [] [.ptr [.int .i64 1], .ptr [.int .i64 0], .ptr [.int .i64 m.kd, enB m.bb m.bx, slD m.tb 1 (m.st.map ic), slD m.db 1 (m.dt.map ub)]] F (by simp) (by simp) N hN hN2 (fun i hi => by
    obtain ⟨x, y, z, k, q1, q2, q3⟩ := hF i hi
    rw [q1]
    exact okTranspose_1 (n+3) m x y z (by rw [hb]; simp) (by rw [hb, hs]; exact Nat.le_refl _) k _ q2 q3)
  have w21 : wrp .i64 (2 - 1) = 1 := by decide
  simp only [enIm, hb, go_sem, Nat.reduceAdd, Nat.reduceSub, Nat.reduceMul, Nat.reduceDiv, Nat.reduceMod, Nat.reduceLeDiff, Nat.reduceLT, Nat.reduceBEq, Int.reduceToNat, Int.reduceLT, Int.reduceLE, Int.reduceEq, enB, slD_c] at h1 k1 c1 i1 i2
  simp only [ge_iff_le, go_sem, Nat.reduceAdd, Nat.reduceSub, Nat.reduceMul, Nat.reduceDiv, Nat.reduceMod, Nat.reduceLeDiff, Nat.reduceLT, Nat.reduceBEq, Int.reduceToNat, Int.reduceLT, Int.reduceLE, Int.reduceEq] at i1 i2
  simp only [enIm, hb, go_sem, Nat.reduceAdd, Nat.reduceSub, Nat.reduceMul, Nat.reduceDiv, Nat.reduceMod, Nat.reduceLeDiff, Nat.reduceLT, Nat.reduceBEq, Int.reduceToNat, Int.reduceLT, Int.reduceLE, Int.reduceEq, h1, f1, w2, i1, i2, c1, w21, ge_iff_le, ne_eq, not_true_eq_false, enB, slD_c, ia_sl, k1, mkIm]
  done
end Go.Vm.P4Z

/- Chapter 04, functions: Edge. -/
set_option maxRecDepth 100000
set_option maxHeartbeats 4000000
namespace Go.Vm.P4Z
open Go Go.Vm Go.Vm.P4
def modW (a b : Int) : Int := (ad (a.tmod b) b).tmod b
theorem okModulo (n : Nat) (a b : Int) (hb : b ≠ 0) : callP (level E (n+1)) 154 [.int .i64 a, .int .i64 b] = some (.int .i64 (modW a b)) := by
  rw [p154]
  simp only [go_sem, Nat.reduceAdd, Nat.reduceSub, Nat.reduceMul, Nat.reduceDiv, Nat.reduceMod, Nat.reduceLeDiff, Nat.reduceLT, Nat.reduceBEq, Int.reduceToNat, Int.reduceLT, Int.reduceLE, Int.reduceEq, hb, modW, ad, ne_eq, not_false_eq_true]
def inW : Nat → Rg → Int → Int
  | 0, r, c => min (max c r.lo) (sb (ad r.lo r.ex) 1)
  | 1, r, c => ad r.lo (modW (sb c r.lo) r.ex)
  | _, r, c => ad r.lo (min (modW (sb c r.lo) (ml 2 r.ex)) (sb (sb (ml 2 r.ex) 1) (modW (sb c r.lo) (ml 2 r.ex))))
def bF : Nat → FuncId
  | 0 => 152
  | 1 => 153
  | _ => 155
theorem okBound (n : Nat) (rule : Nat) (r : Rg) (c : Int) (h1 : r.ex ≠ 0) (h2 : ml 2 r.ex ≠ 0) : callP (level E (n+2)) (bF rule) [enRD r, .int .i64 c] = some (.int .i64 (inW rule r c)) := by
  match rule with
  | 0 =>
    show callP (level E (n+2)) 152 [enRD r, .int .i64 c] = _
    rw [p152]
    simp only [go_sem, Nat.reduceAdd, Nat.reduceSub, Nat.reduceMul, Nat.reduceDiv, Nat.reduceMod, Nat.reduceLeDiff, Nat.reduceLT, Nat.reduceBEq, Int.reduceToNat, Int.reduceLT, Int.reduceLE, Int.reduceEq, inW, ad, sb]
  | 1 =>
    show callP (level E (n+2)) 153 [enRD r, .int .i64 c] = _
    rw [p153]
    have m1 := okModulo n (sb c r.lo) r.ex h1
    simp only [sb] at m1
    simp only [go_sem, Nat.reduceAdd, Nat.reduceSub, Nat.reduceMul, Nat.reduceDiv, Nat.reduceMod, Nat.reduceLeDiff, Nat.reduceLT, Nat.reduceBEq, Int.reduceToNat, Int.reduceLT, Int.reduceLE, Int.reduceEq, inW, ad, sb, m1]
  | k + 2 =>
    show callP (level E (n+2)) 155 [enRD r, .int .i64 c] = _
    rw [p155]
    have m1 := okModulo n (sb c r.lo) (ml 2 r.ex) h2
    simp only [sb, ml] at m1
    simp only [go_sem, Nat.reduceAdd, Nat.reduceSub, Nat.reduceMul, Nat.reduceDiv, Nat.reduceMod, Nat.reduceLeDiff, Nat.reduceLT, Nat.reduceBEq, Int.reduceToNat, Int.reduceLT, Int.reduceLE, Int.reduceEq, inW, ad, sb, ml, m1]
theorem okMoved (n : Nat) (b c : Bool) (rule : Nat) (hr : rule < 3) (l : Bx) (p : List Int) (h3 : l.length ≤ 3) (hp : p.length = l.length) (inn : Rg → Int → Int) (H : ∀ r ∈ l, ∀ c, callP (level E n) (bF rule) [enRD r, .int .i64 c] = some (.int .i64 (inn r c))) :
    callP (level E (n+1)) 82 [enB b l, .int .i64 rule, slD c 1 (p.map ic)] = some (enP ((List.zipWith inn l p ++ [0, 0, 0]).take 3)) := by
  rw [p82]
  rcases l with _ | ⟨r, _ | ⟨s, _ | ⟨t, _ | ⟨u, l⟩⟩⟩⟩
  · rcases p with _ | ⟨x, p⟩
    · simp only [go_sem, Nat.reduceAdd, Nat.reduceSub, Nat.reduceMul, Nat.reduceDiv, Nat.reduceMod, Nat.reduceLeDiff, Nat.reduceLT, Nat.reduceBEq, Int.reduceToNat, Int.reduceLT, Int.reduceLE, Int.reduceEq, rnd_eq, enP, List.zipWith_nil_left]
    · simp at hp
  · rcases p with _ | ⟨x, _ | ⟨w, p⟩⟩
    · simp at hp
    · have H0 := H r (by simp) x
      match rule, hr with
      | 0, _ =>
        simp only [bF, go_sem, Nat.reduceAdd, Nat.reduceSub, Nat.reduceMul, Nat.reduceDiv, Nat.reduceMod, Nat.reduceLeDiff, Nat.reduceLT, Nat.reduceBEq, Int.reduceToNat, Int.reduceLT, Int.reduceLE, Int.reduceEq] at H0
        simp only [go_sem, Nat.reduceAdd, Nat.reduceSub, Nat.reduceMul, Nat.reduceDiv, Nat.reduceMod, Nat.reduceLeDiff, Nat.reduceLT, Nat.reduceBEq, Int.reduceToNat, Int.reduceLT, Int.reduceLE, Int.reduceEq, rnd_eq, enP, List.zipWith_cons_cons, List.zipWith_nil_left, enB, slD_c, ia_sl, H0]
      | 1, _ =>
        simp only [bF, go_sem, Nat.reduceAdd, Nat.reduceSub, Nat.reduceMul, Nat.reduceDiv, Nat.reduceMod, Nat.reduceLeDiff, Nat.reduceLT, Nat.reduceBEq, Int.reduceToNat, Int.reduceLT, Int.reduceLE, Int.reduceEq] at H0
        simp only [go_sem, Nat.reduceAdd, Nat.reduceSub, Nat.reduceMul, Nat.reduceDiv, Nat.reduceMod, Nat.reduceLeDiff, Nat.reduceLT, Nat.reduceBEq, Int.reduceToNat, Int.reduceLT, Int.reduceLE, Int.reduceEq, rnd_eq, enP, List.zipWith_cons_cons, List.zipWith_nil_left, enB, slD_c, ia_sl, H0]
      | 2, _ =>
        simp only [bF, go_sem, Nat.reduceAdd, Nat.reduceSub, Nat.reduceMul, Nat.reduceDiv, Nat.reduceMod, Nat.reduceLeDiff, Nat.reduceLT, Nat.reduceBEq, Int.reduceToNat, Int.reduceLT, Int.reduceLE, Int.reduceEq] at H0
        simp only [go_sem, Nat.reduceAdd, Nat.reduceSub, Nat.reduceMul, Nat.reduceDiv, Nat.reduceMod, Nat.reduceLeDiff, Nat.reduceLT, Nat.reduceBEq, Int.reduceToNat, Int.reduceLT, Int.reduceLE, Int.reduceEq, rnd_eq, enP, List.zipWith_cons_cons, List.zipWith_nil_left, enB, slD_c, ia_sl, H0]
    · simp at hp
  · rcases p with _ | ⟨x, _ | ⟨y, _ | ⟨w, p⟩⟩⟩
    · simp at hp
    · simp at hp
    · have H0 := H r (by simp) x
      have H1 := H s (by simp) y
      match rule, hr with
      | 0, _ =>
        simp only [bF, go_sem, Nat.reduceAdd, Nat.reduceSub, Nat.reduceMul, Nat.reduceDiv, Nat.reduceMod, Nat.reduceLeDiff, Nat.reduceLT, Nat.reduceBEq, Int.reduceToNat, Int.reduceLT, Int.reduceLE, Int.reduceEq] at H0 H1
        simp only [go_sem, Nat.reduceAdd, Nat.reduceSub, Nat.reduceMul, Nat.reduceDiv, Nat.reduceMod, Nat.reduceLeDiff, Nat.reduceLT, Nat.reduceBEq, Int.reduceToNat, Int.reduceLT, Int.reduceLE, Int.reduceEq, rnd_eq, enP, List.zipWith_cons_cons, List.zipWith_nil_left, enB, slD_c, ia_sl, H0, H1]
      | 1, _ =>
        simp only [bF, go_sem, Nat.reduceAdd, Nat.reduceSub, Nat.reduceMul, Nat.reduceDiv, Nat.reduceMod, Nat.reduceLeDiff, Nat.reduceLT, Nat.reduceBEq, Int.reduceToNat, Int.reduceLT, Int.reduceLE, Int.reduceEq] at H0 H1
        simp only [go_sem, Nat.reduceAdd, Nat.reduceSub, Nat.reduceMul, Nat.reduceDiv, Nat.reduceMod, Nat.reduceLeDiff, Nat.reduceLT, Nat.reduceBEq, Int.reduceToNat, Int.reduceLT, Int.reduceLE, Int.reduceEq, rnd_eq, enP, List.zipWith_cons_cons, List.zipWith_nil_left, enB, slD_c, ia_sl, H0, H1]
      | 2, _ =>
        simp only [bF, go_sem, Nat.reduceAdd, Nat.reduceSub, Nat.reduceMul, Nat.reduceDiv, Nat.reduceMod, Nat.reduceLeDiff, Nat.reduceLT, Nat.reduceBEq, Int.reduceToNat, Int.reduceLT, Int.reduceLE, Int.reduceEq] at H0 H1
        simp only [go_sem, Nat.reduceAdd, Nat.reduceSub, Nat.reduceMul, Nat.reduceDiv, Nat.reduceMod, Nat.reduceLeDiff, Nat.reduceLT, Nat.reduceBEq, Int.reduceToNat, Int.reduceLT, Int.reduceLE, Int.reduceEq, rnd_eq, enP, List.zipWith_cons_cons, List.zipWith_nil_left, enB, slD_c, ia_sl, H0, H1]
    · simp at hp
  · rcases p with _ | ⟨x, _ | ⟨y, _ | ⟨z, _ | ⟨w, p⟩⟩⟩⟩
    · simp at hp
    · simp at hp
    · simp at hp
    · have H0 := H r (by simp) x
      have H1 := H s (by simp) y
      have H2 := H t (by simp) z
      match rule, hr with
      | 0, _ =>
        simp only [bF, go_sem, Nat.reduceAdd, Nat.reduceSub, Nat.reduceMul, Nat.reduceDiv, Nat.reduceMod, Nat.reduceLeDiff, Nat.reduceLT, Nat.reduceBEq, Int.reduceToNat, Int.reduceLT, Int.reduceLE, Int.reduceEq] at H0 H1 H2
        simp only [go_sem, Nat.reduceAdd, Nat.reduceSub, Nat.reduceMul, Nat.reduceDiv, Nat.reduceMod, Nat.reduceLeDiff, Nat.reduceLT, Nat.reduceBEq, Int.reduceToNat, Int.reduceLT, Int.reduceLE, Int.reduceEq, rnd_eq, enP, List.zipWith_cons_cons, List.zipWith_nil_left, enB, slD_c, ia_sl, H0, H1, H2]
      | 1, _ =>
        simp only [bF, go_sem, Nat.reduceAdd, Nat.reduceSub, Nat.reduceMul, Nat.reduceDiv, Nat.reduceMod, Nat.reduceLeDiff, Nat.reduceLT, Nat.reduceBEq, Int.reduceToNat, Int.reduceLT, Int.reduceLE, Int.reduceEq] at H0 H1 H2
        simp only [go_sem, Nat.reduceAdd, Nat.reduceSub, Nat.reduceMul, Nat.reduceDiv, Nat.reduceMod, Nat.reduceLeDiff, Nat.reduceLT, Nat.reduceBEq, Int.reduceToNat, Int.reduceLT, Int.reduceLE, Int.reduceEq, rnd_eq, enP, List.zipWith_cons_cons, List.zipWith_nil_left, enB, slD_c, ia_sl, H0, H1, H2]
      | 2, _ =>
        simp only [bF, go_sem, Nat.reduceAdd, Nat.reduceSub, Nat.reduceMul, Nat.reduceDiv, Nat.reduceMod, Nat.reduceLeDiff, Nat.reduceLT, Nat.reduceBEq, Int.reduceToNat, Int.reduceLT, Int.reduceLE, Int.reduceEq] at H0 H1 H2
        simp only [go_sem, Nat.reduceAdd, Nat.reduceSub, Nat.reduceMul, Nat.reduceDiv, Nat.reduceMod, Nat.reduceLeDiff, Nat.reduceLT, Nat.reduceBEq, Int.reduceToNat, Int.reduceLT, Int.reduceLE, Int.reduceEq, rnd_eq, enP, List.zipWith_cons_cons, List.zipWith_nil_left, enB, slD_c, ia_sl, H0, H1, H2]
    · simp at hp
  · simp at h3
theorem okEdge_1 (n : Nat) (x : Int) : callP (level E (n+2)) 79 [.int .i64 x] = some (.bool (!(decide (x ≥ -1048576) && decide (x ≤ 1048576)))) := by
  rw [p79]
  have h1 := okWithin n x (-1048576) 1048576
  simp only [go_sem, Nat.reduceAdd, Nat.reduceSub, Nat.reduceMul, Nat.reduceDiv, Nat.reduceMod, Nat.reduceLeDiff, Nat.reduceLT, Nat.reduceBEq, Int.reduceToNat, Int.reduceLT, Int.reduceLE, Int.reduceEq, h1]
def farB (x : Int) : Bool := !(decide (x ≥ -1048576) && decide (x ≤ 1048576))
theorem okEdgeS (n : Nat) (m : Im) (c : Bool) (p : List Int) (rule : Nat) (hr : rule < 3) (ko vo : Int) (h1 : callP (level E (n+9)) 50 [enIm m] = some (.int .i64 0)) (hm : ckBox m.bx = 0) (hs : m.st.length = m.bx.length) (hp : p.length = m.bx.length) (hf : p.any farB = false) (hmn : many m.bx ≠ 0) (hx : ∀ r ∈ m.bx, r.ex ≠ 0 ∧ ml 2 r.ex ≠ 0)
    (k : Nat) (v : Int) (he : elt m.bx ((List.zipWith (inW rule) m.bx p ++ [0, 0, 0]).take 3) m.st 0 = k) (hv : m.dt[k]? = some v) :
    callP (level E (n+10)) 19 [enIm m, .int .i64 rule, slD c 1 (p.map ic), .agg [.int .i64 ko, .int .u64 vo]] = some (.tup [.agg [.int .i64 m.kd, .int .u64 v], .int .i64 0]) := by
  obtain ⟨_, r2, _, _⟩ := ckBox0 hm
  rw [p19]
  have f1 := okFirstL (n+8) [[.int .i64 0], [.int .i64 0], [.int .i64 0]] [0, 0, 0] rfl (by simp)
  simp only [fnz, if_true] at f1
  have w1 := okWhen (n+8) false 11
  have w2 := okWhen (n+8) false 13
  have i1 := okWithin (n+8) rule 0 3
  have g1 : decide ((rule : Int) ≥ 0) = true := by simp
  have g2 : decide ((rule : Int) ≤ 3) = true := by simp; omega
  rw [g1, g2] at i1
  have c1 := okContains (n+7) c p 79 farB (by omega) (fun x _ => okEdge_1 (n+5) x)
  rw [hf] at c1
  have m1 := okMany (n+8) m.bb m.bx (by omega)
  have mv := okMoved (n+8) m.bb c rule hr m.bx p r2 hp (inW rule) (fun r hr' x => okBound (n+6) rule r x (hx r hr').1 (hx r hr').2)
  have v1 := okViewAt (n+7) m ((List.zipWith (inW rule) m.bx p ++ [0, 0, 0]).take 3) k v (by simp) r2 (by omega) he hv
  have hr3 : ¬ (rule : Int) = 3 := by omega
  simp only [enIm] at h1 v1
  obtain ⟨x, y, z, hq⟩ : ∃ x y z, (List.zipWith (inW rule) m.bx p ++ [0, 0, 0]).take 3 = [x, y, z] := by
    match hh : (List.zipWith (inW rule) m.bx p ++ [0, 0, 0]).take 3, (show ((List.zipWith (inW rule) m.bx p ++ [0, 0, 0]).take 3).length = 3 from by simp) with
    | [x, y, z], _ => exact ⟨x, y, z, rfl⟩
  rw [hq] at mv v1
  simp only [enP, List.map_cons, List.map_nil] at mv v1
  simp only [go_sem, Nat.reduceAdd, Nat.reduceSub, Nat.reduceMul, Nat.reduceDiv, Nat.reduceMod, Nat.reduceLeDiff, Nat.reduceLT, Nat.reduceBEq, Int.reduceToNat, Int.reduceLT, Int.reduceLE, Int.reduceEq, enIm, h1, f1, w1, w2, i1, c1, hp, m1, hmn, hr3, mv, v1, ne_eq, not_true_eq_false]
end Go.Vm.P4Z

/- Chapter 04, functions: the bytes of an image. -/
set_option maxRecDepth 100000
set_option maxHeartbeats 4000000
namespace Go.Vm.P4Z
open Go Go.Vm Go.Vm.P4
def u8 (b : Int) : List D := [.int .u8 b]
attribute [go_sem] u8
def leB : Nat → Int → List Int
  | 0, _ => []
  | k + 1, v => wrp .u8 v :: leB k (v.fdiv 256)
theorem p256 : (2 : Int) ^ min (8 : Int).toNat IntKind.u64.bits = 256 := by decide
theorem sh8 (v : Int) : aBin .shr (.imm (.int .u64 v)) (.imm (.int .u64 8)) = some (.imm (.int .u64 (v.fdiv 256))) := by
  rw [bin_shr (by decide), p256]
theorem okLittle1 (n : Nat) (es : List (List D)) (v : Int) (h : es.length < 1000000) : callS (level E (n+1)) 112 [.ref 0 1 0 es.length, .imm (.int .u64 v), .imm (.int .i64 1)] [.arr 1 es] = some (.ref 1 1 0 (es.length + 1), [.dead, .arr 1 (es ++ (leB 1 v).map u8)]) := by
  rw [s112]
  have e1 : (es.length + 1) * 2 ≤ 70368744177664 := by omega
  simp only [go_sem, Nat.reduceAdd, Nat.reduceSub, Nat.reduceMul, Nat.reduceDiv, Nat.reduceMod, Nat.reduceLeDiff, Nat.reduceLT, Nat.reduceBEq, Int.reduceToNat, Int.reduceLT, Int.reduceLE, Int.reduceEq, rnd_eq, e1, leB, sh8, List.append_assoc]
theorem okLittle2 (n : Nat) (es : List (List D)) (v : Int) (h : es.length < 1000000) : callS (level E (n+1)) 112 [.ref 0 1 0 es.length, .imm (.int .u64 v), .imm (.int .i64 2)] [.arr 1 es] = some (.ref 1 1 0 (es.length + 2), [.dead, .arr 1 (es ++ (leB 2 v).map u8)]) := by
  rw [s112]
  have e1 : (es.length + 1) * 2 ≤ 70368744177664 := by omega
  have e2 : (es.length + 2) * 2 ≤ 70368744177664 := by omega
  simp only [go_sem, Nat.reduceAdd, Nat.reduceSub, Nat.reduceMul, Nat.reduceDiv, Nat.reduceMod, Nat.reduceLeDiff, Nat.reduceLT, Nat.reduceBEq, Int.reduceToNat, Int.reduceLT, Int.reduceLE, Int.reduceEq, rnd_eq, e1, e2, leB, sh8, List.append_assoc]
theorem okLittle4 (n : Nat) (es : List (List D)) (v : Int) (h : es.length < 1000000) : callS (level E (n+1)) 112 [.ref 0 1 0 es.length, .imm (.int .u64 v), .imm (.int .i64 4)] [.arr 1 es] = some (.ref 1 1 0 (es.length + 4), [.dead, .arr 1 (es ++ (leB 4 v).map u8)]) := by
  rw [s112]
  have e1 : (es.length + 1) * 2 ≤ 70368744177664 := by omega
  have e2 : (es.length + 2) * 2 ≤ 70368744177664 := by omega
  have e3 : (es.length + 3) * 2 ≤ 70368744177664 := by omega
  have e4 : (es.length + 4) * 2 ≤ 70368744177664 := by omega
  simp only [go_sem, Nat.reduceAdd, Nat.reduceSub, Nat.reduceMul, Nat.reduceDiv, Nat.reduceMod, Nat.reduceLeDiff, Nat.reduceLT, Nat.reduceBEq, Int.reduceToNat, Int.reduceLT, Int.reduceLE, Int.reduceEq, rnd_eq, e1, e2, e3, e4, leB, sh8, List.append_assoc]
end Go.Vm.P4Z

/- Chapter 04, functions: the bytes of an image, continued. -/
set_option maxRecDepth 100000
set_option maxHeartbeats 4000000
namespace Go.Vm.P4Z
open Go Go.Vm Go.Vm.P4
def cellsIm (m : Im) : List D := [.int .i64 m.kd, enB m.bb m.bx, slD m.tb 1 (m.st.map ic), slD m.db 1 (m.dt.map ub)]
def rgB (r : Rg) : List Int := leB 4 (wrp .u64 r.lo) ++ leB 2 (wrp .u64 r.ex)
theorem rgB_len (r : Rg) : (rgB r).length = 6 := rfl
theorem byLoop (n : Nat) (m : Im) (h3 : m.bx.length ≤ 3) (acc : List (List D)) (ha : acc.length = 2) :
    outC ⟨0, false⟩ [0, 1, 1, 1, 0, 0, 0, 0, 0, 0, 0, 0, 0] (rnd (aCode (level E (n+1)) ⟨0, false⟩ b61_0) (head ⟨0, false⟩ [0, 1, 1, 1, 0, 0, 1, 1, 1, 0, 0, 0, 0])
      ⟨[.junk, .imm .nil, .imm (.ptr (cellsIm m)), .ptr 0 0, .junk, .junk, .imm (slD m.bb 2 (m.bx.map enR)), .imm (.int .i64 m.bx.length), .imm (.int .i64 0), .junk, .junk, .junk, .junk], [.box [.ref 1 1 0 acc.length], .arr 1 acc], none⟩) =
    some (.exit 0, ⟨[.junk, .imm .nil, .imm (.ptr (cellsIm m)), .ptr 0 0, .junk, .junk, .junk, .junk, .junk, .junk, .junk, .junk, .junk], [.box [.ref 1 1 0 (acc ++ (m.bx.flatMap rgB).map u8).length], .arr 1 (acc ++ (m.bx.flatMap rgB).map u8)], none⟩) := by
  have h := loop_fold (f := aCode (level E (n+1)) ⟨0, false⟩ b61_0) (h := head ⟨0, false⟩ [0, 1, 1, 1, 0, 0, 1, 1, 1, 0, 0, 0, 0]) (Φ := outC ⟨0, false⟩ [0, 1, 1, 1, 0, 0, 0, 0, 0, 0, 0, 0, 0]) m.bx (fun (a : List (List D)) i => ⟨[.junk, .imm .nil, .imm (.ptr (cellsIm m)), .ptr 0 0, .junk, .junk, .imm (slD m.bb 2 (m.bx.map enR)), .imm (.int .i64 m.bx.length), .imm (.int .i64 i), .junk, .junk, .junk, .junk], [.box [.ref 1 1 0 a.length], .arr 1 a], none⟩) (fun a i => a.length = 2 + 6 * i)
    (fun a r => a ++ (rgB r).map u8) (fun a => some (.exit 0, ⟨[.junk, .imm .nil, .imm (.ptr (cellsIm m)), .ptr 0 0, .junk, .junk, .junk, .junk, .junk, .junk, .junk, .junk, .junk], [.box [.ref 1 1 0 a.length], .arr 1 a], none⟩)) acc ha
    (fun a i r hI h2 h1 => by
      refine ⟨?_, by simp [hI, rgB_len]; omega⟩
      rw [rnd_eq]
      have l4 := okLittle4 n a (wrp .u64 r.lo) (by omega)
      have l2 := okLittle2 n (a ++ (leB 4 (wrp .u64 r.lo)).map u8) (wrp .u64 r.ex) (by simp [leB]; omega)
      simp only [go_sem, Nat.reduceAdd, Nat.reduceSub, Nat.reduceMul, Nat.reduceDiv, Nat.reduceMod, Nat.reduceLeDiff, Nat.reduceLT, Nat.reduceBEq, Int.reduceToNat, Int.reduceLT, Int.reduceLE, Int.reduceEq, leB] at l4 l2
      simp only [go_sem, Nat.reduceAdd, Nat.reduceSub, Nat.reduceMul, Nat.reduceDiv, Nat.reduceMod, Nat.reduceLeDiff, Nat.reduceLT, Nat.reduceBEq, Int.reduceToNat, Int.reduceLT, Int.reduceLE, Int.reduceEq, lt_t h2, h1, cellsIm, l4, l2, rgB, leB]
      rw [wrpS (by omega)]
      simp only [List.append_assoc, List.cons_append, List.nil_append])
    (fun a _ => by
      rw [rnd_eq]
      simp only [go_sem, Nat.reduceAdd, Nat.reduceSub, Nat.reduceMul, Nat.reduceDiv, Nat.reduceMod, Nat.reduceLeDiff, Nat.reduceLT, Nat.reduceBEq, Int.reduceToNat, Int.reduceLT, Int.reduceLE, Int.reduceEq, lt_f (Nat.le_refl _), cellsIm])
  rw [cast_0] at h
  rw [h]
  have e : ∀ (l : Bx) (acc : List (List D)), l.foldl (fun a r => a ++ (rgB r).map u8) acc = acc ++ (l.flatMap rgB).map u8 := by
    intro l
    induction l with
    | nil => intro acc; simp
    | cons x l ih => intro acc; rw [List.foldl_cons, ih]; simp
  rw [e]
def ByV (m : Im) : List AV := [.junk, .imm .nil, .imm (.ptr (cellsIm m)), .ptr 0 0, .junk, .junk, .junk, .junk, .junk, .junk, .imm (.fn 125 [] [.ptr [enB m.bb m.bx]]), .junk, .junk]
def BySt (m : Im) (acc : List (List D)) : Ext := ⟨[11, 12], b61_1, b61_2, ByV m, [.box [.ref 1 1 0 acc.length], .arr 1 acc], 0, none⟩
theorem byRound1 (n : Nat) (m : Im) (acc : List (List D)) (i : Nat) (v : Int) (ha : acc.length < 1000000) (hv : callP (level E (n+1)) 84 [enIm m, enP (plc m.bx i)] = some (.int .u64 v)) (hz : callP (level E (n+1)) 71 [.int .i64 m.kd] = some (.int .i64 1)) :
    (level E (n+2)).round (BySt m acc) [.int .i64 (i : Int), enP (plc m.bx i)] = some (BySt m (acc ++ (leB 1 v).map u8), true) := by
  obtain ⟨x, y, z, hp⟩ : ∃ x y z, plc m.bx i = [x, y, z] := by
    match hh : plc m.bx i, plc_len m.bx i with
    | [x, y, z], _ => exact ⟨x, y, z, rfl⟩
  rw [hp] at hv ⊢
  have l1 := okLittle1 n acc v ha
  simp only [go_sem, Nat.reduceAdd, Nat.reduceSub, Nat.reduceMul, Nat.reduceDiv, Nat.reduceMod, Nat.reduceLeDiff, Nat.reduceLT, Nat.reduceBEq, Int.reduceToNat, Int.reduceLT, Int.reduceLE, Int.reduceEq, leB] at l1
  simp only [enIm, enP, List.map_cons, List.map_nil] at hv
  unfold BySt
  rw [round_go rfl]
  simp only [go_sem, Nat.reduceAdd, Nat.reduceSub, Nat.reduceMul, Nat.reduceDiv, Nat.reduceMod, Nat.reduceLeDiff, Nat.reduceLT, Nat.reduceBEq, Int.reduceToNat, Int.reduceLT, Int.reduceLE, Int.reduceEq, ByV, cellsIm, enP, hv, hz, l1, leB, enIm]
  done
end Go.Vm.P4Z

/- Chapter 04, functions: Encode (elements of a byte). -/
set_option maxRecDepth 100000
set_option maxHeartbeats 4000000
namespace Go.Vm.P4Z
open Go Go.Vm Go.Vm.P4
theorem okWidth8 (n : Nat) : callP (level E (n+2)) 117 [.int .i64 1] = some (.tup [.int .i64 8, .int .i64 0]) := by
  rw [p117]
  have h1 := okIsKind n 1
  simp only [go_sem, Nat.reduceAdd, Nat.reduceSub, Nat.reduceMul, Nat.reduceDiv, Nat.reduceMod, Nat.reduceLeDiff, Nat.reduceLT, Nat.reduceBEq, Int.reduceToNat, Int.reduceLT, Int.reduceLE, Int.reduceEq] at h1
  simp only [go_sem, Nat.reduceAdd, Nat.reduceSub, Nat.reduceMul, Nat.reduceDiv, Nat.reduceMod, Nat.reduceLeDiff, Nat.reduceLT, Nat.reduceBEq, Int.reduceToNat, Int.reduceLT, Int.reduceLE, Int.reduceEq, h1]
theorem okSize8 (n : Nat) : callP (level E (n+3)) 71 [.int .i64 1] = some (.int .i64 1) := by
  rw [p71]
  have h1 := okWidth8 n
  have w8 : wrp .i64 (8 * 1) = 8 := by decide
  simp only [go_sem, Nat.reduceAdd, Nat.reduceSub, Nat.reduceMul, Nat.reduceDiv, Nat.reduceMod, Nat.reduceLeDiff, Nat.reduceLT, Nat.reduceBEq, Int.reduceToNat, Int.reduceLT, Int.reduceLE, Int.reduceEq, h1, rnd_eq, w8]
def byIm1 (m : Im) (N : Nat) (F : List Int → Int) : List Int := [wrp .u8 m.kd, wrp .u8 m.bx.length] ++ m.bx.flatMap rgB ++ (List.range N).flatMap (fun i => leB 1 (F (plc m.bx i)))
theorem fold_app {α β : Type} (f : α → List β) : ∀ (l : List α) (acc : List β), l.foldl (fun a x => a ++ f x) acc = acc ++ l.flatMap f
  | [], acc => by simp
  | x :: l, acc => by simp only [List.foldl_cons, fold_app f l, List.flatMap_cons, List.append_assoc]
theorem okBytes1 (n : Nat) (m : Im) (h1 : m.bx.length ≤ 3) (hs : m.bx.length ≤ m.st.length) (hk : m.kd = 1) (N : Nat) (hN : many m.bx = N) (hN2 : N < 100000) (F : List Int → Int) (hF : Lies m m.bx N F) :
    callP (level E (n+8)) 61 [enIm m] = some (.sl 1 ((byIm1 m N F).map u8)) := by
  rw [p61]
  have b1 := byLoop (n+6) m h1 [[.int .u8 (wrp .u8 m.kd)], [.int .u8 (wrp .u8 m.bx.length)]] rfl
  have a1 := okAll (n+6) m.bb m.bx
  have h := okAll1 (n+5) m.bb m.bx h1 N hN (by omega) (BySt m) (fun a i => a.length = 2 + 6 * m.bx.length + i) (fun a i => .inl (a ++ (leB 1 (F (plc m.bx i))).map u8)) ([[.int .u8 (wrp .u8 m.kd)], [.int .u8 (wrp .u8 m.bx.length)]] ++ (m.bx.flatMap rgB).map u8)
    (by
      have e : ∀ l : Bx, (l.flatMap rgB).length = 6 * l.length := by
        intro l
        induction l with
        | nil => rfl
        | cons x l ih => rw [List.flatMap_cons, List.length_append, ih, rgB_len, List.length_cons]; omega
      simp [e]; omega)
    (fun a i hI hi => ⟨by
      obtain ⟨k, q1, q2⟩ := hF i hi
      exact byRound1 (n+4) m a i (F (plc m.bx i)) (by omega) (okViewAt (n+3) m (plc m.bx i) k _ (plc_len _ _) h1 hs q1 q2) (by rw [hk]; exact okSize8 (n+2)), fun a' ha => by injection ha with ha; subst ha; simp [hI, leB]; omega⟩)
  rw [runL_fold, fold_app] at h
  simp only [go_sem, Nat.reduceAdd, Nat.reduceSub, Nat.reduceMul, Nat.reduceDiv, Nat.reduceMod, Nat.reduceLeDiff, Nat.reduceLT, Nat.reduceBEq, Int.reduceToNat, Int.reduceLT, Int.reduceLE, Int.reduceEq, cellsIm] at b1
  simp only [go_sem, Nat.reduceAdd, Nat.reduceSub, Nat.reduceMul, Nat.reduceDiv, Nat.reduceMod, Nat.reduceLeDiff, Nat.reduceLT, Nat.reduceBEq, Int.reduceToNat, Int.reduceLT, Int.reduceLE, Int.reduceEq, enIm, b1, a1]
  simp only [go_sem, Nat.reduceAdd, Nat.reduceSub, Nat.reduceMul, Nat.reduceDiv, Nat.reduceMod, Nat.reduceLeDiff, Nat.reduceLT, Nat.reduceBEq, Int.reduceToNat, Int.reduceLT, Int.reduceLE, Int.reduceEq, BySt, ByV, cellsIm] at h
  rw [h]
  simp only [go_sem, Nat.reduceAdd, Nat.reduceSub, Nat.reduceMul, Nat.reduceDiv, Nat.reduceMod, Nat.reduceLeDiff, Nat.reduceLT, Nat.reduceBEq, Int.reduceToNat, Int.reduceLT, Int.reduceLE, Int.reduceEq]
  simp [byIm1, List.map_flatMap, u8]
theorem okEncode1 (n : Nat) (m : Im) (hc : callP (level E (n+9)) 50 [enIm m] = some (.int .i64 0)) (h1 : m.bx.length ≤ 3) (hs : m.bx.length ≤ m.st.length) (hk : m.kd = 1) (N : Nat) (hN : many m.bx = N) (hN2 : N < 100000) (F : List Int → Int) (hF : Lies m m.bx N F) :
    callP (level E (n+10)) 9 [enIm m] = some (.tup [.sl 1 ((byIm1 m N F).map u8), .int .i64 0]) := by
  rw [p9]
  have b1 := okBytes1 (n+1) m h1 hs hk N hN hN2 F hF
  simp only [enIm] at hc b1
  simp only [go_sem, Nat.reduceAdd, Nat.reduceSub, Nat.reduceMul, Nat.reduceDiv, Nat.reduceMod, Nat.reduceLeDiff, Nat.reduceLT, Nat.reduceBEq, Int.reduceToNat, Int.reduceLT, Int.reduceLE, Int.reduceEq, enIm, hc, b1, ne_eq, not_true_eq_false]
theorem okSameInts (n : Nat) (b c : Bool) (l : List Int) (hl : l.length < 1000000000) : callP (level E (n+1)) 58 [slD b 1 (l.map ic), slD c 1 (l.map ic)] = some (.bool true) := by
  rw [p58]
  simp only [go_sem, Nat.reduceAdd, Nat.reduceSub, Nat.reduceMul, Nat.reduceDiv, Nat.reduceMod, Nat.reduceLeDiff, Nat.reduceLT, Nat.reduceBEq, Int.reduceToNat, Int.reduceLT, Int.reduceLE, Int.reduceEq, ne_eq, not_true_eq_false]
  have h := loop_fold (f := aCode (level E (n)) ⟨0, false⟩ b58_0) (h := head ⟨0, false⟩ [1, 1, 0, 1, 0, 0, 0]) (Φ := outC ⟨0, false⟩ [0, 0, 1, 0, 0, 0, 0]) l (fun (a : Unit) i => ⟨[.imm (slD b 1 (l.map ic)), .imm (slD c 1 (l.map ic)), .junk, .imm (.int .i64 i), .junk, .junk, .junk], [], none⟩) (fun _ _ => True)
    (fun a x => ()) (fun a => some (.exit 0, ⟨[.junk, .junk, .junk, .junk, .junk, .junk, .junk], [], none⟩)) () trivial
    (fun a i x hI h2 h1 => by
      refine ⟨?_, trivial⟩
      rw [rnd_eq]
      simp only [go_sem, Nat.reduceAdd, Nat.reduceSub, Nat.reduceMul, Nat.reduceDiv, Nat.reduceMod, Nat.reduceLeDiff, Nat.reduceLT, Nat.reduceBEq, Int.reduceToNat, Int.reduceLT, Int.reduceLE, Int.reduceEq, lt_t h2, h1, ne_eq, not_true_eq_false]
      rw [wrpS (by omega)])
    (fun a _ => by
      rw [rnd_eq]
      simp only [go_sem, Nat.reduceAdd, Nat.reduceSub, Nat.reduceMul, Nat.reduceDiv, Nat.reduceMod, Nat.reduceLeDiff, Nat.reduceLT, Nat.reduceBEq, Int.reduceToNat, Int.reduceLT, Int.reduceLE, Int.reduceEq, lt_f (Nat.le_refl _)])
  rw [cast_0] at h
  rw [h]
  simp only [go_sem, Nat.reduceAdd, Nat.reduceSub, Nat.reduceMul, Nat.reduceDiv, Nat.reduceMod, Nat.reduceLeDiff, Nat.reduceLT, Nat.reduceBEq, Int.reduceToNat, Int.reduceLT, Int.reduceLE, Int.reduceEq]
theorem okSameBits (n : Nat) (b c : Bool) (l : List Int) (hl : l.length < 1000000000) : callP (level E (n+1)) 60 [slD b 1 (l.map ub), slD c 1 (l.map ub)] = some (.bool true) := by
  rw [p60]
  simp only [go_sem, Nat.reduceAdd, Nat.reduceSub, Nat.reduceMul, Nat.reduceDiv, Nat.reduceMod, Nat.reduceLeDiff, Nat.reduceLT, Nat.reduceBEq, Int.reduceToNat, Int.reduceLT, Int.reduceLE, Int.reduceEq, ne_eq, not_true_eq_false]
  have h := loop_fold (f := aCode (level E (n)) ⟨0, false⟩ b60_0) (h := head ⟨0, false⟩ [1, 1, 0, 1, 0, 0, 0]) (Φ := outC ⟨0, false⟩ [0, 0, 1, 0, 0, 0, 0]) l (fun (a : Unit) i => ⟨[.imm (slD b 1 (l.map ub)), .imm (slD c 1 (l.map ub)), .junk, .imm (.int .i64 i), .junk, .junk, .junk], [], none⟩) (fun _ _ => True)
    (fun a x => ()) (fun a => some (.exit 0, ⟨[.junk, .junk, .junk, .junk, .junk, .junk, .junk], [], none⟩)) () trivial
    (fun a i x hI h2 h1 => by
      refine ⟨?_, trivial⟩
      rw [rnd_eq]
      simp only [go_sem, Nat.reduceAdd, Nat.reduceSub, Nat.reduceMul, Nat.reduceDiv, Nat.reduceMod, Nat.reduceLeDiff, Nat.reduceLT, Nat.reduceBEq, Int.reduceToNat, Int.reduceLT, Int.reduceLE, Int.reduceEq, lt_t h2, h1, ne_eq, not_true_eq_false]
      rw [wrpS (by omega)])
    (fun a _ => by
      rw [rnd_eq]
      simp only [go_sem, Nat.reduceAdd, Nat.reduceSub, Nat.reduceMul, Nat.reduceDiv, Nat.reduceMod, Nat.reduceLeDiff, Nat.reduceLT, Nat.reduceBEq, Int.reduceToNat, Int.reduceLT, Int.reduceLE, Int.reduceEq, lt_f (Nat.le_refl _)])
  rw [cast_0] at h
  rw [h]
  simp only [go_sem, Nat.reduceAdd, Nat.reduceSub, Nat.reduceMul, Nat.reduceDiv, Nat.reduceMod, Nat.reduceLeDiff, Nat.reduceLT, Nat.reduceBEq, Int.reduceToNat, Int.reduceLT, Int.reduceLE, Int.reduceEq]
theorem okSameBytes (n : Nat) (b c : Bool) (l : List Int) (hl : l.length < 1000000000) : callP (level E (n+1)) 17 [slD b 1 (l.map u8), slD c 1 (l.map u8)] = some (.bool true) := by
  rw [p17]
  simp only [go_sem, Nat.reduceAdd, Nat.reduceSub, Nat.reduceMul, Nat.reduceDiv, Nat.reduceMod, Nat.reduceLeDiff, Nat.reduceLT, Nat.reduceBEq, Int.reduceToNat, Int.reduceLT, Int.reduceLE, Int.reduceEq, ne_eq, not_true_eq_false]
  have h := loop_fold (f := aCode (level E (n)) ⟨0, false⟩ b17_0) (h := head ⟨0, false⟩ [1, 1, 0, 1, 0, 0, 0]) (Φ := outC ⟨0, false⟩ [0, 0, 1, 0, 0, 0, 0]) l (fun (a : Unit) i => ⟨[.imm (slD b 1 (l.map u8)), .imm (slD c 1 (l.map u8)), .junk, .imm (.int .i64 i), .junk, .junk, .junk], [], none⟩) (fun _ _ => True)
    (fun a x => ()) (fun a => some (.exit 0, ⟨[.junk, .junk, .junk, .junk, .junk, .junk, .junk], [], none⟩)) () trivial
    (fun a i x hI h2 h1 => by
      refine ⟨?_, trivial⟩
      rw [rnd_eq]
      simp only [go_sem, Nat.reduceAdd, Nat.reduceSub, Nat.reduceMul, Nat.reduceDiv, Nat.reduceMod, Nat.reduceLeDiff, Nat.reduceLT, Nat.reduceBEq, Int.reduceToNat, Int.reduceLT, Int.reduceLE, Int.reduceEq, lt_t h2, h1, ne_eq, not_true_eq_false]
      rw [wrpS (by omega)])
    (fun a _ => by
      rw [rnd_eq]
      simp only [go_sem, Nat.reduceAdd, Nat.reduceSub, Nat.reduceMul, Nat.reduceDiv, Nat.reduceMod, Nat.reduceLeDiff, Nat.reduceLT, Nat.reduceBEq, Int.reduceToNat, Int.reduceLT, Int.reduceLE, Int.reduceEq, lt_f (Nat.le_refl _)])
  rw [cast_0] at h
  rw [h]
  simp only [go_sem, Nat.reduceAdd, Nat.reduceSub, Nat.reduceMul, Nat.reduceDiv, Nat.reduceMod, Nat.reduceLeDiff, Nat.reduceLT, Nat.reduceBEq, Int.reduceToNat, Int.reduceLT, Int.reduceLE, Int.reduceEq]
end Go.Vm.P4Z

/- Chapter 04, functions: the document's examples. -/
set_option maxRecDepth 100000
set_option maxHeartbeats 8000000
namespace Go.Vm.P4Z
open Go Go.Vm Go.Vm.P4
def bx0 : Bx := [⟨2, 3⟩, ⟨0, 2⟩]
def ot0 : Bx := [⟨3, 2⟩, ⟨1, 5⟩]
def m0 : Im := ⟨1, false, bx0, false, [1, 3], false, [10, 20, 30, 40, 50, 60]⟩
def m1 : Im := ⟨1, false, bx0, false, [2, 6], false, [0, 0, 0, 0, 0, 0, 0, 0, 0, 0, 0, 0]⟩
def m2 : Im := ⟨1, false, bx0, false, [1, 2], false, [0, 0, 0, 0, 0, 0, 0, 0, 0, 0, 0, 0]⟩
theorem bits8_all : bits8 0 ∧ bits8 10 ∧ bits8 20 ∧ bits8 30 ∧ bits8 40 ∧ bits8 50 ∧ bits8 60 := by
  unfold bits8
  decide
theorem ck_m0 : ckIm (fun _ => 0) m0 = 0 := by decide
theorem ck_m1 : ckIm (fun _ => 0) m1 = 0 := by decide
theorem ck_m2 : ckIm (fun _ => 0) m2 = 26 := by decide
theorem b8_m0 : ∀ v ∈ m0.dt, bits8 v := by
  obtain ⟨h0, h1, h2, h3, h4, h5, h6⟩ := bits8_all
  intro v hv
  simp only [m0, List.mem_cons, List.not_mem_nil, or_false] at hv
  rcases hv with rfl | rfl | rfl | rfl | rfl | rfl <;> assumption
theorem chk0 (n : Nat) : callP (level E (n+9)) 50 [enIm m0] = some (.int .i64 0) := by
  have h := okCheck n m0 (fun _ => 0) (by decide) (by decide) (by decide) (fun v hv => okCheck8 (n+1) v (b8_m0 v hv))
  rw [ck_m0] at h
  exact h
theorem chk1 (n : Nat) : callP (level E (n+9)) 50 [enIm m1] = some (.int .i64 0) := by
  have h := okCheck n m1 (fun _ => 0) (by decide) (by decide) (by decide) (fun v hv => okCheck8 (n+1) v (by
    have : v = 0 := by simpa [m1] using hv
    rw [this]; exact bits8_all.1))
  rw [ck_m1] at h
  exact h
theorem chk2 (n : Nat) : callP (level E (n+9)) 50 [enIm m2] = some (.int .i64 26) := by
  have h := okCheck n m2 (fun _ => 0) (by decide) (by decide) (by decide) (fun v hv => okCheck8 (n+1) v (by
    have : v = 0 := by simpa [m2] using hv
    rw [this]; exact bits8_all.1))
  rw [ck_m2] at h
  exact h
theorem ckb0 : ckBox bx0 = 0 := by decide
theorem aw_at (n : Nat) : callP (level E (n+11)) 39 [enIm m0, slD false 1 ([3, 1].map ic)] = some (.tup [.agg [.int .i64 1, .int .u64 50], .int .i64 0]) := by
  have h := okCheckAt n m0 false [3, 1] (fun _ => 0) (by decide) (by decide) (by decide) (fun v hv => okCheck8 (n+1) v (b8_m0 v hv))
  rw [show ckAt (fun _ => 0) m0 [3, 1] = 0 from by decide] at h
  exact okAtS n m0 false [3, 1] h (by decide) (by decide) (by decide) 4 50 (by decide) (by decide)
def fSl (p : List Int) : Int := if p.headD 0 = 0 then 20 else 50
theorem aw_slice (n : Nat) : callP (level E (n+10)) 27 [enIm m0, .int .i64 0, .int .i64 3] = some (.tup [enIm (mkIm 1 [⟨0, 2⟩] 2 fSl), .int .i64 0]) := by
  refine okSlice2 n m0 ⟨2, 3⟩ ⟨0, 2⟩ rfl 3 (chk0 n) rfl ckb0 (by decide) (by decide) 2 (by decide) (by decide) fSl (fun i hi => ?_)
  match i, hi with
  | 0, _ => exact ⟨0, 0, 0, 1, by decide, by decide, by decide⟩
  | 1, _ => exact ⟨1, 0, 0, 4, by decide, by decide, by decide⟩
def fTr (p : List Int) : Int := 10 + 30 * p.headD 0 + 10 * ((p.tail).headD 0 - 2)
theorem aw_trans (n : Nat) : callP (level E (n+10)) 28 [enIm m0, .int .i64 0, .int .i64 1] = some (.tup [enIm (mkIm 1 [⟨0, 2⟩, ⟨2, 3⟩] 6 fTr), .int .i64 0]) := by
  refine okTranspose2 n m0 ⟨2, 3⟩ ⟨0, 2⟩ rfl (chk0 n) rfl 6 (by decide) (by decide) fTr (fun i hi => ?_)
  match i, hi with
  | 0, _ => exact ⟨0, 2, 0, 0, by decide, by decide, by decide⟩
  | 1, _ => exact ⟨1, 2, 0, 3, by decide, by decide, by decide⟩
  | 2, _ => exact ⟨0, 3, 0, 1, by decide, by decide, by decide⟩
  | 3, _ => exact ⟨1, 3, 0, 4, by decide, by decide, by decide⟩
  | 4, _ => exact ⟨0, 4, 0, 2, by decide, by decide, by decide⟩
  | 5, _ => exact ⟨1, 4, 0, 5, by decide, by decide, by decide⟩
def fCr (p : List Int) : Int := 50 + 10 * (p.headD 0 - 3)
theorem aw_crop (n : Nat) : callP (level E (n+10)) 25 [enIm m0, enB false [⟨3, 2⟩, ⟨1, 1⟩]] = some (.tup [enIm (mkIm 1 [⟨3, 2⟩, ⟨1, 1⟩] 2 fCr), .int .i64 0]) := by
  refine okCropS n m0 false [⟨3, 2⟩, ⟨1, 1⟩] (chk0 n) ckb0 rfl (by decide) rfl (by rfl) 2 (by decide) fCr (fun i hi => ?_)
  match i, hi with
  | 0, _ => exact ⟨4, by decide, by decide⟩
  | 1, _ => exact ⟨5, by decide, by decide⟩
theorem aw_edge (n : Nat) (rule : Nat) (hr : rule < 3) : callP (level E (n+10)) 19 [enIm m0, .int .i64 rule, slD false 1 ([0, 5].map ic), .agg [.int .i64 0, .int .u64 0]] = some (.tup [.agg [.int .i64 1, .int .u64 ([40, 50, 50].getD rule 0)], .int .i64 0]) := by
  have hx : ∀ r ∈ m0.bx, r.ex ≠ 0 ∧ ml 2 r.ex ≠ 0 := by
    intro r hr
    simp only [m0, bx0, List.mem_cons, List.not_mem_nil, or_false] at hr
    rcases hr with rfl | rfl <;> decide
  match rule, hr with
  | 0, hr => exact okEdgeS n m0 false [0, 5] 0 hr 0 0 (chk0 n) ckb0 rfl rfl (by decide) (by decide) hx 3 40 (by decide) (by decide)
  | 1, hr => exact okEdgeS n m0 false [0, 5] 1 hr 0 0 (chk0 n) ckb0 rfl rfl (by decide) (by decide) hx 4 50 (by decide) (by decide)
  | 2, hr => exact okEdgeS n m0 false [0, 5] 2 hr 0 0 (chk0 n) ckb0 rfl rfl (by decide) (by decide) hx 4 50 (by decide) (by decide)
def mS : Im := mkIm 1 [⟨0, 2⟩] 2 fSl
theorem aw_encode (n : Nat) : callP (level E (n+10)) 9 [enIm mS] = some (.tup [.sl 1 (([1, 1, 0, 0, 0, 0, 2, 0, 20, 50] : List Int).map u8), .int .i64 0]) := by
  have hb : ∀ v ∈ mS.dt, bits8 v := by
    obtain ⟨h0, h1, h2, h3, h4, h5, h6⟩ := bits8_all
    intro v hv
    have e : mS.dt = [20, 50] := by decide
    rw [e] at hv
    simp only [List.mem_cons, List.not_mem_nil, or_false] at hv
    rcases hv with rfl | rfl <;> assumption
  have h := okCheck n mS (fun _ => 0) (by decide) (by decide) (by decide) (fun v hv => okCheck8 (n+1) v (hb v hv))
  rw [show ckIm (fun _ => 0) mS = 0 from by decide] at h
  have k := okEncode1 n mS h (by decide) (by decide) rfl 2 (by decide) (by decide) fSl (fun i hi => by
    match i, hi with
    | 0, _ => exact ⟨0, by decide, by decide⟩
    | 1, _ => exact ⟨1, by decide, by decide⟩)
  rw [show byIm1 mS 2 fSl = [1, 1, 0, 0, 0, 0, 2, 0, 20, 50] from by decide] at k
  exact k
end Go.Vm.P4Z

/- Chapter 04, functions: the reference's boxes. -/
set_option maxRecDepth 100000
set_option maxHeartbeats 1000000
namespace Go.Vm.P4Z
open Go Go.Vm Go.Vm.P4
theorem okQWhen (n : Nat) (b : Bool) (x : Int) : callP (level E (n+1)) 32 [.bool b, .int .i64 x] = some (.int .i64 (if b then x else 0)) := by
  rw [p32]
  cases b <;> simp only [go_sem, Nat.reduceAdd, Nat.reduceSub, Nat.reduceMul, Nat.reduceDiv, Nat.reduceMod, Nat.reduceLeDiff, Nat.reduceLT, Nat.reduceBEq, Int.reduceToNat, Int.reduceLT, Int.reduceLE, Int.reduceEq, Bool.false_eq_true]
theorem okQFirst (n : Nat) (b : Bool) (l : List Int) (hl : l.length < 1000000000) : callP (level E (n+1)) 29 [slD b 1 (l.map ic)] = some (.int .i64 (fnz l)) := by
  rw [p29]
  simp only [go_sem, Nat.reduceAdd, Nat.reduceSub, Nat.reduceMul, Nat.reduceDiv, Nat.reduceMod, Nat.reduceLeDiff, Nat.reduceLT, Nat.reduceBEq, Int.reduceToNat, Int.reduceLT, Int.reduceLE, Int.reduceEq]
  have h := loop_run (f := aCode (level E (n)) ⟨0, false⟩ b29_0) (h := head ⟨0, false⟩ [1, 0, 1, 0, 0]) (Φ := outC ⟨0, false⟩ [0, 1, 0, 0, 0]) l (fun (_ : Unit) i => ⟨[.imm (slD b 1 (l.map ic)), .junk, .imm (.int .i64 i), .junk, .junk], [], none⟩) (fun _ _ => True)
    (fun _ x => if x = 0 then .inl () else .inr (some (.ret, ⟨[.junk, .imm (.int .i64 x), .junk, .junk, .junk], [], none⟩))) (fun _ => some (.exit 0, ⟨[.junk, .junk, .junk, .junk, .junk], [], none⟩)) () trivial
    (fun _ i x _ h2 h1 => ⟨by
      rw [rnd_eq]
      by_cases h0 : x = 0
      · subst h0
        simp only [go_sem, Nat.reduceAdd, Nat.reduceSub, Nat.reduceMul, Nat.reduceDiv, Nat.reduceMod, Nat.reduceLeDiff, Nat.reduceLT, Nat.reduceBEq, Int.reduceToNat, Int.reduceLT, Int.reduceLE, Int.reduceEq, lt_t h2, h1, ne_eq, not_true_eq_false]
        rw [wrpS (by omega)]
      · simp only [go_sem, Nat.reduceAdd, Nat.reduceSub, Nat.reduceMul, Nat.reduceDiv, Nat.reduceMod, Nat.reduceLeDiff, Nat.reduceLT, Nat.reduceBEq, Int.reduceToNat, Int.reduceLT, Int.reduceLE, Int.reduceEq, lt_t h2, h1, ne_eq, h0, not_false_eq_true], fun _ _ => trivial⟩)
    (fun _ _ => by
      rw [rnd_eq]
      simp only [go_sem, Nat.reduceAdd, Nat.reduceSub, Nat.reduceMul, Nat.reduceDiv, Nat.reduceMod, Nat.reduceLeDiff, Nat.reduceLT, Nat.reduceBEq, Int.reduceToNat, Int.reduceLT, Int.reduceLE, Int.reduceEq, lt_f (Nat.le_refl _)])
  rw [cast_0] at h
  rw [h]
  clear h hl
  induction l with
  | nil => simp only [go_sem, Nat.reduceAdd, Nat.reduceSub, Nat.reduceMul, Nat.reduceDiv, Nat.reduceMod, Nat.reduceLeDiff, Nat.reduceLT, Nat.reduceBEq, Int.reduceToNat, Int.reduceLT, Int.reduceLE, Int.reduceEq, runL_nil, fnz]
  | cons x r ih =>
    by_cases h0 : x = 0
    · simp only [runL_cons, h0, if_true, fnz]; exact ih
    · simp only [go_sem, Nat.reduceAdd, Nat.reduceSub, Nat.reduceMul, Nat.reduceDiv, Nat.reduceMod, Nat.reduceLeDiff, Nat.reduceLT, Nat.reduceBEq, Int.reduceToNat, Int.reduceLT, Int.reduceLE, Int.reduceEq, runL_cons, h0, fnz]
theorem okQFirstL (n : Nat) (es : List (List D)) (l : List Int) (he : es = l.map ic) (hl : l.length < 1000000000) : callP (level E (n+1)) 29 [.sl 1 es] = some (.int .i64 (fnz l)) := by
  subst he
  exact okQFirst n false l hl
theorem okRProduct (n : Nat) (b : Bool) (l : Bx) (hl : l.length < 1000000000) : callP (level E (n+1)) 43 [enB b l] = some (.int .i64 (many l)) := by
  rw [p43]
  simp only [go_sem, Nat.reduceAdd, Nat.reduceSub, Nat.reduceMul, Nat.reduceDiv, Nat.reduceMod, Nat.reduceLeDiff, Nat.reduceLT, Nat.reduceBEq, Int.reduceToNat, Int.reduceLT, Int.reduceLE, Int.reduceEq]
  have h := loop_fold (f := aCode (level E (n)) ⟨0, false⟩ b43_0) (h := head ⟨0, false⟩ [1, 0, 1, 1, 0]) (Φ := outC ⟨0, false⟩ [0, 0, 1, 0, 0]) l (fun (a : Int) i => ⟨[.imm (slD b 2 (l.map enR)), .junk, .imm (.int .i64 a), .imm (.int .i64 i), .junk], [], none⟩) (fun _ _ => True)
    (fun a x => ml a x.ex) (fun a => some (.exit 0, ⟨[.junk, .junk, .imm (.int .i64 a), .junk, .junk], [], none⟩)) 1 trivial
    (fun a i x _ h2 h1 => ⟨by
      rw [rnd_eq]
      simp only [go_sem, Nat.reduceAdd, Nat.reduceSub, Nat.reduceMul, Nat.reduceDiv, Nat.reduceMod, Nat.reduceLeDiff, Nat.reduceLT, Nat.reduceBEq, Int.reduceToNat, Int.reduceLT, Int.reduceLE, Int.reduceEq, lt_t h2, h1, ml]
      rw [wrpS (by omega)], trivial⟩)
    (fun _ _ => by
      rw [rnd_eq]
      simp only [go_sem, Nat.reduceAdd, Nat.reduceSub, Nat.reduceMul, Nat.reduceDiv, Nat.reduceMod, Nat.reduceLeDiff, Nat.reduceLT, Nat.reduceBEq, Int.reduceToNat, Int.reduceLT, Int.reduceLE, Int.reduceEq, lt_f (Nat.le_refl _)])
  rw [cast_0] at h
  rw [h]
  simp only [go_sem, Nat.reduceAdd, Nat.reduceSub, Nat.reduceMul, Nat.reduceDiv, Nat.reduceMod, Nat.reduceLeDiff, Nat.reduceLT, Nat.reduceBEq, Int.reduceToNat, Int.reduceLT, Int.reduceLE, Int.reduceEq, many]
theorem okOwnBox (n : Nat) (b : Bool) (l : Bx) (hl : l.length < 1000000) : callP (level E (n+1)) 26 [enB b l] = some (enB true l) := by
  rw [p26]
  rcases l with _ | ⟨x, t⟩
  · cases b <;> simp only [go_sem, Nat.reduceAdd, Nat.reduceSub, Nat.reduceMul, Nat.reduceDiv, Nat.reduceMod, Nat.reduceLeDiff, Nat.reduceLT, Nat.reduceBEq, Int.reduceToNat, Int.reduceLT, Int.reduceLE, Int.reduceEq, slD] <;> rfl
  · have e : (t.length + 1) * 17 ≤ 70368744177664 := by simp at hl; omega
    have e0 : enB b (x :: t) = .sl 2 ((x :: t).map enR) := by cases b <;> rfl
    rw [e0]
    simp only [go_sem, Nat.reduceAdd, Nat.reduceSub, Nat.reduceMul, Nat.reduceDiv, Nat.reduceMod, Nat.reduceLeDiff, Nat.reduceLT, Nat.reduceBEq, Int.reduceToNat, Int.reduceLT, Int.reduceLE, Int.reduceEq, e] <;> rfl
theorem okRCheckBox (n : Nat) (b : Bool) (l : Bx) (hl : l.length < 1000000) : callP (level E (n+2)) 30 [enB b l] = some (.int .i64 (ckBox l)) := by
  rw [p30]
  by_cases h1 : l.length < 1
  · have h1' : (l.length : Int) < 1 := by omega
    simp only [go_sem, Nat.reduceAdd, Nat.reduceSub, Nat.reduceMul, Nat.reduceDiv, Nat.reduceMod, Nat.reduceLeDiff, Nat.reduceLT, Nat.reduceBEq, Int.reduceToNat, Int.reduceLT, Int.reduceLE, Int.reduceEq, h1', ckBox, h1, true_or]
  · have h1' : ¬ (l.length : Int) < 1 := by omega
    by_cases h2 : 3 < l.length
    · have h2' : (3 : Int) < l.length := by omega
      simp only [go_sem, Nat.reduceAdd, Nat.reduceSub, Nat.reduceMul, Nat.reduceDiv, Nat.reduceMod, Nat.reduceLeDiff, Nat.reduceLT, Nat.reduceBEq, Int.reduceToNat, Int.reduceLT, Int.reduceLE, Int.reduceEq, h1', h2', ckBox, h1, h2, or_true]
    · have h2' : ¬ (3 : Int) < l.length := by omega
      simp only [go_sem, Nat.reduceAdd, Nat.reduceSub, Nat.reduceMul, Nat.reduceDiv, Nat.reduceMod, Nat.reduceLeDiff, Nat.reduceLT, Nat.reduceBEq, Int.reduceToNat, Int.reduceLT, Int.reduceLE, Int.reduceEq, h1', h2', ckBox, h1, h2, or_self]
      have h := loop_run (f := aCode (level E (n+1)) ⟨0, false⟩ b30_0) (h := head ⟨0, false⟩ [1, 0, 1, 0, 0, 0, 0]) (Φ := outC ⟨0, false⟩ [1, 1, 0, 0, 0, 0, 0]) l (fun (_ : Unit) i => ⟨[.imm (slD b 2 (l.map enR)), .junk, .imm (.int .i64 i), .junk, .junk, .junk, .junk], [], none⟩) (fun _ _ => True)
        (fun _ r => if ckRange r = 0 then .inl () else .inr (some (.ret, ⟨[.imm (slD b 2 (l.map enR)), .imm (.int .i64 3), .junk, .junk, .junk, .junk, .junk], [], none⟩))) (fun _ => some (.exit 0, ⟨[.imm (slD b 2 (l.map enR)), .junk, .junk, .junk, .junk, .junk, .junk], [], none⟩)) () trivial
        (fun _ i r _ h2 h1 => ⟨by
          rw [rnd_eq]
          by_cases k1 : r.lo < -1048576
          · have k : ¬ ckRange r = 0 := by rw [ckRange, if_pos (by omega)]; omega
            simp only [go_sem, Nat.reduceAdd, Nat.reduceSub, Nat.reduceMul, Nat.reduceDiv, Nat.reduceMod, Nat.reduceLeDiff, Nat.reduceLT, Nat.reduceBEq, Int.reduceToNat, Int.reduceLT, Int.reduceLE, Int.reduceEq, lt_t h2, h1, k1, k]
          · by_cases k2 : r.lo > 1048576
            · have k : ¬ ckRange r = 0 := by rw [ckRange, if_pos (by omega)]; omega
              simp only [go_sem, Nat.reduceAdd, Nat.reduceSub, Nat.reduceMul, Nat.reduceDiv, Nat.reduceMod, Nat.reduceLeDiff, Nat.reduceLT, Nat.reduceBEq, Int.reduceToNat, Int.reduceLT, Int.reduceLE, Int.reduceEq, lt_t h2, h1, k1, k2, k]
            · by_cases k3 : r.ex < 0
              · have k : ¬ ckRange r = 0 := by rw [ckRange, if_pos (by omega)]; omega
                simp only [go_sem, Nat.reduceAdd, Nat.reduceSub, Nat.reduceMul, Nat.reduceDiv, Nat.reduceMod, Nat.reduceLeDiff, Nat.reduceLT, Nat.reduceBEq, Int.reduceToNat, Int.reduceLT, Int.reduceLE, Int.reduceEq, lt_t h2, h1, k1, k2, k3, k]
              · by_cases k4 : r.ex > 64
                · have k : ¬ ckRange r = 0 := by rw [ckRange, if_pos (by omega)]; omega
                  simp only [go_sem, Nat.reduceAdd, Nat.reduceSub, Nat.reduceMul, Nat.reduceDiv, Nat.reduceMod, Nat.reduceLeDiff, Nat.reduceLT, Nat.reduceBEq, Int.reduceToNat, Int.reduceLT, Int.reduceLE, Int.reduceEq, lt_t h2, h1, k1, k2, k3, k4, k]
                · have e : wrp .i64 (r.lo + r.ex) = r.lo + r.ex := wrp_ok (by omega)
                  by_cases k5 : r.lo + r.ex > 1048577
                  · have k : ¬ ckRange r = 0 := by rw [ckRange, if_pos (by omega)]; omega
                    simp only [go_sem, Nat.reduceAdd, Nat.reduceSub, Nat.reduceMul, Nat.reduceDiv, Nat.reduceMod, Nat.reduceLeDiff, Nat.reduceLT, Nat.reduceBEq, Int.reduceToNat, Int.reduceLT, Int.reduceLE, Int.reduceEq, lt_t h2, h1, k1, k2, k3, k4, e, k5, k]
                  · have k : ckRange r = 0 := by rw [ckRange, if_neg (by omega)]
                    simp only [go_sem, Nat.reduceAdd, Nat.reduceSub, Nat.reduceMul, Nat.reduceDiv, Nat.reduceMod, Nat.reduceLeDiff, Nat.reduceLT, Nat.reduceBEq, Int.reduceToNat, Int.reduceLT, Int.reduceLE, Int.reduceEq, lt_t h2, h1, k1, k2, k3, k4, e, k5, k]
                    rw [wrpS (by omega)], fun _ _ => trivial⟩)
        (fun _ _ => by
          rw [rnd_eq]
          simp only [go_sem, Nat.reduceAdd, Nat.reduceSub, Nat.reduceMul, Nat.reduceDiv, Nat.reduceMod, Nat.reduceLeDiff, Nat.reduceLT, Nat.reduceBEq, Int.reduceToNat, Int.reduceLT, Int.reduceLE, Int.reduceEq, lt_f (Nat.le_refl _)])
      rw [cast_0] at h
      rw [h]
      clear h
      have hm := okRProduct n b l (by omega)
      have e : ∀ l' : Bx, runL (γ := Option (AExit × S)) (fun (_ : Unit) r => if ckRange r = 0 then .inl () else .inr (some (AExit.ret, ⟨[.imm (slD b 2 (l.map enR)), .imm (.int .i64 3), .junk, .junk, .junk, .junk, .junk], [], none⟩))) (fun _ => some (AExit.exit 0, ⟨[.imm (slD b 2 (l.map enR)), .junk, .junk, .junk, .junk, .junk, .junk], [], none⟩)) () l'
          = if fnz (l'.map ckRange) = 0 then some (AExit.exit 0, ⟨[.imm (slD b 2 (l.map enR)), .junk, .junk, .junk, .junk, .junk, .junk], [], none⟩) else some (AExit.ret, ⟨[.imm (slD b 2 (l.map enR)), .imm (.int .i64 3), .junk, .junk, .junk, .junk, .junk], [], none⟩) := by
        intro l'
        induction l' with
        | nil => simp [runL_nil, fnz]
        | cons x r ih =>
          by_cases h0 : ckRange x = 0
          · simp only [runL_cons, h0, if_true, List.map_cons, fnz]; exact ih
          · simp only [runL_cons, h0, if_false, List.map_cons, fnz]
      rw [e]
      have e3 : fnz (l.map ckRange) = 0 ∨ fnz (l.map ckRange) = 3 := by
        clear e hm hl h1 h1' h2 h2'
        induction l with
        | nil => exact .inl rfl
        | cons x r ih =>
          rw [List.map_cons, fnz_cons]
          by_cases h0 : ckRange x = 0
          · rw [if_pos h0]; exact ih
          · rw [if_neg h0]
            right
            unfold ckRange at h0 ⊢
            split
            · rfl
            · rename_i h; rw [if_neg h] at h0; exact absurd rfl h0
      rcases e3 with e3 | e3
      · by_cases h3 : 4096 < many l
        · simp only [go_sem, Nat.reduceAdd, Nat.reduceSub, Nat.reduceMul, Nat.reduceDiv, Nat.reduceMod, Nat.reduceLeDiff, Nat.reduceLT, Nat.reduceBEq, Int.reduceToNat, Int.reduceLT, Int.reduceLE, Int.reduceEq, e3, hm, h3, okQWhen, fnz]
        · simp only [go_sem, Nat.reduceAdd, Nat.reduceSub, Nat.reduceMul, Nat.reduceDiv, Nat.reduceMod, Nat.reduceLeDiff, Nat.reduceLT, Nat.reduceBEq, Int.reduceToNat, Int.reduceLT, Int.reduceLE, Int.reduceEq, e3, hm, h3, okQWhen, fnz]
      · simp only [go_sem, Nat.reduceAdd, Nat.reduceSub, Nat.reduceMul, Nat.reduceDiv, Nat.reduceMod, Nat.reduceLeDiff, Nat.reduceLT, Nat.reduceBEq, Int.reduceToNat, Int.reduceLT, Int.reduceLE, Int.reduceEq, e3, fnz, show ¬ (3 : Int) = 0 by omega]
theorem okSameBox (n : Nat) (b c : Bool) (l : Bx) (hl : l.length < 1000000000) : callP (level E (n+1)) 59 [enB b l, enB c l] = some (.bool true) := by
  rw [p59]
  simp only [go_sem, Nat.reduceAdd, Nat.reduceSub, Nat.reduceMul, Nat.reduceDiv, Nat.reduceMod, Nat.reduceLeDiff, Nat.reduceLT, Nat.reduceBEq, Int.reduceToNat, Int.reduceLT, Int.reduceLE, Int.reduceEq, ne_eq, not_true_eq_false]
  have h := loop_fold (f := aCode (level E (n)) ⟨0, false⟩ b59_0) (h := head ⟨0, false⟩ [1, 1, 0, 1, 0, 0, 0]) (Φ := outC ⟨0, false⟩ [0, 0, 1, 0, 0, 0, 0]) l (fun (a : Unit) i => ⟨[.imm (slD b 2 (l.map enR)), .imm (slD c 2 (l.map enR)), .junk, .imm (.int .i64 i), .junk, .junk, .junk], [], none⟩) (fun _ _ => True)
    (fun a x => ()) (fun a => some (.exit 0, ⟨[.junk, .junk, .junk, .junk, .junk, .junk, .junk], [], none⟩)) () trivial
    (fun a i x hI h2 h1 => by
      refine ⟨?_, trivial⟩
      rw [rnd_eq]
      simp only [go_sem, Nat.reduceAdd, Nat.reduceSub, Nat.reduceMul, Nat.reduceDiv, Nat.reduceMod, Nat.reduceLeDiff, Nat.reduceLT, Nat.reduceBEq, Int.reduceToNat, Int.reduceLT, Int.reduceLE, Int.reduceEq, lt_t h2, h1, aEq, eqL, eqE, intEq, beq_self_eq_true]
      rw [wrpS (by omega)])
    (fun a _ => by
      rw [rnd_eq]
      simp only [go_sem, Nat.reduceAdd, Nat.reduceSub, Nat.reduceMul, Nat.reduceDiv, Nat.reduceMod, Nat.reduceLeDiff, Nat.reduceLT, Nat.reduceBEq, Int.reduceToNat, Int.reduceLT, Int.reduceLE, Int.reduceEq, lt_f (Nat.le_refl _)])
  rw [cast_0] at h
  rw [h]
  simp only [go_sem, Nat.reduceAdd, Nat.reduceSub, Nat.reduceMul, Nat.reduceDiv, Nat.reduceMod, Nat.reduceLeDiff, Nat.reduceLT, Nat.reduceBEq, Int.reduceToNat, Int.reduceLT, Int.reduceLE, Int.reduceEq]
end Go.Vm.P4Z

/- Chapter 04, functions: the document's examples, all of them. -/
set_option maxRecDepth 100000
set_option maxHeartbeats 16000000
namespace Go.Vm.P4Z
open Go Go.Vm Go.Vm.P4
def bxD : D := .sl 2 [[.int .i64 2, .int .i64 3], [.int .i64 0, .int .i64 2]]
def imD : D := .agg [.int .i64 1, bxD, .sl 1 [[.int .i64 1], [.int .i64 3]], .sl 1 [[.int .u64 10], [.int .u64 20], [.int .u64 30], [.int .u64 40], [.int .u64 50], [.int .u64 60]]]
theorem aw_box (n : Nat) : callP (level E (n+1)) 53 [] = some bxD := by
  rw [p53]
  simp only [go_sem, Nat.reduceAdd, Nat.reduceSub, Nat.reduceMul, Nat.reduceDiv, Nat.reduceMod, Nat.reduceLeDiff, Nat.reduceLT, Nat.reduceBEq, Int.reduceToNat, Int.reduceLT, Int.reduceLE, Int.reduceEq, bxD]
theorem aw_given (n : Nat) : callP (level E (n+2)) 57 [] = some imD := by
  rw [p57]
  have h := aw_box n
  simp only [bxD] at h
  simp only [go_sem, Nat.reduceAdd, Nat.reduceSub, Nat.reduceMul, Nat.reduceDiv, Nat.reduceMod, Nat.reduceLeDiff, Nat.reduceLT, Nat.reduceBEq, Int.reduceToNat, Int.reduceLT, Int.reduceLE, Int.reduceEq, imD, bxD, h]
theorem e_m0 : enIm m0 = imD := rfl
theorem e_b0 : enB false bx0 = bxD := rfl
def pt (a b : Int) : List D := [.sl 1 [[.int .i64 a], [.int .i64 b]]]
theorem okAwake (n : Nat) : callP (level E (n+60)) 8 [] = some (.bool true) := by
  rw [p8]
  have q1 := aw_box (n+58)
  have q2 := aw_given (n+57)
  have q3 := okPointsS (n+54) false bx0 ckb0 6 (by decide)
  rw [e_b0, show ptsD bx0 6 = .sl 1 [pt 2 0, pt 3 0, pt 4 0, pt 2 1, pt 3 1, pt 4 1] from rfl] at q3
  have q4 := okIndex (n+53) false false bx0 [3, 1] (by decide)
  rw [e_b0, show ckPoint bx0 [3, 1] = 0 from by decide, if_pos rfl, show hasB bx0 [3, 1] = true from by decide, if_pos rfl, show elt bx0 (([3, 1] ++ [0, 0, 0] : List Int).take 3) (strides 1 bx0) 0 = 4 from by decide] at q4
  have q5 := okIntersect (n+53) false false bx0 ot0 (by decide) (by decide) (fun _ => rfl)
  rw [e_b0, show interD bx0 ot0 = .sl 2 [[.int .i64 3, .int .i64 2], [.int .i64 1, .int .i64 1]] from rfl, show ckBoth bx0 ot0 = 0 from by decide] at q5
  have q6 := okUnion (n+53) false false bx0 ot0 (by decide) (by decide) (fun _ => ⟨rfl, by decide, by decide⟩)
  rw [e_b0, show unionD bx0 ot0 = (.sl 2 [[.int .i64 2, .int .i64 3], [.int .i64 0, .int .i64 6]], 0) from rfl] at q6
  have q7 := aw_at (n+48)
  have q8 := aw_slice (n+49)
  have q9 := aw_trans (n+49)
  have q10 := aw_crop (n+49)
  rw [e_m0] at q7 q8 q9 q10
  rw [show enIm (mkIm 1 [⟨0, 2⟩] 2 fSl) = .agg [.int .i64 1, .sl 2 [[.int .i64 0, .int .i64 2]], .sl 1 [[.int .i64 1]], .sl 1 [[.int .u64 20], [.int .u64 50]]] from rfl] at q8
  rw [show enIm (mkIm 1 [⟨0, 2⟩, ⟨2, 3⟩] 6 fTr) = .agg [.int .i64 1, .sl 2 [[.int .i64 0, .int .i64 2], [.int .i64 2, .int .i64 3]], .sl 1 [[.int .i64 1], [.int .i64 2]], .sl 1 [[.int .u64 10], [.int .u64 40], [.int .u64 20], [.int .u64 50], [.int .u64 30], [.int .u64 60]]] from rfl] at q9
  rw [show enIm (mkIm 1 [⟨3, 2⟩, ⟨1, 1⟩] 2 fCr) = .agg [.int .i64 1, .sl 2 [[.int .i64 3, .int .i64 2], [.int .i64 1, .int .i64 1]], .sl 1 [[.int .i64 1], [.int .i64 2]], .sl 1 [[.int .u64 50], [.int .u64 60]]] from rfl] at q10
  have r0 := aw_edge (n+49) 0 (by decide)
  have r1 := aw_edge (n+49) 1 (by decide)
  have r2 := aw_edge (n+49) 2 (by decide)
  rw [e_m0] at r0 r1 r2
  have c1 := chk1 (n+50)
  have c2 := chk2 (n+50)
  have en := aw_encode (n+49)
  rw [show enIm mS = .agg [.int .i64 1, .sl 2 [[.int .i64 0, .int .i64 2]], .sl 1 [[.int .i64 1]], .sl 1 [[.int .u64 20], [.int .u64 50]]] from rfl] at en
  have s1 := okSameInts (n+58) false false [4, 1] (by decide)
  have s2 := okSameBox (n+58) false false [⟨3, 2⟩, ⟨1, 1⟩] (by decide)
  have s3 := okSameBox (n+58) false false [⟨2, 3⟩, ⟨0, 6⟩] (by decide)
  have s4 := okSameBits (n+58) false false [20, 50] (by decide)
  have s5 := okSameBits (n+58) false false [10, 40, 20, 50, 30, 60] (by decide)
  have s6 := okSameBits (n+58) false false [50, 60] (by decide)
  have s7 := okSameBytes (n+58) false false [1, 1, 0, 0, 0, 0, 2, 0, 20, 50] (by decide)
  simp only [go_sem, Nat.reduceAdd, Nat.reduceSub, Nat.reduceMul, Nat.reduceDiv, Nat.reduceMod, Nat.reduceLeDiff, Nat.reduceLT, Nat.reduceBEq, Int.reduceToNat, Int.reduceLT, Int.reduceLE, Int.reduceEq, imD, bxD, pt, enB, slD, ot0, enIm, m1, m2, mS, bx0] at q1 q2 q3 q4 q5 q6 q7 q8 q9 q10 r0 r1 r2 c1 c2 en s1 s2 s3 s4 s5 s6 s7
  have w0 : wrp .i64 (0 + 0) = 0 := by decide
  have n0 : (4 : Int) ≠ 0 := by decide
  simp only [go_sem, Nat.reduceAdd, Nat.reduceSub, Nat.reduceMul, Nat.reduceDiv, Nat.reduceMod, Nat.reduceLeDiff, Nat.reduceLT, Nat.reduceBEq, Int.reduceToNat, Int.reduceLT, Int.reduceLE, Int.reduceEq, q1, q2, q3, q4, q5, q6, q7, q8, q9, q10, w0, ne_eq, not_true_eq_false, ia_sl, s1, s2, s3, s4, s5, s6, aEq, eqL, eqE, intEq, beq_self_eq_true]
  simp only [go_sem, Nat.reduceAdd, Nat.reduceSub, Nat.reduceMul, Nat.reduceDiv, Nat.reduceMod, Nat.reduceLeDiff, Nat.reduceLT, Nat.reduceBEq, Int.reduceToNat, Int.reduceLT, Int.reduceLE, Int.reduceEq, rnd_eq, q1, q2, r0, r1, r2, ne_eq, not_true_eq_false, ia_sl, c1, c2, en, s7, List.reduceReplicate, Int.reduceMul]
  done
end Go.Vm.P4Z

/- Plain: bits of 64-bit numbers as remainders and quotients. -/
set_option maxRecDepth 100000
namespace Go.Vm.P4
open Go Go.Vm
theorem wrpU {n : Int} (h0 : 0 ≤ n) (h1 : n < 18446744073709551616) : wrp .u64 n = n := by
  have e1 : (2 ^ IntKind.u64.bits : Int) = 18446744073709551616 := by decide
  show IntKind.u64.wrap n = n
  simp only [IntKind.wrap, e1, show IntKind.u64.signed = false from rfl, Bool.false_and, Bool.false_eq_true, if_false]
  omega
theorem bv_low {v : Int} (h0 : 0 ≤ v) (h1 : v < 18446744073709551616) : (BitVec.ofInt 64 v).toNat = v.toNat := by
  obtain ⟨n, rfl⟩ : ∃ n : Nat, v = n := ⟨v.toNat, by omega⟩
  rw [BitVec.ofInt_natCast, BitVec.toNat_ofNat]
  omega
theorem mask_bit (w i : Nat) (hw : w ≤ 64) : (BitVec.ofNat 64 (2 ^ w - 1)).getLsbD i = decide (i < w) := by
  rw [BitVec.getLsbD_ofNat, Nat.testBit_two_pow_sub_one]
  by_cases h : i < w
  · simp [h, show i < 64 by omega]
  · simp [h]
theorem andNot_mask (a : BitVec 64) (w : Nat) (hw : w ≤ 64) : (a &&& ~~~(BitVec.ofNat 64 (2 ^ w - 1))).toNat = a.toNat >>> w <<< w := by
  apply Nat.eq_of_testBit_eq
  intro i
  rw [BitVec.testBit_toNat, BitVec.getLsbD_and, BitVec.getLsbD_not, mask_bit w i hw, Nat.testBit_shiftLeft, Nat.testBit_shiftRight, BitVec.testBit_toNat]
  by_cases h : i < w
  · have : ¬ w ≤ i := by omega
    simp [h, this]
  · have h2 : w ≤ i := by omega
    rw [show w + (i - w) = i by omega]
    by_cases h3 : i < 64
    · simp [h, h2, h3]
    · have : a.getLsbD i = false := BitVec.getLsbD_of_ge a i (by omega)
      simp [this]
theorem and_mask (a : BitVec 64) (w : Nat) (hw : w ≤ 64) : (a &&& BitVec.ofNat 64 (2 ^ w - 1)).toNat = a.toNat % 2 ^ w := by
  apply Nat.eq_of_testBit_eq
  intro i
  rw [BitVec.testBit_toNat, BitVec.getLsbD_and, mask_bit w i hw, Nat.testBit_mod_two_pow, BitVec.testBit_toNat, Bool.and_comm]
theorem fits_iff {v : Int} (h0 : 0 ≤ v) (h1 : v < 18446744073709551616) (w : Nat) (hw : w ≤ 64) (m : Int) (hm : BitVec.ofInt 64 m = BitVec.ofNat 64 (2 ^ w - 1)) :
    decide (wrp .u64 ((BitVec.ofInt 64 v &&& ~~~(BitVec.ofInt 64 m)).toNat : Nat) = 0) = decide (v < 2 ^ w) := by
  rw [hm]
  have h2 := (BitVec.ofInt 64 v &&& ~~~(BitVec.ofNat 64 (2 ^ w - 1))).isLt
  rw [wrpU (by omega) (by omega), andNot_mask _ w hw, bv_low h0 h1, Nat.shiftLeft_eq, Nat.shiftRight_eq_div_pow]
  have hp : 0 < 2 ^ w := Nat.two_pow_pos w
  have e : ((2 ^ w : Nat) : Int) = 2 ^ w := by simp
  rw [decide_eq_decide]
  constructor
  · intro h
    have h3 : v.toNat / 2 ^ w = 0 := by
      rcases Nat.eq_zero_or_pos (v.toNat / 2 ^ w) with h4 | h4
      · exact h4
      · have := Nat.mul_le_mul_right (2 ^ w) h4; omega
    have := (Nat.div_eq_zero_iff_lt hp).1 h3
    omega
  · intro h
    have : v.toNat < 2 ^ w := by omega
    rw [Nat.div_eq_of_lt this]; simp
theorem low32 {v : Int} (h0 : 0 ≤ v) (h1 : v < 18446744073709551616) : wrp .u64 ((BitVec.ofInt 64 v &&& BitVec.ofInt 64 4294967295).toNat : Nat) = v % 4294967296 := by
  have hm : BitVec.ofInt 64 4294967295 = BitVec.ofNat 64 (2 ^ 32 - 1) := by decide
  have h2 := (BitVec.ofInt 64 v &&& BitVec.ofInt 64 4294967295).isLt
  rw [wrpU (by omega) (by omega), hm, and_mask _ 32 (by decide), bv_low h0 h1]
  omega
def wdL : List Int := [1, 8, 16, 32, 64, 8, 16, 32, 64, 32, 64]
end Go.Vm.P4

/- Chapter 04, functions: values of every kind. -/
set_option maxRecDepth 100000
set_option maxHeartbeats 2000000
namespace Go.Vm.P4Z
open Go Go.Vm Go.Vm.P4
def vOk (k v : Int) : Bool :=
  if k = 9 then decide (v < 4294967296) && rfOk v else if k = 10 then rfOk (v % 4294967296) && rfOk (v / 4294967296)
  else decide (v < 2 ^ (wdL.getD k.toNat 0).toNat)
def ckVal (k v : Int) : Int := if ckKind k = 0 then (if vOk k v then 0 else 1) else 11
theorem okRf (n : Nat) (v : Int) : callP (level E (n+1)) 126 [.int .u64 v] = some (.bool (rfOk v)) := by
  have h1 : E.fn 126 = none := rfl
  have h2 : E.prim 126 = some rfPrim := rfl
  unfold callP
  simp only [level, h1, runPrim, h2, List.map_cons, List.map_nil, rfPrim, if_true]
  rfl
theorem okOnes (n : Nat) : callP (level E (n+1)) 127 [.int .i64 1] = some (.int .u64 1) ∧ callP (level E (n+1)) 127 [.int .i64 8] = some (.int .u64 255) ∧ callP (level E (n+1)) 127 [.int .i64 16] = some (.int .u64 65535) ∧
    callP (level E (n+1)) 127 [.int .i64 32] = some (.int .u64 4294967295) ∧ callP (level E (n+1)) 127 [.int .i64 64] = some (.int .u64 18446744073709551615) := by
  have a1 : aBin .shl (.imm (.int .u64 1)) (.imm (.int .i64 1)) = some (.imm (.int .u64 2)) := rfl
  have a8 : aBin .shl (.imm (.int .u64 1)) (.imm (.int .i64 8)) = some (.imm (.int .u64 256)) := rfl
  have a16 : aBin .shl (.imm (.int .u64 1)) (.imm (.int .i64 16)) = some (.imm (.int .u64 65536)) := rfl
  have a32 : aBin .shl (.imm (.int .u64 1)) (.imm (.int .i64 32)) = some (.imm (.int .u64 4294967296)) := rfl
  have w1 : wrp .u64 (2 - 1) = 1 := by decide
  have w8 : wrp .u64 (256 - 1) = 255 := by decide
  have w16 : wrp .u64 (65536 - 1) = 65535 := by decide
  have w32 : wrp .u64 (4294967296 - 1) = 4294967295 := by decide
  refine ⟨?_, ?_, ?_, ?_, ?_⟩ <;> rw [p127] <;> simp only [go_sem, Nat.reduceAdd, Nat.reduceSub, Nat.reduceMul, Nat.reduceDiv, Nat.reduceMod, Nat.reduceLeDiff, Nat.reduceLT, Nat.reduceBEq, Int.reduceToNat, Int.reduceLT, Int.reduceLE, Int.reduceEq, a1, a8, a16, a32, w1, w8, w16, w32]
theorem pw32 : (2 : Int) ^ min (32 : Int).toNat IntKind.u64.bits = 4294967296 := by decide
theorem sh32 (v : Int) : aBin .shr (.imm (.int .u64 v)) (.imm (.int .u64 32)) = some (.imm (.int .u64 (v.fdiv 4294967296))) := by
  rw [bin_shr (by decide), pw32]
theorem fdiv_pos {v m : Int} (h0 : 0 ≤ v) (hm : 0 < m) : v.fdiv m = v / m := by
  rw [Int.fdiv_eq_ediv_of_nonneg v (by omega)]
def andU (x y : Int) : Int := wrp .u64 ((BitVec.ofInt 64 x &&& BitVec.ofInt 64 y).toNat : Nat)
@[go_sem high] theorem bin_andU {x y : Int} : aBin .and (.imm (.int .u64 x)) (.imm (.int .u64 y)) = some (.imm (.int .u64 (andU x y))) := by rw [bin_and]; rfl
theorem okRight (n : Nat) (k v : Int) (hk : ckKind k = 0) (h0 : 0 ≤ v) (h1 : v < 18446744073709551616) : callP (level E (n+2)) 119 [.int .i64 k, .int .u64 v] = some (.bool (vOk k v)) := by
  have hk' : 0 ≤ k ∧ k < 11 := by unfold ckKind at hk; split at hk; assumption; omega
  obtain ⟨o1, o8, o16, o32, o64⟩ := okOnes n
  rw [p119]
  have hc : k = 0 ∨ k = 1 ∨ k = 2 ∨ k = 3 ∨ k = 4 ∨ k = 5 ∨ k = 6 ∨ k = 7 ∨ k = 8 ∨ k = 9 ∨ k = 10 := by omega
  have f1 := fits_iff h0 h1 1 (by decide) 1 (by decide)
  have f8 := fits_iff h0 h1 8 (by decide) 255 (by decide)
  have f16 := fits_iff h0 h1 16 (by decide) 65535 (by decide)
  have f32 := fits_iff h0 h1 32 (by decide) 4294967295 (by decide)
  have f64 := fits_iff h0 h1 64 (by decide) 18446744073709551615 (by decide)
  have b64 : IntKind.u64.bits = 64 := rfl
  rcases hc with rfl | rfl | rfl | rfl | rfl | rfl | rfl | rfl | rfl | rfl | rfl
  · simp only [go_sem, Nat.reduceAdd, Nat.reduceSub, Nat.reduceMul, Nat.reduceDiv, Nat.reduceMod, Nat.reduceLeDiff, Nat.reduceLT, Nat.reduceBEq, Int.reduceToNat, Int.reduceLT, Int.reduceLE, Int.reduceEq, o1, b64]; exact congrArg (fun b => some (D.bool b)) (f1.trans rfl)
  · simp only [go_sem, Nat.reduceAdd, Nat.reduceSub, Nat.reduceMul, Nat.reduceDiv, Nat.reduceMod, Nat.reduceLeDiff, Nat.reduceLT, Nat.reduceBEq, Int.reduceToNat, Int.reduceLT, Int.reduceLE, Int.reduceEq, o8, b64]; exact congrArg (fun b => some (D.bool b)) (f8.trans rfl)
  · simp only [go_sem, Nat.reduceAdd, Nat.reduceSub, Nat.reduceMul, Nat.reduceDiv, Nat.reduceMod, Nat.reduceLeDiff, Nat.reduceLT, Nat.reduceBEq, Int.reduceToNat, Int.reduceLT, Int.reduceLE, Int.reduceEq, o16, b64]; exact congrArg (fun b => some (D.bool b)) (f16.trans rfl)
  · simp only [go_sem, Nat.reduceAdd, Nat.reduceSub, Nat.reduceMul, Nat.reduceDiv, Nat.reduceMod, Nat.reduceLeDiff, Nat.reduceLT, Nat.reduceBEq, Int.reduceToNat, Int.reduceLT, Int.reduceLE, Int.reduceEq, o32, b64]; exact congrArg (fun b => some (D.bool b)) (f32.trans rfl)
  · simp only [go_sem, Nat.reduceAdd, Nat.reduceSub, Nat.reduceMul, Nat.reduceDiv, Nat.reduceMod, Nat.reduceLeDiff, Nat.reduceLT, Nat.reduceBEq, Int.reduceToNat, Int.reduceLT, Int.reduceLE, Int.reduceEq, o64, b64]; exact congrArg (fun b => some (D.bool b)) (f64.trans rfl)
  · simp only [go_sem, Nat.reduceAdd, Nat.reduceSub, Nat.reduceMul, Nat.reduceDiv, Nat.reduceMod, Nat.reduceLeDiff, Nat.reduceLT, Nat.reduceBEq, Int.reduceToNat, Int.reduceLT, Int.reduceLE, Int.reduceEq, o8, b64]; exact congrArg (fun b => some (D.bool b)) (f8.trans rfl)
  · simp only [go_sem, Nat.reduceAdd, Nat.reduceSub, Nat.reduceMul, Nat.reduceDiv, Nat.reduceMod, Nat.reduceLeDiff, Nat.reduceLT, Nat.reduceBEq, Int.reduceToNat, Int.reduceLT, Int.reduceLE, Int.reduceEq, o16, b64]; exact congrArg (fun b => some (D.bool b)) (f16.trans rfl)
  · simp only [go_sem, Nat.reduceAdd, Nat.reduceSub, Nat.reduceMul, Nat.reduceDiv, Nat.reduceMod, Nat.reduceLeDiff, Nat.reduceLT, Nat.reduceBEq, Int.reduceToNat, Int.reduceLT, Int.reduceLE, Int.reduceEq, o32, b64]; exact congrArg (fun b => some (D.bool b)) (f32.trans rfl)
  · simp only [go_sem, Nat.reduceAdd, Nat.reduceSub, Nat.reduceMul, Nat.reduceDiv, Nat.reduceMod, Nat.reduceLeDiff, Nat.reduceLT, Nat.reduceBEq, Int.reduceToNat, Int.reduceLT, Int.reduceLE, Int.reduceEq, o64, b64]; exact congrArg (fun b => some (D.bool b)) (f64.trans rfl)
  · have r := okRf n v
    have e : v.fdiv 4294967296 = v / 4294967296 := fdiv_pos h0 (by decide)
    have e2 : decide (v / 4294967296 = 0) = decide (v < 4294967296) := by rw [decide_eq_decide]; omega
    cases hr : decide (v < 4294967296)
    · rw [hr] at e2
      simp only [go_sem, Nat.reduceAdd, Nat.reduceSub, Nat.reduceMul, Nat.reduceDiv, Nat.reduceMod, Nat.reduceLeDiff, Nat.reduceLT, Nat.reduceBEq, Int.reduceToNat, Int.reduceLT, Int.reduceLE, Int.reduceEq, sh32, e, e2, vOk, hr]
    · rw [hr] at e2
      simp only [go_sem, Nat.reduceAdd, Nat.reduceSub, Nat.reduceMul, Nat.reduceDiv, Nat.reduceMod, Nat.reduceLeDiff, Nat.reduceLT, Nat.reduceBEq, Int.reduceToNat, Int.reduceLT, Int.reduceLE, Int.reduceEq, sh32, e, e2, r, vOk, hr]
  · have r1 := okRf n (v % 4294967296)
    have r2 := okRf n (v / 4294967296)
    have e : v.fdiv 4294967296 = v / 4294967296 := fdiv_pos h0 (by decide)
    have l : andU v 4294967295 = v % 4294967296 := low32 h0 h1
    cases hr : rfOk (v % 4294967296)
    · rw [hr] at r1
      simp only [go_sem, Nat.reduceAdd, Nat.reduceSub, Nat.reduceMul, Nat.reduceDiv, Nat.reduceMod, Nat.reduceLeDiff, Nat.reduceLT, Nat.reduceBEq, Int.reduceToNat, Int.reduceLT, Int.reduceLE, Int.reduceEq, o32, l, r1, vOk, hr]
    · rw [hr] at r1
      simp only [go_sem, Nat.reduceAdd, Nat.reduceSub, Nat.reduceMul, Nat.reduceDiv, Nat.reduceMod, Nat.reduceLeDiff, Nat.reduceLT, Nat.reduceBEq, Int.reduceToNat, Int.reduceLT, Int.reduceLE, Int.reduceEq, o32, l, r1, sh32, e, r2, vOk, hr]
theorem ckKind01 (k : Int) : ckKind k = 0 ∨ ckKind k = 11 := by unfold ckKind; split <;> omega
theorem okCheckValue (n : Nat) (k v : Int) (h0 : 0 ≤ v) (h1 : v < 18446744073709551616) : callP (level E (n+3)) 81 [.agg [.int .i64 k, .int .u64 v]] = some (.int .i64 (ckVal k v)) := by
  rw [p81]
  have i1 := okIsKind (n+1) k
  by_cases hk : ckKind k = 0
  · have hk' : 0 ≤ k ∧ k < 11 := by unfold ckKind at hk; split at hk; assumption; omega
    have h := okRight n k v hk h0 h1
    have e1 : decide (0 ≤ k) = true := decide_eq_true hk'.1
    have e2 : decide (k < 11) = true := decide_eq_true hk'.2
    cases hv : vOk k v
    · rw [hv] at h
      simp only [go_sem, Nat.reduceAdd, Nat.reduceSub, Nat.reduceMul, Nat.reduceDiv, Nat.reduceMod, Nat.reduceLeDiff, Nat.reduceLT, Nat.reduceBEq, Int.reduceToNat, Int.reduceLT, Int.reduceLE, Int.reduceEq, i1, e1, e2, h, okNwhen, ckVal, hk, hv, Bool.false_eq_true]
    · rw [hv] at h
      simp only [go_sem, Nat.reduceAdd, Nat.reduceSub, Nat.reduceMul, Nat.reduceDiv, Nat.reduceMod, Nat.reduceLeDiff, Nat.reduceLT, Nat.reduceBEq, Int.reduceToNat, Int.reduceLT, Int.reduceLE, Int.reduceEq, i1, e1, e2, h, okNwhen, ckVal, hk, hv, Bool.false_eq_true]
  · have hk' : ¬ (0 ≤ k ∧ k < 11) := by unfold ckKind at hk; split at hk; exact absurd rfl hk; assumption
    by_cases h2 : 0 ≤ k
    · have e1 : decide (0 ≤ k) = true := decide_eq_true h2
      have e2 : decide (k < 11) = false := decide_eq_false (by omega)
      simp only [go_sem, Nat.reduceAdd, Nat.reduceSub, Nat.reduceMul, Nat.reduceDiv, Nat.reduceMod, Nat.reduceLeDiff, Nat.reduceLT, Nat.reduceBEq, Int.reduceToNat, Int.reduceLT, Int.reduceLE, Int.reduceEq, i1, e1, e2, ckVal, hk]
    · have e1 : decide (0 ≤ k) = false := decide_eq_false h2
      simp only [go_sem, Nat.reduceAdd, Nat.reduceSub, Nat.reduceMul, Nat.reduceDiv, Nat.reduceMod, Nat.reduceLeDiff, Nat.reduceLT, Nat.reduceBEq, Int.reduceToNat, Int.reduceLT, Int.reduceLE, Int.reduceEq, i1, e1, ckVal, hk]
def ckB1 (k v : Int) : Int := if ckVal k v = 0 then 0 else 1
theorem okCheckG (n : Nat) (k v : Int) (h0 : 0 ≤ v) (h1 : v < 18446744073709551616) : callP (level E (n+4)) 72 [.int .i64 k, .int .u64 v] = some (.int .i64 (ckB1 k v)) := by
  rw [p72]
  have h := okCheckValue n k v h0 h1
  by_cases hv : ckVal k v = 0
  · simp only [go_sem, Nat.reduceAdd, Nat.reduceSub, Nat.reduceMul, Nat.reduceDiv, Nat.reduceMod, Nat.reduceLeDiff, Nat.reduceLT, Nat.reduceBEq, Int.reduceToNat, Int.reduceLT, Int.reduceLE, Int.reduceEq, h, hv, ne_eq, not_true_eq_false, okWhen, ckB1, Bool.false_eq_true]
  · simp only [go_sem, Nat.reduceAdd, Nat.reduceSub, Nat.reduceMul, Nat.reduceDiv, Nat.reduceMod, Nat.reduceLeDiff, Nat.reduceLT, Nat.reduceBEq, Int.reduceToNat, Int.reduceLT, Int.reduceLE, Int.reduceEq, h, hv, ne_eq, not_false_eq_true, okWhen, ckB1, Bool.false_eq_true]
end Go.Vm.P4Z

/- Chapter 04, functions: the reference's points. -/
set_option maxRecDepth 100000
set_option maxHeartbeats 2000000
namespace Go.Vm.P4Z
open Go Go.Vm Go.Vm.P4
def ptW : Bx → Int → List Int
  | [], _ => []
  | r :: b, n => ad r.lo (n.tmod r.ex) :: ptW b (wrp .i64 (n.tdiv r.ex))
theorem pt_fold : ∀ (l : Bx) (acc : List Int) (n : Int), (l.foldl (fun (a : List Int × Int) r => (a.1 ++ [ad r.lo (a.2.tmod r.ex)], wrp .i64 (a.2.tdiv r.ex))) (acc, n)).1 = acc ++ ptW l n
  | [], acc, n => by simp [ptW]
  | r :: l, acc, n => by simp only [List.foldl_cons, pt_fold l, ptW, List.append_assoc, List.cons_append, List.nil_append]
theorem okRPoint (n : Nat) (b : Bool) (l : Bx) (k : Int) (hl : l.length < 1000000) (hx : ∀ r ∈ l, r.ex ≠ 0) : callP (level E (n+1)) 75 [enB b l, .int .i64 k] = some (slD true 1 ((ptW l k).map ic)) := by
  rw [p75]
  simp only [go_sem, Nat.reduceAdd, Nat.reduceSub, Nat.reduceMul, Nat.reduceDiv, Nat.reduceMod, Nat.reduceLeDiff, Nat.reduceLT, Nat.reduceBEq, Int.reduceToNat, Int.reduceLT, Int.reduceLE, Int.reduceEq]
  have h := loop_fold (f := aCode (level E (n)) ⟨0, false⟩ b75_0) (h := head ⟨0, false⟩ [1, 1, 0, 1, 1, 0]) (Φ := outC ⟨0, false⟩ [0, 0, 0, 1, 0, 0]) l (fun (a : List Int × Int) i => ⟨[.imm (slD b 2 (l.map enR)), .imm (.int .i64 a.2), .junk, vK 0 1 (a.1.map ic), .imm (.int .i64 i), .junk], oK 1 (a.1.map ic), none⟩) (fun a i => a.1.length = i)
    (fun a r => (a.1 ++ [ad r.lo (a.2.tmod r.ex)], wrp .i64 (a.2.tdiv r.ex))) (fun a => some (.exit 0, ⟨[.junk, .junk, .junk, vK 0 1 (a.1.map ic), .junk, .junk], oK 1 (a.1.map ic), none⟩)) ([], k) rfl
    (fun a i r hI h2 h1 => ⟨by
      rw [rnd_eq]
      have e1 : (a.1.length + 1) * 9 ≤ 70368744177664 := by omega
      have e2 := hx r (List.mem_of_getElem? h1)
      rcases a with ⟨_ | ⟨y, t⟩, m⟩
      · simp only [go_sem, Nat.reduceAdd, Nat.reduceSub, Nat.reduceMul, Nat.reduceDiv, Nat.reduceMod, Nat.reduceLeDiff, Nat.reduceLT, Nat.reduceBEq, Int.reduceToNat, Int.reduceLT, Int.reduceLE, Int.reduceEq, lt_t h2, h1, ad, vK, oK, e2, ne_eq, not_false_eq_true]
        rw [wrpS (by omega)]
      · simp only [List.length_cons] at e1
        simp only [go_sem, Nat.reduceAdd, Nat.reduceSub, Nat.reduceMul, Nat.reduceDiv, Nat.reduceMod, Nat.reduceLeDiff, Nat.reduceLT, Nat.reduceBEq, Int.reduceToNat, Int.reduceLT, Int.reduceLE, Int.reduceEq, lt_t h2, h1, ad, vK, oK, e1, e2, ne_eq, not_false_eq_true]
        rw [wrpS (by omega)], by simp [hI]⟩)
    (fun a _ => by
      rw [rnd_eq]
      rcases a with ⟨_ | ⟨y, t⟩, m⟩ <;> simp only [go_sem, Nat.reduceAdd, Nat.reduceSub, Nat.reduceMul, Nat.reduceDiv, Nat.reduceMod, Nat.reduceLeDiff, Nat.reduceLT, Nat.reduceBEq, Int.reduceToNat, Int.reduceLT, Int.reduceLE, Int.reduceEq, lt_f (Nat.le_refl _), vK, oK])
  rw [cast_0] at h
  simp only [List.map_nil, vK, oK] at h
  rw [h]
  generalize hA : (l.foldl (fun (a : List Int × Int) r => (a.1 ++ [ad r.lo (a.2.tmod r.ex)], wrp .i64 (a.2.tdiv r.ex))) ([], k)).1 = A
  have e := pt_fold l [] k
  rw [hA, List.nil_append] at e
  rw [← e]
  rcases A with _ | ⟨y, t⟩ <;> simp only [go_sem, Nat.reduceAdd, Nat.reduceSub, Nat.reduceMul, Nat.reduceDiv, Nat.reduceMod, Nat.reduceLeDiff, Nat.reduceLT, Nat.reduceBEq, Int.reduceToNat, Int.reduceLT, Int.reduceLE, Int.reduceEq, vK, oK, slD]
theorem okRHas (n : Nat) (b c : Bool) (l : Bx) (p : List Int) (hl : l.length < 1000000000) (hp : l.length ≤ p.length) : callP (level E (n+1)) 47 [enB b l, slD c 1 (p.map ic)] = some (.bool (hasB l p)) := by
  rw [p47]
  simp only [go_sem, Nat.reduceAdd, Nat.reduceSub, Nat.reduceMul, Nat.reduceDiv, Nat.reduceMod, Nat.reduceLeDiff, Nat.reduceLT, Nat.reduceBEq, Int.reduceToNat, Int.reduceLT, Int.reduceLE, Int.reduceEq]
  have h := loop_run (f := aCode (level E (n)) ⟨0, false⟩ b47_0) (h := head ⟨0, false⟩ [1, 1, 0, 1, 0, 0]) (Φ := outC ⟨0, false⟩ [0, 0, 1, 0, 0, 0]) l (fun (_ : List Int) i => ⟨[.imm (slD b 2 (l.map enR)), .imm (slD c 1 (p.map ic)), .junk, .imm (.int .i64 i), .junk, .junk], [], none⟩) (fun a i => p.drop i = a)
    (fun a r => match a with | [] => .inl [] | x :: t => if x < r.lo ∨ x ≥ ad r.lo r.ex then .inr (some (.ret, ⟨[.junk, .junk, .imm (.bool false), .junk, .junk, .junk], [], none⟩)) else .inl t) (fun _ => some (.exit 0, ⟨[.junk, .junk, .junk, .junk, .junk, .junk], [], none⟩)) p rfl
    (fun a i r hI h2 h1 => by
      rcases a with _ | ⟨x, t⟩
      · have := drop_n hI; omega
      obtain ⟨q1, q2, q3⟩ := drop_c hI
      refine ⟨?_, fun t' ht => ?_⟩
      · rw [rnd_eq]
        by_cases k1 : x < r.lo
        · simp only [go_sem, Nat.reduceAdd, Nat.reduceSub, Nat.reduceMul, Nat.reduceDiv, Nat.reduceMod, Nat.reduceLeDiff, Nat.reduceLT, Nat.reduceBEq, Int.reduceToNat, Int.reduceLT, Int.reduceLE, Int.reduceEq, lt_t h2, h1, q1, k1, true_or]
        · by_cases k2 : x ≥ ad r.lo r.ex
          · have k3 : x ≥ wrp .i64 (r.lo + r.ex) := k2
            simp only [go_sem, Nat.reduceAdd, Nat.reduceSub, Nat.reduceMul, Nat.reduceDiv, Nat.reduceMod, Nat.reduceLeDiff, Nat.reduceLT, Nat.reduceBEq, Int.reduceToNat, Int.reduceLT, Int.reduceLE, Int.reduceEq, lt_t h2, h1, q1, k1, k2, k3, or_true]
          · have k3 : ¬ x ≥ wrp .i64 (r.lo + r.ex) := k2
            simp only [go_sem, Nat.reduceAdd, Nat.reduceSub, Nat.reduceMul, Nat.reduceDiv, Nat.reduceMod, Nat.reduceLeDiff, Nat.reduceLT, Nat.reduceBEq, Int.reduceToNat, Int.reduceLT, Int.reduceLE, Int.reduceEq, lt_t h2, h1, q1, k1, k2, k3, or_self]
            rw [wrpS (by omega)]
      · dsimp only at ht
        split at ht
        · cases ht
        · injection ht with ht; rw [← ht]; exact q3)
    (fun _ _ => by
      rw [rnd_eq]
      simp only [go_sem, Nat.reduceAdd, Nat.reduceSub, Nat.reduceMul, Nat.reduceDiv, Nat.reduceMod, Nat.reduceLeDiff, Nat.reduceLT, Nat.reduceBEq, Int.reduceToNat, Int.reduceLT, Int.reduceLE, Int.reduceEq, lt_f (Nat.le_refl _)])
  rw [cast_0] at h
  rw [h]
  clear h hl
  induction l generalizing p with
  | nil => simp only [go_sem, Nat.reduceAdd, Nat.reduceSub, Nat.reduceMul, Nat.reduceDiv, Nat.reduceMod, Nat.reduceLeDiff, Nat.reduceLT, Nat.reduceBEq, Int.reduceToNat, Int.reduceLT, Int.reduceLE, Int.reduceEq, runL_nil, hasB]
  | cons r l ih =>
    rcases p with _ | ⟨x, t⟩
    · simp at hp
    by_cases k : x < r.lo ∨ x ≥ ad r.lo r.ex
    · simp only [go_sem, Nat.reduceAdd, Nat.reduceSub, Nat.reduceMul, Nat.reduceDiv, Nat.reduceMod, Nat.reduceLeDiff, Nat.reduceLT, Nat.reduceBEq, Int.reduceToNat, Int.reduceLT, Int.reduceLE, Int.reduceEq, runL_cons, hasB, k]
    · simp only [runL_cons, hasB, k, if_false]
      exact ih t (by simpa using hp)
theorem okRCheckPoint (n : Nat) (b c : Bool) (l : Bx) (p : List Int) : callP (level E (n+2)) 46 [enB b l, slD c 1 (p.map ic)] = some (.int .i64 (if p.length = l.length then 0 else 13)) := by
  rw [p46]
  by_cases h : p.length = l.length
  · simp only [go_sem, Nat.reduceAdd, Nat.reduceSub, Nat.reduceMul, Nat.reduceDiv, Nat.reduceMod, Nat.reduceLeDiff, Nat.reduceLT, Nat.reduceBEq, Int.reduceToNat, Int.reduceLT, Int.reduceLE, Int.reduceEq, h, okQWhen, ne_eq, not_true_eq_false]
  · have h' : ¬ (p.length : Int) = l.length := by omega
    simp only [go_sem, Nat.reduceAdd, Nat.reduceSub, Nat.reduceMul, Nat.reduceDiv, Nat.reduceMod, Nat.reduceLeDiff, Nat.reduceLT, Nat.reduceBEq, Int.reduceToNat, Int.reduceLT, Int.reduceLE, Int.reduceEq, h, h', okQWhen, ne_eq, not_false_eq_true]
theorem okLPoint (n : Nat) (b : Bool) (l : List Int) (hl : l.length < 1000000) : callP (level E (n+1)) 20 [slD b 1 (l.map ic)] = some (slD false 1 (l.map ic)) := by
  rw [p20]
  rcases l with _ | ⟨x, t⟩
  · cases b <;> simp only [go_sem, Nat.reduceAdd, Nat.reduceSub, Nat.reduceMul, Nat.reduceDiv, Nat.reduceMod, Nat.reduceLeDiff, Nat.reduceLT, Nat.reduceBEq, Int.reduceToNat, Int.reduceLT, Int.reduceLE, Int.reduceEq, slD] <;> rfl
  · have e : (t.length + 1) * 9 ≤ 70368744177664 := by simp at hl; omega
    have e0 : slD b 1 ((x :: t).map ic) = .sl 1 ((x :: t).map ic) := by cases b <;> rfl
    rw [e0]
    simp only [go_sem, Nat.reduceAdd, Nat.reduceSub, Nat.reduceMul, Nat.reduceDiv, Nat.reduceMod, Nat.reduceLeDiff, Nat.reduceLT, Nat.reduceBEq, Int.reduceToNat, Int.reduceLT, Int.reduceLE, Int.reduceEq, e] <;> rfl
end Go.Vm.P4Z

/- Chapter 04, functions: the reference's values. -/
set_option maxRecDepth 100000
set_option maxHeartbeats 2000000
namespace Go.Vm.P4Z
open Go Go.Vm Go.Vm.P4
theorem okQCheckKind (n : Nat) (k : Int) : callP (level E (n+2)) 42 [.int .i64 k] = some (.int .i64 (ckKind k)) := by
  rw [p42]
  by_cases h : k < 0
  · have e : ¬ (0 ≤ k ∧ k < 11) := by omega
    simp only [go_sem, Nat.reduceAdd, Nat.reduceSub, Nat.reduceMul, Nat.reduceDiv, Nat.reduceMod, Nat.reduceLeDiff, Nat.reduceLT, Nat.reduceBEq, Int.reduceToNat, Int.reduceLT, Int.reduceLE, Int.reduceEq, h, okQWhen, ckKind, e]
  · by_cases h2 : k ≥ 11
    · have e : ¬ (0 ≤ k ∧ k < 11) := by omega
      simp only [go_sem, Nat.reduceAdd, Nat.reduceSub, Nat.reduceMul, Nat.reduceDiv, Nat.reduceMod, Nat.reduceLeDiff, Nat.reduceLT, Nat.reduceBEq, Int.reduceToNat, Int.reduceLT, Int.reduceLE, Int.reduceEq, h, h2, okQWhen, ckKind, e]
    · have e : 0 ≤ k ∧ k < 11 := by omega
      simp only [go_sem, Nat.reduceAdd, Nat.reduceSub, Nat.reduceMul, Nat.reduceDiv, Nat.reduceMod, Nat.reduceLeDiff, Nat.reduceLT, Nat.reduceBEq, Int.reduceToNat, Int.reduceLT, Int.reduceLE, Int.reduceEq, h, h2, okQWhen, ckKind, e, and_self, Bool.false_eq_true]
theorem okQWidth (n : Nat) (k : Int) (hk : ckKind k = 0) : callP (level E (n+1)) 104 [.int .i64 k] = some (.int .i64 (wdL.getD k.toNat 0)) := by
  have hk' : 0 ≤ k ∧ k < 11 := by unfold ckKind at hk; split at hk; assumption; omega
  rw [p104]
  have hc : k = 0 ∨ k = 1 ∨ k = 2 ∨ k = 3 ∨ k = 4 ∨ k = 5 ∨ k = 6 ∨ k = 7 ∨ k = 8 ∨ k = 9 ∨ k = 10 := by omega
  rcases hc with rfl | rfl | rfl | rfl | rfl | rfl | rfl | rfl | rfl | rfl | rfl <;> simp only [go_sem, Nat.reduceAdd, Nat.reduceSub, Nat.reduceMul, Nat.reduceDiv, Nat.reduceMod, Nat.reduceLeDiff, Nat.reduceLT, Nat.reduceBEq, Int.reduceToNat, Int.reduceLT, Int.reduceLE, Int.reduceEq] <;> rfl
def mskF (w : Nat) : Int := (List.range w).foldl (fun a _ => wrp .u64 (wrp .u64 (2 * a) + 1)) 0
theorem okQMask (n : Nat) (w : Nat) (hw : w < 1000000) : callP (level E (n+1)) 103 [.int .i64 w] = some (.int .u64 (mskF w)) := by
  rw [p103]
  simp only [go_sem, Nat.reduceAdd, Nat.reduceSub, Nat.reduceMul, Nat.reduceDiv, Nat.reduceMod, Nat.reduceLeDiff, Nat.reduceLT, Nat.reduceBEq, Int.reduceToNat, Int.reduceLT, Int.reduceLE, Int.reduceEq]
  have h := loop_fold (f := aCode (level E (n)) ⟨0, false⟩ b103_0) (h := head ⟨0, false⟩ [1, 0, 1, 1, 0]) (Φ := outC ⟨0, false⟩ [0, 0, 1, 0, 0]) (List.range w) (fun (a : Int) i => ⟨[.imm (.int .i64 w), .junk, .imm (.int .u64 a), .imm (.int .i64 i), .junk], [], none⟩) (fun _ _ => True)
    (fun a x => wrp .u64 (wrp .u64 (2 * a) + 1)) (fun a => some (.exit 0, ⟨[.junk, .junk, .imm (.int .u64 a), .junk, .junk], [], none⟩)) 0 trivial
    (fun a i x _ h2 h1 => ⟨by
      rw [List.length_range] at h2
      rw [rnd_eq]
      simp only [go_sem, Nat.reduceAdd, Nat.reduceSub, Nat.reduceMul, Nat.reduceDiv, Nat.reduceMod, Nat.reduceLeDiff, Nat.reduceLT, Nat.reduceBEq, Int.reduceToNat, Int.reduceLT, Int.reduceLE, Int.reduceEq, lt_t h2]
      rw [wrpS (by omega)], trivial⟩)
    (fun _ _ => by
      rw [rnd_eq]
      rw [List.length_range]
      simp only [go_sem, Nat.reduceAdd, Nat.reduceSub, Nat.reduceMul, Nat.reduceDiv, Nat.reduceMod, Nat.reduceLeDiff, Nat.reduceLT, Nat.reduceBEq, Int.reduceToNat, Int.reduceLT, Int.reduceLE, Int.reduceEq, lt_f (Nat.le_refl _)])
  rw [cast_0] at h
  rw [h]
  simp only [go_sem, Nat.reduceAdd, Nat.reduceSub, Nat.reduceMul, Nat.reduceDiv, Nat.reduceMod, Nat.reduceLeDiff, Nat.reduceLT, Nat.reduceBEq, Int.reduceToNat, Int.reduceLT, Int.reduceLE, Int.reduceEq, mskF]
theorem msk : mskF 1 = 1 ∧ mskF 8 = 255 ∧ mskF 16 = 65535 ∧ mskF 32 = 4294967295 ∧ mskF 64 = 18446744073709551615 := by decide +kernel
theorem okQPart (n : Nat) (v : Int) (h0 : 0 ≤ v) (h1 : v < 18446744073709551616) : callP (level E (n+1)) 105 [.int .u64 v] = some (.bool (decide (v / 8388608 % 256 ≠ 255) && decide (v ≠ 2147483648))) := by
  rw [p105]
  have d1 : 0 ≤ v / 8388608 := Int.ediv_nonneg h0 (by decide)
  have d2 : v / 8388608 ≤ v := Int.ediv_le_self _ h0
  have e1 : v.tdiv 8388608 = v / 8388608 := Int.tdiv_eq_ediv_of_nonneg h0
  have e2 : wrp .u64 (v / 8388608) = v / 8388608 := wrpU d1 (by omega)
  have e3 : (v / 8388608).tmod 256 = v / 8388608 % 256 := Int.tmod_eq_emod_of_nonneg d1
  have n1 : (8388608 : Int) ≠ 0 := by decide
  have n2 : (256 : Int) ≠ 0 := by decide
  by_cases h : v / 8388608 % 256 = 255
  · simp only [go_sem, Nat.reduceAdd, Nat.reduceSub, Nat.reduceMul, Nat.reduceDiv, Nat.reduceMod, Nat.reduceLeDiff, Nat.reduceLT, Nat.reduceBEq, Int.reduceToNat, Int.reduceLT, Int.reduceLE, Int.reduceEq, n1, n2, e1, e2, e3, h, ne_eq, not_true_eq_false, not_false_eq_true, Bool.false_and]
  · by_cases h' : v = 2147483648
    · subst h'
      simp only [go_sem, Nat.reduceAdd, Nat.reduceSub, Nat.reduceMul, Nat.reduceDiv, Nat.reduceMod, Nat.reduceLeDiff, Nat.reduceLT, Nat.reduceBEq, Int.reduceToNat, Int.reduceLT, Int.reduceLE, Int.reduceEq, n1, n2, e1, e2, e3, h, ne_eq, not_true_eq_false, not_false_eq_true, Bool.and_false]
    · simp only [go_sem, Nat.reduceAdd, Nat.reduceSub, Nat.reduceMul, Nat.reduceDiv, Nat.reduceMod, Nat.reduceLeDiff, Nat.reduceLT, Nat.reduceBEq, Int.reduceToNat, Int.reduceLT, Int.reduceLE, Int.reduceEq, n1, n2, e1, e2, e3, h, h', ne_eq, not_true_eq_false, not_false_eq_true, Bool.and_true]
theorem part_rf {v : Int} (h0 : 0 ≤ v) (h1 : v < 4294967296) : (decide (v / 8388608 % 256 ≠ 255) && decide (v ≠ 2147483648)) = rfOk v := by
  unfold rfOk
  rw [Int.emod_eq_of_lt h0 h1]
theorem okQCheckValue (n : Nat) (k v : Int) (h0 : 0 ≤ v) (h1 : v < 18446744073709551616) : callP (level E (n+3)) 44 [.agg [.int .i64 k, .int .u64 v]] = some (.int .i64 (ckVal k v)) := by
  rw [p44]
  have i1 := okQCheckKind n k
  by_cases hk : ckKind k = 0
  · have hk' : 0 ≤ k ∧ k < 11 := by unfold ckKind at hk; split at hk; assumption; omega
    have w1 := okQWidth (n+1) k hk
    obtain ⟨m1, m8, m16, m32, m64⟩ := msk
    have q1 := okQMask (n+1) 1 (by decide)
    have q8 := okQMask (n+1) 8 (by decide)
    have q16 := okQMask (n+1) 16 (by decide)
    have q32 := okQMask (n+1) 32 (by decide)
    have q64 := okQMask (n+1) 64 (by decide)
    rw [m1] at q1; rw [m8] at q8; rw [m16] at q16; rw [m32] at q32; rw [m64] at q64
    have c8 : ((8 : Nat) : Int) = 8 := rfl
    have c1 : ((1 : Nat) : Int) = 1 := rfl
    have c16 : ((16 : Nat) : Int) = 16 := rfl
    have c32 : ((32 : Nat) : Int) = 32 := rfl
    have c64 : ((64 : Nat) : Int) = 64 := rfl
    rw [c1] at q1; rw [c8] at q8; rw [c16] at q16; rw [c32] at q32; rw [c64] at q64
    have n1 : (4294967296 : Int) ≠ 0 := by decide
    have hc : k = 0 ∨ k = 1 ∨ k = 2 ∨ k = 3 ∨ k = 4 ∨ k = 5 ∨ k = 6 ∨ k = 7 ∨ k = 8 ∨ k = 9 ∨ k = 10 := by omega
    rw [hk] at i1
    have key : ∀ w m : Int, callP (level E (n+2)) 104 [.int .i64 k] = some (.int .i64 w) → callP (level E (n+2)) 103 [.int .i64 w] = some (.int .u64 m) → k ≠ 9 → k ≠ 10 → vOk k v = decide (v < m + 1) →
        pdC (fin [RV.v 1] (aCode (level E (n+2)) ⟨0, false⟩ c44 ⟨[.imm (.agg [.int .i64 k, .int .u64 v]), .junk, .junk, .junk, .junk, .junk, .junk, .junk], [], none⟩)) = some (.int .i64 (ckVal k v)) := by
      intro w m a1 a2 k9 k10 hv
      by_cases h : v ≤ m
      · have h' : v < m + 1 := by omega
        simp only [go_sem, Nat.reduceAdd, Nat.reduceSub, Nat.reduceMul, Nat.reduceDiv, Nat.reduceMod, Nat.reduceLeDiff, Nat.reduceLT, Nat.reduceBEq, Int.reduceToNat, Int.reduceLT, Int.reduceLE, Int.reduceEq, i1, a1, a2, h, h', k9, k10, hk, hv, okQWhen, ckVal, ne_eq, not_true_eq_false, Bool.false_eq_true]
      · have h' : ¬ v < m + 1 := by omega
        simp only [go_sem, Nat.reduceAdd, Nat.reduceSub, Nat.reduceMul, Nat.reduceDiv, Nat.reduceMod, Nat.reduceLeDiff, Nat.reduceLT, Nat.reduceBEq, Int.reduceToNat, Int.reduceLT, Int.reduceLE, Int.reduceEq, i1, a1, a2, h, h', k9, k10, hk, hv, okQWhen, ckVal, ne_eq, not_true_eq_false, Bool.false_eq_true]
    rcases hc with rfl | rfl | rfl | rfl | rfl | rfl | rfl | rfl | rfl | rfl | rfl
    · exact key 1 1 w1 q1 (by decide) (by decide) rfl
    · exact key 8 255 w1 q8 (by decide) (by decide) rfl
    · exact key 16 65535 w1 q16 (by decide) (by decide) rfl
    · exact key 32 4294967295 w1 q32 (by decide) (by decide) rfl
    · exact key 64 18446744073709551615 w1 q64 (by decide) (by decide) rfl
    · exact key 8 255 w1 q8 (by decide) (by decide) rfl
    · exact key 16 65535 w1 q16 (by decide) (by decide) rfl
    · exact key 32 4294967295 w1 q32 (by decide) (by decide) rfl
    · exact key 64 18446744073709551615 w1 q64 (by decide) (by decide) rfl
    · rw [show wdL.getD (9 : Int).toNat 0 = 32 from rfl] at w1
      have hv : vOk 9 v = (decide (v < 4294967296) && rfOk v) := rfl
      have pq := okQPart (n+1) v h0 h1
      by_cases h : v ≤ 4294967295
      · have h' : v < 4294967296 := by omega
        rw [part_rf h0 h'] at pq
        cases hr : rfOk v
        · rw [hr] at pq
          simp only [go_sem, Nat.reduceAdd, Nat.reduceSub, Nat.reduceMul, Nat.reduceDiv, Nat.reduceMod, Nat.reduceLeDiff, Nat.reduceLT, Nat.reduceBEq, Int.reduceToNat, Int.reduceLT, Int.reduceLE, Int.reduceEq, i1, w1, q32, pq, h, h', hk, hv, hr, okQWhen, ckVal, ne_eq, not_true_eq_false, Bool.false_eq_true]
        · rw [hr] at pq
          simp only [go_sem, Nat.reduceAdd, Nat.reduceSub, Nat.reduceMul, Nat.reduceDiv, Nat.reduceMod, Nat.reduceLeDiff, Nat.reduceLT, Nat.reduceBEq, Int.reduceToNat, Int.reduceLT, Int.reduceLE, Int.reduceEq, i1, w1, q32, pq, h, h', hk, hv, hr, okQWhen, ckVal, ne_eq, not_true_eq_false, Bool.false_eq_true]
      · have h' : ¬ v < 4294967296 := by omega
        simp only [go_sem, Nat.reduceAdd, Nat.reduceSub, Nat.reduceMul, Nat.reduceDiv, Nat.reduceMod, Nat.reduceLeDiff, Nat.reduceLT, Nat.reduceBEq, Int.reduceToNat, Int.reduceLT, Int.reduceLE, Int.reduceEq, i1, w1, q32, h, h', hk, hv, okQWhen, ckVal, ne_eq, not_true_eq_false, Bool.false_eq_true]
    · rw [show wdL.getD (10 : Int).toNat 0 = 64 from rfl] at w1
      have hv : vOk 10 v = (rfOk (v % 4294967296) && rfOk (v / 4294967296)) := rfl
      have d1 : 0 ≤ v / 4294967296 := Int.ediv_nonneg h0 (by decide)
      have d2 : v / 4294967296 < 4294967296 := by omega
      have e1 : v.tdiv 4294967296 = v / 4294967296 := Int.tdiv_eq_ediv_of_nonneg h0
      have e2 : wrp .u64 (v / 4294967296) = v / 4294967296 := wrpU d1 (by omega)
      have e3 : v.tmod 4294967296 = v % 4294967296 := Int.tmod_eq_emod_of_nonneg h0
      have pq := okQPart (n+1) (v % 4294967296) (by omega) (by omega)
      have pr := okQPart (n+1) (v / 4294967296) d1 (by omega)
      rw [part_rf (by omega) (by omega)] at pq pr
      have h : v ≤ 18446744073709551615 := by omega
      cases hr : rfOk (v % 4294967296)
      · rw [hr] at pq
        simp only [go_sem, Nat.reduceAdd, Nat.reduceSub, Nat.reduceMul, Nat.reduceDiv, Nat.reduceMod, Nat.reduceLeDiff, Nat.reduceLT, Nat.reduceBEq, Int.reduceToNat, Int.reduceLT, Int.reduceLE, Int.reduceEq, n1, e3, i1, w1, q64, pq, h, hk, hv, hr, okQWhen, ckVal, ne_eq, not_true_eq_false, not_false_eq_true, Bool.false_eq_true]
      · rw [hr] at pq
        cases hr2 : rfOk (v / 4294967296)
        · rw [hr2] at pr
          simp only [go_sem, Nat.reduceAdd, Nat.reduceSub, Nat.reduceMul, Nat.reduceDiv, Nat.reduceMod, Nat.reduceLeDiff, Nat.reduceLT, Nat.reduceBEq, Int.reduceToNat, Int.reduceLT, Int.reduceLE, Int.reduceEq, n1, e1, e2, e3, i1, w1, q64, pq, pr, h, hk, hv, hr, hr2, okQWhen, ckVal, ne_eq, not_true_eq_false, not_false_eq_true, Bool.false_eq_true]
        · rw [hr2] at pr
          simp only [go_sem, Nat.reduceAdd, Nat.reduceSub, Nat.reduceMul, Nat.reduceDiv, Nat.reduceMod, Nat.reduceLeDiff, Nat.reduceLT, Nat.reduceBEq, Int.reduceToNat, Int.reduceLT, Int.reduceLE, Int.reduceEq, n1, e1, e2, e3, i1, w1, q64, pq, pr, h, hk, hv, hr, hr2, okQWhen, ckVal, ne_eq, not_true_eq_false, not_false_eq_true, Bool.false_eq_true]
  · simp only [go_sem, Nat.reduceAdd, Nat.reduceSub, Nat.reduceMul, Nat.reduceDiv, Nat.reduceMod, Nat.reduceLeDiff, Nat.reduceLT, Nat.reduceBEq, Int.reduceToNat, Int.reduceLT, Int.reduceLE, Int.reduceEq, i1, hk, ckVal, ne_eq, not_false_eq_true]
    rcases ckKind01 k with h | h
    · exact absurd h hk
    · rw [h]
end Go.Vm.P4Z

/- Chapter 04, plain law: points and indices. -/
set_option maxRecDepth 100000
set_option maxHeartbeats 1000000
namespace Go.Vm.P4Z
open Go Go.Vm Go.Vm.P4
def Okr (l : Bx) : Prop := ∀ r ∈ l, ckRange r = 0
theorem Okr.tl {r : Rg} {l : Bx} (h : Okr (r :: l)) : Okr l := fun x hx => h x (List.mem_cons_of_mem _ hx)
theorem ad_lo {r : Rg} {x : Int} (h : ckRange r = 0) (h0 : 0 ≤ x) (h1 : x ≤ 64) : ad r.lo x = r.lo + x := by
  have := ckRange0 h
  exact wrp_ok (by omega)
theorem ptW_dig : ∀ (l : Bx) (n : Int), Okr l → (∀ r ∈ l, 0 < r.ex) → 0 ≤ n → n < 4611686018427387904 → ptW l n = digits l n
  | [], n, _, _, _, _ => rfl
  | r :: l, n, h, hx, hn, hb => by
    have hr := ckRange0 (h r (by simp))
    have hr0 := hx r (by simp)
    have m0 := Int.emod_nonneg n (show r.ex ≠ 0 by omega)
    have m1 := Int.emod_lt_of_pos n hr0
    have e1 : n.tmod r.ex = n % r.ex := Int.tmod_eq_emod_of_nonneg hn
    have e2 : n.tdiv r.ex = n / r.ex := Int.tdiv_eq_ediv_of_nonneg hn
    have d0 : 0 ≤ n / r.ex := Int.ediv_nonneg hn (by omega)
    have d1 : n / r.ex ≤ n := Int.ediv_le_self _ hn
    rw [ptW, digits, e1, e2, ad_lo (h r (by simp)) m0 (by omega), wrp_ok (by omega), ptW_dig l _ h.tl (fun x hx' => hx x (List.mem_cons_of_mem _ hx')) d0 (by omega)]
def InB : Bx → List Int → Prop
  | r :: l, x :: p => r.lo ≤ x ∧ x < r.lo + r.ex ∧ InB l p
  | [], [] => True
  | _, _ => False
theorem digits_in : ∀ (l : Bx) (n : Int), (∀ r ∈ l, 0 < r.ex) → InB l (digits l n)
  | [], _, _ => True.intro
  | r :: l, n, hx => by
    have hr0 := hx r (by simp)
    have m0 := Int.emod_nonneg n (show r.ex ≠ 0 by omega)
    have m1 := Int.emod_lt_of_pos n hr0
    exact ⟨by omega, by omega, digits_in l _ (fun x hx' => hx x (List.mem_cons_of_mem _ hx'))⟩
theorem nextW_P : ∀ (l : Bx) (p q : List Int), Okr l → InB l p → nextW l (p ++ q) = nextP l p ++ q
  | [], [], q, _, _ => by cases q <;> rfl
  | [], _ :: _, _, _, h => h.elim
  | _ :: _, [], _, _, h => h.elim
  | r :: l, x :: p, q, h, hi => by
    have hr := ckRange0 (h r (by simp))
    obtain ⟨h1, h2, h3⟩ := hi
    have e1 : ad x 1 = x + 1 := wrp_ok (by omega)
    have e2 : ad r.lo r.ex = r.lo + r.ex := wrp_ok (by omega)
    rw [List.cons_append, nextW, nextP, e1, e2]
    by_cases hc : x + 1 < r.lo + r.ex
    · rw [if_pos hc, if_pos hc]; rfl
    · rw [if_neg hc, if_neg hc, nextW_P l p q h.tl h3]; rfl
theorem plc_dig (l : Bx) (h : Okr l) (h3 : l.length ≤ 3) (hx : ∀ r ∈ l, 0 < r.ex) : ∀ i : Nat, plc l i = digits l i ++ List.replicate (3 - l.length) 0
  | 0 => by
    rw [plc, plc0, show ((0 : Nat) : Int) = 0 from rfl, digits_zero, lows]
    rcases l with _ | ⟨r, _ | ⟨s, _ | ⟨t, _ | ⟨u, l⟩⟩⟩⟩
    · rfl
    · rfl
    · rfl
    · rfl
    · simp at h3
  | i + 1 => by
    rw [plc, plc_dig l h h3 hx i, nextW_P l _ _ h (digits_in l _ hx), next_digits l _ hx (by omega)]
    rfl
theorem many_cons1 (r : Rg) : many [r] = ml 1 r.ex := rfl
theorem many_cons2 (r s : Rg) : many [r, s] = ml (ml 1 r.ex) s.ex := rfl
theorem many_cons3 (r s t : Rg) : many [r, s, t] = ml (ml (ml 1 r.ex) s.ex) t.ex := rfl
theorem ex_pos {l : Bx} (h : Okr l) (hm : many l ≠ 0) : ∀ r ∈ l, 0 < r.ex := by
  intro r hr
  have h1 := (ckRange0 (h r hr)).2.2.1
  rcases Int.lt_or_eq_of_le h1 with h2 | h2
  · exact h2
  · exfalso
    apply hm
    have key : ∀ (l : Bx) (n : Int), r ∈ l → l.foldl (fun n r => ml n r.ex) n = 0 := by
      intro l
      have zero : ∀ l : Bx, l.foldl (fun n r => ml n r.ex) 0 = 0 := by
        intro l
        induction l with
        | nil => rfl
        | cons x l ih => rw [List.foldl_cons, show ml 0 x.ex = 0 from by rw [ml, Int.zero_mul]; decide]; exact ih
      induction l with
      | nil => intro n h; cases h
      | cons x l ih =>
        intro n hm
        rw [List.foldl_cons]
        rcases List.mem_cons.1 hm with rfl | hm
        · rw [← h2, show ml n 0 = 0 from by rw [ml, Int.mul_zero]; decide]; exact zero l
        · exact ih _ hm
    exact key l 1 hr
theorem hasB_in : ∀ (l : Bx) (p : List Int), Okr l → p.length = l.length → (hasB l p = true ↔ InB l p)
  | [], [], _, _ => by simp [hasB, InB]
  | [], _ :: _, _, h => by simp at h
  | _ :: _, [], _, h => by simp at h
  | r :: l, x :: p, h, hl => by
    have hr := ckRange0 (h r (by simp))
    have e2 : ad r.lo r.ex = r.lo + r.ex := wrp_ok (by omega)
    have ih := hasB_in l p h.tl (by simpa using hl)
    rw [hasB, e2, InB]
    by_cases hc : x < r.lo ∨ x ≥ r.lo + r.ex
    · rw [if_pos hc]
      constructor
      · intro h; cases h
      · intro ⟨h1, h2, _⟩; omega
    · rw [if_neg hc, ih]
      constructor
      · intro h; exact ⟨by omega, by omega, h⟩
      · intro ⟨_, _, h⟩; exact h
end Go.Vm.P4Z
