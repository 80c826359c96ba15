/- A part of the proof that the law answers true for every input; the conditions are those of the card: the listed variable reads as the program lays it. -/
import Derived.Test.YtgbmhofpndjdoaaGreatDoorV5
set_option linter.unusedSimpArgs false
set_option linter.unusedVariables false
/- Chapter 04: the law ImageBytes,given the examples (printed by gen4t.py). -/
set_option maxRecDepth 100000
set_option maxHeartbeats 8000000
namespace Go.Vm.P4Z
open Go Go.Vm Go.Vm.P4
theorem bytesWalk0 (n : Nat) (hA : callP (level E (n+60)) 8 [] = some (.bool true)) (m X Y : Im) (c : Bool) (eb due : D) (dv no : Int) (hv : Ok64 m.dt) (lx : m.bx.length < 1000000) (ls : m.st.length < 1000000) (ld : m.dt.length < 1000000) (h4 : ¬ (((([] : List Int)).length : Nat) : Int) > 400)
    (s1 : callP (level E (n+60)) 7 [enIm m] = some (.bool true))
    (en : callP (level E (n+60)) 9 [enIm m.own] = some (.tup [eb,.int .i64 (ckI m)])) (dg : callP (level E (n+60)) 11 [enIm m.own] = some (.tup [.int .u64 dv,.int .i64 (ckI m)]))
    (dc : callP (level E (n+60)) 12 [.sl 1 ((([] : List Int)).map u8)] = some (.tup [enIm X,.int .i64 no])) (rd : callP (level E (n+60)) 14 [slD c 1 ((([] : List Int)).map u8)] = some (.tup [enIm Y,.int .i64 no]))
    (hXY : Alike X (if no = 0 then Y else im0)) (re : ckI m = 0 → callP (level E (n+60)) 15 [enIm m] = some due) (hd : ckI m ≠ 0 → due = .nil) (rg : ckI m = 0 → callP (level E (n+60)) 16 [due] = some (.int .u64 dv)) (hdv : ckI m ≠ 0 → dv = 0)
    (sb : callP (level E (n+60)) 17 [eb,due] = some (.bool true)) :
    callP (level E (n+61)) 3 [enIm m,slD c 1 ((([] : List Int)).map u8)] = some (.bool true):=by
  have o1:=okOwnImage (n+58) m lx ls ld
  have ck:=okRCheck (n+55) m lx ls ld hv
  have al:=okAlike (n+58) hXY
  have h5 : decide ((0 : Int) > 400) = false:=by decide
  simp only [enIm,enB,Im.own] at o1 ck en dg dc rd al s1
  simp only [List.map_cons,List.map_nil,slD_c,u8,List.length_cons,List.length_nil] at dc rd h4
  rw [p3]
  unfold c3
  rw [seq_step (s':=⟨[.imm (enIm m),.imm (slD c 1 ((([] : List Int)).map u8)),.imm (.bool false),.ptr 0 0,.junk,.junk,.junk,.junk,.junk,.junk,.junk,.junk,.junk,.junk,.junk,.junk,.junk,.junk],[boxI m],none⟩)]
  rotate_left
  · simp only [go_sem,Nat.reduceAdd,Nat.reduceSub,Nat.reduceMul,Nat.reduceDiv,Nat.reduceMod,Nat.reduceLeDiff,Nat.reduceLT,Nat.reduceBEq,Int.reduceToNat,Int.reduceLT,Int.reduceLE,Int.reduceEq,enIm,enB]
  rw [seq_step (s':=⟨[.imm (enIm m),.imm (slD c 1 ((([] : List Int)).map u8)),.imm (.bool false),.ptr 0 0,.junk,.junk,.junk,.junk,.junk,.junk,.junk,.junk,.junk,.junk,.junk,.imm (.bool false),.junk,.junk],[boxI m],none⟩)]
  rotate_left
  · simp only [go_sem,Nat.reduceAdd,Nat.reduceSub,Nat.reduceMul,Nat.reduceDiv,Nat.reduceMod,Nat.reduceLeDiff,Nat.reduceLT,Nat.reduceBEq,Int.reduceToNat,Int.reduceLT,Int.reduceLE,Int.reduceEq,enIm,enB,s1,h4,h5]
  rw [seq_step (s':=⟨[.imm (enIm m),.imm (slD c 1 ((([] : List Int)).map u8)),.imm (.bool false),.ptr 0 0,.imm eb,.imm (.int .i64 (ckI m)),.junk,.junk,.junk,.junk,.junk,.junk,.junk,.junk,.junk,.imm (.bool false),.junk,.junk],[boxI m],none⟩)]
  rotate_left
  · simp only [go_sem,Nat.reduceAdd,Nat.reduceSub,Nat.reduceMul,Nat.reduceDiv,Nat.reduceMod,Nat.reduceLeDiff,Nat.reduceLT,Nat.reduceBEq,Int.reduceToNat,Int.reduceLT,Int.reduceLE,Int.reduceEq,enIm,enB,Im.own,o1,en]
  rw [seq_step (s':=⟨[.imm (enIm m),.imm (slD c 1 ((([] : List Int)).map u8)),.imm (.bool false),.ptr 0 0,.imm eb,.imm (.int .i64 (ckI m)),.imm (.int .u64 dv),.imm (.int .i64 (ckI m)),.junk,.junk,.junk,.junk,.junk,.junk,.junk,.imm (.bool false),.junk,.junk],[boxI m],none⟩)]
  rotate_left
  · simp only [go_sem,Nat.reduceAdd,Nat.reduceSub,Nat.reduceMul,Nat.reduceDiv,Nat.reduceMod,Nat.reduceLeDiff,Nat.reduceLT,Nat.reduceBEq,Int.reduceToNat,Int.reduceLT,Int.reduceLE,Int.reduceEq,enIm,enB,Im.own,o1,dg]
  rw [seq_step (s':=⟨[.imm (enIm m),.imm (slD c 1 ((([] : List Int)).map u8)),.imm (.bool false),.ptr 0 0,.imm eb,.imm (.int .i64 (ckI m)),.imm (.int .u64 dv),.imm (.int .i64 (ckI m)),.ptr 1 0,.imm (.int .i64 (no)),.junk,.junk,.junk,.junk,.junk,.imm (.bool false),.junk,.junk],[boxI m,boxI X],none⟩)]
  rotate_left
  · cases c <;> simp only [go_sem,Nat.reduceAdd,Nat.reduceSub,Nat.reduceMul,Nat.reduceDiv,Nat.reduceMod,Nat.reduceLeDiff,Nat.reduceLT,Nat.reduceBEq,Int.reduceToNat,Int.reduceLT,Int.reduceLE,Int.reduceEq,enIm,enB,dc,slD_tn,slD_f]
  rw [seq_step (s':=⟨[.imm (enIm m),.imm (slD c 1 ((([] : List Int)).map u8)),.imm (.bool false),.ptr 0 0,.imm eb,.imm (.int .i64 (ckI m)),.imm (.int .u64 dv),.imm (.int .i64 (ckI m)),.ptr 1 0,.imm (.int .i64 (no)),.imm (.int .i64 (ckI m)),.junk,.junk,.junk,.junk,.imm (.bool false),.junk,.junk],[boxI m,boxI X],none⟩)]
  rotate_left
  · simp only [go_sem,Nat.reduceAdd,Nat.reduceSub,Nat.reduceMul,Nat.reduceDiv,Nat.reduceMod,Nat.reduceLeDiff,Nat.reduceLT,Nat.reduceBEq,Int.reduceToNat,Int.reduceLT,Int.reduceLE,Int.reduceEq,enIm,enB,ck]
  rw [seq_step (s':=⟨[.imm (enIm m),.imm (slD c 1 ((([] : List Int)).map u8)),.imm (.bool false),.ptr 0 0,.imm eb,.imm (.int .i64 (ckI m)),.imm (.int .u64 dv),.imm (.int .i64 (ckI m)),.ptr 1 0,.imm (.int .i64 (no)),.imm (.int .i64 (ckI m)),.ptr 2 0,.imm (.int .i64 (no)),.junk,.junk,.imm (.bool false),.junk,.junk],[boxI m,boxI X,boxI Y],none⟩)]
  rotate_left
  · simp only [go_sem,Nat.reduceAdd,Nat.reduceSub,Nat.reduceMul,Nat.reduceDiv,Nat.reduceMod,Nat.reduceLeDiff,Nat.reduceLT,Nat.reduceBEq,Int.reduceToNat,Int.reduceLT,Int.reduceLE,Int.reduceEq,enIm,enB,rd]
  rw [seq_step (s':=⟨[.imm (enIm m),.imm (slD c 1 ((([] : List Int)).map u8)),.imm (.bool false),.ptr 0 0,.imm eb,.imm (.int .i64 (ckI m)),.imm (.int .u64 dv),.imm (.int .i64 (ckI m)),.ptr 1 0,.imm (.int .i64 (no)),.imm (.int .i64 (ckI m)),.ptr 2 0,.imm (.int .i64 (no)),.junk,.junk,.imm (.bool false),.imm (.bool (decide (no ≠ 0))),.junk],[boxI m,boxI X,boxI (if no = 0 then Y else im0)],none⟩)]
  rotate_left
  · by_cases h : no = 0
    · simp only [go_sem,Nat.reduceAdd,Nat.reduceSub,Nat.reduceMul,Nat.reduceDiv,Nat.reduceMod,Nat.reduceLeDiff,Nat.reduceLT,Nat.reduceBEq,Int.reduceToNat,Int.reduceLT,Int.reduceLE,Int.reduceEq,enIm,enB,h,ne_eq,not_true_eq_false]
      done
    · simp only [go_sem,Nat.reduceAdd,Nat.reduceSub,Nat.reduceMul,Nat.reduceDiv,Nat.reduceMod,Nat.reduceLeDiff,Nat.reduceLT,Nat.reduceBEq,Int.reduceToNat,Int.reduceLT,Int.reduceLE,Int.reduceEq,enIm,enB,h,ne_eq,not_false_eq_true,im0,boxI,slD_tn]
      done
  rw [seq_step (s':=⟨[.imm (enIm m),.imm (slD c 1 ((([] : List Int)).map u8)),.imm (.bool false),.ptr 0 0,.imm eb,.imm (.int .i64 (ckI m)),.imm (.int .u64 dv),.imm (.int .i64 (ckI m)),.ptr 1 0,.imm (.int .i64 (no)),.imm (.int .i64 (ckI m)),.ptr 2 0,.imm (.int .i64 (no)),.imm .nil,.junk,.imm (.bool false),.imm (.bool (decide (no ≠ 0))),.junk],[boxI m,boxI X,boxI (if no = 0 then Y else im0)],none⟩)]
  rotate_left
  · simp only [go_sem,Nat.reduceAdd,Nat.reduceSub,Nat.reduceMul,Nat.reduceDiv,Nat.reduceMod,Nat.reduceLeDiff,Nat.reduceLT,Nat.reduceBEq,Int.reduceToNat,Int.reduceLT,Int.reduceLE,Int.reduceEq,enIm,enB]
  rw [seq_step (s':=⟨[.imm (enIm m),.imm (slD c 1 ((([] : List Int)).map u8)),.imm (.bool false),.ptr 0 0,.imm eb,.imm (.int .i64 (ckI m)),.imm (.int .u64 dv),.imm (.int .i64 (ckI m)),.ptr 1 0,.imm (.int .i64 (no)),.imm (.int .i64 (ckI m)),.ptr 2 0,.imm (.int .i64 (no)),.imm .nil,.imm (.int .u64 0),.imm (.bool false),.imm (.bool (decide (no ≠ 0))),.junk],[boxI m,boxI X,boxI (if no = 0 then Y else im0)],none⟩)]
  rotate_left
  · simp only [go_sem,Nat.reduceAdd,Nat.reduceSub,Nat.reduceMul,Nat.reduceDiv,Nat.reduceMod,Nat.reduceLeDiff,Nat.reduceLT,Nat.reduceBEq,Int.reduceToNat,Int.reduceLT,Int.reduceLE,Int.reduceEq,enIm,enB]
  rw [seq_step (s':=⟨[.imm (enIm m),.imm (slD c 1 ((([] : List Int)).map u8)),.imm (.bool false),.ptr 0 0,.imm eb,.imm (.int .i64 (ckI m)),.imm (.int .u64 dv),.imm (.int .i64 (ckI m)),.ptr 1 0,.imm (.int .i64 (no)),.imm (.int .i64 (ckI m)),.ptr 2 0,.imm (.int .i64 (no)),.imm due,.imm (.int .u64 dv),.imm (.bool false),.imm (.bool (decide (no ≠ 0))),.imm (.bool (decide (ckI m = 0)))],[boxI m,boxI X,boxI (if no = 0 then Y else im0)],none⟩)]
  rotate_left
  · by_cases h : ckI m = 0
    · have r1:=re h
      have r2:=rg h
      simp only [enIm,enB] at r1
      simp only [go_sem,Nat.reduceAdd,Nat.reduceSub,Nat.reduceMul,Nat.reduceDiv,Nat.reduceMod,Nat.reduceLeDiff,Nat.reduceLT,Nat.reduceBEq,Int.reduceToNat,Int.reduceLT,Int.reduceLE,Int.reduceEq,enIm,enB,h,r1,r2]
      done
    · have r1:=hd h
      have r2:=hdv h
      simp only [go_sem,Nat.reduceAdd,Nat.reduceSub,Nat.reduceMul,Nat.reduceDiv,Nat.reduceMod,Nat.reduceLeDiff,Nat.reduceLT,Nat.reduceBEq,Int.reduceToNat,Int.reduceLT,Int.reduceLE,Int.reduceEq,enIm,enB,h,r1,r2]
      done
  generalize (if no = 0 then Y else im0) = Z at al
  simp only [go_sem,Nat.reduceAdd,Nat.reduceSub,Nat.reduceMul,Nat.reduceDiv,Nat.reduceMod,Nat.reduceLeDiff,Nat.reduceLT,Nat.reduceBEq,Int.reduceToNat,Int.reduceLT,Int.reduceLE,Int.reduceEq,enIm,enB,sb,al,hA]
theorem bytesWalk1 (n : Nat) (hA : callP (level E (n+60)) 8 [] = some (.bool true)) (m X Y : Im) (c : Bool) (x : Int) (l : List Int) (eb due : D) (dv no : Int) (hv : Ok64 m.dt) (lx : m.bx.length < 1000000) (ls : m.st.length < 1000000) (ld : m.dt.length < 1000000) (h4 : ¬ (((x :: l).length : Nat) : Int) > 400)
    (s1 : callP (level E (n+60)) 7 [enIm m] = some (.bool true))
    (en : callP (level E (n+60)) 9 [enIm m.own] = some (.tup [eb,.int .i64 (ckI m)])) (dg : callP (level E (n+60)) 11 [enIm m.own] = some (.tup [.int .u64 dv,.int .i64 (ckI m)]))
    (dc : callP (level E (n+60)) 12 [.sl 1 ((x :: l).map u8)] = some (.tup [enIm X,.int .i64 no])) (rd : callP (level E (n+60)) 14 [slD c 1 ((x :: l).map u8)] = some (.tup [enIm Y,.int .i64 no]))
    (hXY : Alike X (if no = 0 then Y else im0)) (re : ckI m = 0 → callP (level E (n+60)) 15 [enIm m] = some due) (hd : ckI m ≠ 0 → due = .nil) (rg : ckI m = 0 → callP (level E (n+60)) 16 [due] = some (.int .u64 dv)) (hdv : ckI m ≠ 0 → dv = 0)
    (sb : callP (level E (n+60)) 17 [eb,due] = some (.bool true)) (hfb : flatD (.tup [enIm X,.int .i64 no]) = false) :
    callP (level E (n+61)) 3 [enIm m,slD c 1 ((x :: l).map u8)] = some (.bool true):=by
  have o1:=okOwnImage (n+58) m lx ls ld
  have ck:=okRCheck (n+55) m lx ls ld hv
  have al:=okAlike (n+58) hXY
  have e1 : (l.length + 1) * 2 ≤ 70368744177664:=by simp only [List.length_cons] at h4; omega
  have h5 : decide ((0 : Int) > 400) = false:=by decide
  simp only [enIm,enB,Im.own] at o1 ck en dg dc rd al s1
  simp only [List.map_cons,List.map_nil,slD_c,u8,List.length_cons,List.length_nil] at dc rd h4
  simp only [go_sem,Nat.reduceAdd,Nat.reduceSub,Nat.reduceMul,Nat.reduceDiv,Nat.reduceMod,Nat.reduceLeDiff,Nat.reduceLT,Nat.reduceBEq,Int.reduceToNat,Int.reduceLT,Int.reduceLE,Int.reduceEq,enIm,enB] at hfb
  rw [p3]
  unfold c3
  rw [seq_step (s':=⟨[.imm (enIm m),.imm (slD c 1 ((x :: l).map u8)),.imm (.bool false),.ptr 0 0,.junk,.junk,.junk,.junk,.junk,.junk,.junk,.junk,.junk,.junk,.junk,.junk,.junk,.junk],[boxI m],none⟩)]
  rotate_left
  · simp only [go_sem,Nat.reduceAdd,Nat.reduceSub,Nat.reduceMul,Nat.reduceDiv,Nat.reduceMod,Nat.reduceLeDiff,Nat.reduceLT,Nat.reduceBEq,Int.reduceToNat,Int.reduceLT,Int.reduceLE,Int.reduceEq,enIm,enB]
  rw [seq_step (s':=⟨[.imm (enIm m),.imm (slD c 1 ((x :: l).map u8)),.imm (.bool false),.ptr 0 0,.junk,.junk,.junk,.junk,.junk,.junk,.junk,.junk,.junk,.junk,.junk,.imm (.bool false),.junk,.junk],[boxI m],none⟩)]
  rotate_left
  · simp only [go_sem,Nat.reduceAdd,Nat.reduceSub,Nat.reduceMul,Nat.reduceDiv,Nat.reduceMod,Nat.reduceLeDiff,Nat.reduceLT,Nat.reduceBEq,Int.reduceToNat,Int.reduceLT,Int.reduceLE,Int.reduceEq,enIm,enB,s1,h4,h5]
  rw [seq_step (s':=⟨[.imm (enIm m),.imm (slD c 1 ((x :: l).map u8)),.imm (.bool false),.ptr 0 0,.imm eb,.imm (.int .i64 (ckI m)),.junk,.junk,.junk,.junk,.junk,.junk,.junk,.junk,.junk,.imm (.bool false),.junk,.junk],[boxI m],none⟩)]
  rotate_left
  · simp only [go_sem,Nat.reduceAdd,Nat.reduceSub,Nat.reduceMul,Nat.reduceDiv,Nat.reduceMod,Nat.reduceLeDiff,Nat.reduceLT,Nat.reduceBEq,Int.reduceToNat,Int.reduceLT,Int.reduceLE,Int.reduceEq,enIm,enB,Im.own,o1,en]
  rw [seq_step (s':=⟨[.imm (enIm m),.imm (slD c 1 ((x :: l).map u8)),.imm (.bool false),.ptr 0 0,.imm eb,.imm (.int .i64 (ckI m)),.imm (.int .u64 dv),.imm (.int .i64 (ckI m)),.junk,.junk,.junk,.junk,.junk,.junk,.junk,.imm (.bool false),.junk,.junk],[boxI m],none⟩)]
  rotate_left
  · simp only [go_sem,Nat.reduceAdd,Nat.reduceSub,Nat.reduceMul,Nat.reduceDiv,Nat.reduceMod,Nat.reduceLeDiff,Nat.reduceLT,Nat.reduceBEq,Int.reduceToNat,Int.reduceLT,Int.reduceLE,Int.reduceEq,enIm,enB,Im.own,o1,dg]
  rw [seq_step (s':=⟨[.imm (enIm m),.imm (slD c 1 ((x :: l).map u8)),.imm (.bool false),.ptr 0 0,.imm eb,.imm (.int .i64 (ckI m)),.imm (.int .u64 dv),.imm (.int .i64 (ckI m)),.ptr 2 0,.imm (.int .i64 (no)),.junk,.junk,.junk,.junk,.junk,.imm (.bool false),.junk,.junk],[boxI m,.farr 1 ([.int .u8 x] :: l.map u8),boxI X],none⟩)]
  rotate_left
  · simp only [go_sem,Nat.reduceAdd,Nat.reduceSub,Nat.reduceMul,Nat.reduceDiv,Nat.reduceMod,Nat.reduceLeDiff,Nat.reduceLT,Nat.reduceBEq,Int.reduceToNat,Int.reduceLT,Int.reduceLE,Int.reduceEq,enIm,enB,dc,e1,slD_c,hfb]
  rw [seq_step (s':=⟨[.imm (enIm m),.imm (slD c 1 ((x :: l).map u8)),.imm (.bool false),.ptr 0 0,.imm eb,.imm (.int .i64 (ckI m)),.imm (.int .u64 dv),.imm (.int .i64 (ckI m)),.ptr 2 0,.imm (.int .i64 (no)),.imm (.int .i64 (ckI m)),.junk,.junk,.junk,.junk,.imm (.bool false),.junk,.junk],[boxI m,.farr 1 ([.int .u8 x] :: l.map u8),boxI X],none⟩)]
  rotate_left
  · simp only [go_sem,Nat.reduceAdd,Nat.reduceSub,Nat.reduceMul,Nat.reduceDiv,Nat.reduceMod,Nat.reduceLeDiff,Nat.reduceLT,Nat.reduceBEq,Int.reduceToNat,Int.reduceLT,Int.reduceLE,Int.reduceEq,enIm,enB,ck]
  rw [seq_step (s':=⟨[.imm (enIm m),.imm (slD c 1 ((x :: l).map u8)),.imm (.bool false),.ptr 0 0,.imm eb,.imm (.int .i64 (ckI m)),.imm (.int .u64 dv),.imm (.int .i64 (ckI m)),.ptr 2 0,.imm (.int .i64 (no)),.imm (.int .i64 (ckI m)),.ptr 3 0,.imm (.int .i64 (no)),.junk,.junk,.imm (.bool false),.junk,.junk],[boxI m,.farr 1 ([.int .u8 x] :: l.map u8),boxI X,boxI Y],none⟩)]
  rotate_left
  · simp only [go_sem,Nat.reduceAdd,Nat.reduceSub,Nat.reduceMul,Nat.reduceDiv,Nat.reduceMod,Nat.reduceLeDiff,Nat.reduceLT,Nat.reduceBEq,Int.reduceToNat,Int.reduceLT,Int.reduceLE,Int.reduceEq,enIm,enB,rd,slD_c]
  rw [seq_step (s':=⟨[.imm (enIm m),.imm (slD c 1 ((x :: l).map u8)),.imm (.bool false),.ptr 0 0,.imm eb,.imm (.int .i64 (ckI m)),.imm (.int .u64 dv),.imm (.int .i64 (ckI m)),.ptr 2 0,.imm (.int .i64 (no)),.imm (.int .i64 (ckI m)),.ptr 3 0,.imm (.int .i64 (no)),.junk,.junk,.imm (.bool false),.imm (.bool (decide (no ≠ 0))),.junk],[boxI m,.farr 1 ([.int .u8 x] :: l.map u8),boxI X,boxI (if no = 0 then Y else im0)],none⟩)]
  rotate_left
  · by_cases h : no = 0
    · simp only [go_sem,Nat.reduceAdd,Nat.reduceSub,Nat.reduceMul,Nat.reduceDiv,Nat.reduceMod,Nat.reduceLeDiff,Nat.reduceLT,Nat.reduceBEq,Int.reduceToNat,Int.reduceLT,Int.reduceLE,Int.reduceEq,enIm,enB,h,ne_eq,not_true_eq_false]
      done
    · simp only [go_sem,Nat.reduceAdd,Nat.reduceSub,Nat.reduceMul,Nat.reduceDiv,Nat.reduceMod,Nat.reduceLeDiff,Nat.reduceLT,Nat.reduceBEq,Int.reduceToNat,Int.reduceLT,Int.reduceLE,Int.reduceEq,enIm,enB,h,ne_eq,not_false_eq_true,im0,boxI,slD_tn]
      done
  rw [seq_step (s':=⟨[.imm (enIm m),.imm (slD c 1 ((x :: l).map u8)),.imm (.bool false),.ptr 0 0,.imm eb,.imm (.int .i64 (ckI m)),.imm (.int .u64 dv),.imm (.int .i64 (ckI m)),.ptr 2 0,.imm (.int .i64 (no)),.imm (.int .i64 (ckI m)),.ptr 3 0,.imm (.int .i64 (no)),.imm .nil,.junk,.imm (.bool false),.imm (.bool (decide (no ≠ 0))),.junk],[boxI m,.farr 1 ([.int .u8 x] :: l.map u8),boxI X,boxI (if no = 0 then Y else im0)],none⟩)]
  rotate_left
  · simp only [go_sem,Nat.reduceAdd,Nat.reduceSub,Nat.reduceMul,Nat.reduceDiv,Nat.reduceMod,Nat.reduceLeDiff,Nat.reduceLT,Nat.reduceBEq,Int.reduceToNat,Int.reduceLT,Int.reduceLE,Int.reduceEq,enIm,enB]
  rw [seq_step (s':=⟨[.imm (enIm m),.imm (slD c 1 ((x :: l).map u8)),.imm (.bool false),.ptr 0 0,.imm eb,.imm (.int .i64 (ckI m)),.imm (.int .u64 dv),.imm (.int .i64 (ckI m)),.ptr 2 0,.imm (.int .i64 (no)),.imm (.int .i64 (ckI m)),.ptr 3 0,.imm (.int .i64 (no)),.imm .nil,.imm (.int .u64 0),.imm (.bool false),.imm (.bool (decide (no ≠ 0))),.junk],[boxI m,.farr 1 ([.int .u8 x] :: l.map u8),boxI X,boxI (if no = 0 then Y else im0)],none⟩)]
  rotate_left
  · simp only [go_sem,Nat.reduceAdd,Nat.reduceSub,Nat.reduceMul,Nat.reduceDiv,Nat.reduceMod,Nat.reduceLeDiff,Nat.reduceLT,Nat.reduceBEq,Int.reduceToNat,Int.reduceLT,Int.reduceLE,Int.reduceEq,enIm,enB]
  rw [seq_step (s':=⟨[.imm (enIm m),.imm (slD c 1 ((x :: l).map u8)),.imm (.bool false),.ptr 0 0,.imm eb,.imm (.int .i64 (ckI m)),.imm (.int .u64 dv),.imm (.int .i64 (ckI m)),.ptr 2 0,.imm (.int .i64 (no)),.imm (.int .i64 (ckI m)),.ptr 3 0,.imm (.int .i64 (no)),.imm due,.imm (.int .u64 dv),.imm (.bool false),.imm (.bool (decide (no ≠ 0))),.imm (.bool (decide (ckI m = 0)))],[boxI m,.farr 1 ([.int .u8 x] :: l.map u8),boxI X,boxI (if no = 0 then Y else im0)],none⟩)]
  rotate_left
  · by_cases h : ckI m = 0
    · have r1:=re h
      have r2:=rg h
      simp only [enIm,enB] at r1
      simp only [go_sem,Nat.reduceAdd,Nat.reduceSub,Nat.reduceMul,Nat.reduceDiv,Nat.reduceMod,Nat.reduceLeDiff,Nat.reduceLT,Nat.reduceBEq,Int.reduceToNat,Int.reduceLT,Int.reduceLE,Int.reduceEq,enIm,enB,h,r1,r2]
      done
    · have r1:=hd h
      have r2:=hdv h
      simp only [go_sem,Nat.reduceAdd,Nat.reduceSub,Nat.reduceMul,Nat.reduceDiv,Nat.reduceMod,Nat.reduceLeDiff,Nat.reduceLT,Nat.reduceBEq,Int.reduceToNat,Int.reduceLT,Int.reduceLE,Int.reduceEq,enIm,enB,h,r1,r2]
      done
  generalize (if no = 0 then Y else im0) = Z at al
  simp only [go_sem,Nat.reduceAdd,Nat.reduceSub,Nat.reduceMul,Nat.reduceDiv,Nat.reduceMod,Nat.reduceLeDiff,Nat.reduceLT,Nat.reduceBEq,Int.reduceToNat,Int.reduceLT,Int.reduceLE,Int.reduceEq,enIm,enB,sb,al,hA]
theorem bytesWalk2 (n : Nat) (hA : callP (level E (n+60)) 8 [] = some (.bool true)) (m X Y : Im) (c : Bool) (x : Int) (l : List Int) (eb due : D) (dv no : Int) (hv : Ok64 m.dt) (lx : m.bx.length < 1000000) (ls : m.st.length < 1000000) (ld : m.dt.length < 1000000) (h4 : ¬ (((x :: l).length : Nat) : Int) > 400)
    (s1 : callP (level E (n+60)) 7 [enIm m] = some (.bool true))
    (en : callP (level E (n+60)) 9 [enIm m.own] = some (.tup [eb,.int .i64 (ckI m)])) (dg : callP (level E (n+60)) 11 [enIm m.own] = some (.tup [.int .u64 dv,.int .i64 (ckI m)]))
    (dc : callP (level E (n+60)) 12 [.sl 1 ((x :: l).map u8)] = some (.tup [enIm X,.int .i64 no])) (rd : callP (level E (n+60)) 14 [slD c 1 ((x :: l).map u8)] = some (.tup [enIm Y,.int .i64 no]))
    (hXY : Alike X (if no = 0 then Y else im0)) (re : ckI m = 0 → callP (level E (n+60)) 15 [enIm m] = some due) (hd : ckI m ≠ 0 → due = .nil) (rg : ckI m = 0 → callP (level E (n+60)) 16 [due] = some (.int .u64 dv)) (hdv : ckI m ≠ 0 → dv = 0)
    (sb : callP (level E (n+60)) 17 [eb,due] = some (.bool true)) (hfb : flatD (.tup [enIm X,.int .i64 no]) = true) :
    callP (level E (n+61)) 3 [enIm m,slD c 1 ((x :: l).map u8)] = some (.bool true):=by
  have o1:=okOwnImage (n+58) m lx ls ld
  have ck:=okRCheck (n+55) m lx ls ld hv
  have al:=okAlike (n+58) hXY
  have e1 : (l.length + 1) * 2 ≤ 70368744177664:=by simp only [List.length_cons] at h4; omega
  have h5 : decide ((0 : Int) > 400) = false:=by decide
  simp only [enIm,enB,Im.own] at o1 ck en dg dc rd al s1
  simp only [List.map_cons,List.map_nil,slD_c,u8,List.length_cons,List.length_nil] at dc rd h4
  simp only [go_sem,Nat.reduceAdd,Nat.reduceSub,Nat.reduceMul,Nat.reduceDiv,Nat.reduceMod,Nat.reduceLeDiff,Nat.reduceLT,Nat.reduceBEq,Int.reduceToNat,Int.reduceLT,Int.reduceLE,Int.reduceEq,enIm,enB] at hfb
  rw [p3]
  unfold c3
  rw [seq_step (s':=⟨[.imm (enIm m),.imm (slD c 1 ((x :: l).map u8)),.imm (.bool false),.ptr 0 0,.junk,.junk,.junk,.junk,.junk,.junk,.junk,.junk,.junk,.junk,.junk,.junk,.junk,.junk],[boxI m],none⟩)]
  rotate_left
  · simp only [go_sem,Nat.reduceAdd,Nat.reduceSub,Nat.reduceMul,Nat.reduceDiv,Nat.reduceMod,Nat.reduceLeDiff,Nat.reduceLT,Nat.reduceBEq,Int.reduceToNat,Int.reduceLT,Int.reduceLE,Int.reduceEq,enIm,enB]
  rw [seq_step (s':=⟨[.imm (enIm m),.imm (slD c 1 ((x :: l).map u8)),.imm (.bool false),.ptr 0 0,.junk,.junk,.junk,.junk,.junk,.junk,.junk,.junk,.junk,.junk,.junk,.imm (.bool false),.junk,.junk],[boxI m],none⟩)]
  rotate_left
  · simp only [go_sem,Nat.reduceAdd,Nat.reduceSub,Nat.reduceMul,Nat.reduceDiv,Nat.reduceMod,Nat.reduceLeDiff,Nat.reduceLT,Nat.reduceBEq,Int.reduceToNat,Int.reduceLT,Int.reduceLE,Int.reduceEq,enIm,enB,s1,h4,h5]
  rw [seq_step (s':=⟨[.imm (enIm m),.imm (slD c 1 ((x :: l).map u8)),.imm (.bool false),.ptr 0 0,.imm eb,.imm (.int .i64 (ckI m)),.junk,.junk,.junk,.junk,.junk,.junk,.junk,.junk,.junk,.imm (.bool false),.junk,.junk],[boxI m],none⟩)]
  rotate_left
  · simp only [go_sem,Nat.reduceAdd,Nat.reduceSub,Nat.reduceMul,Nat.reduceDiv,Nat.reduceMod,Nat.reduceLeDiff,Nat.reduceLT,Nat.reduceBEq,Int.reduceToNat,Int.reduceLT,Int.reduceLE,Int.reduceEq,enIm,enB,Im.own,o1,en]
  rw [seq_step (s':=⟨[.imm (enIm m),.imm (slD c 1 ((x :: l).map u8)),.imm (.bool false),.ptr 0 0,.imm eb,.imm (.int .i64 (ckI m)),.imm (.int .u64 dv),.imm (.int .i64 (ckI m)),.junk,.junk,.junk,.junk,.junk,.junk,.junk,.imm (.bool false),.junk,.junk],[boxI m],none⟩)]
  rotate_left
  · simp only [go_sem,Nat.reduceAdd,Nat.reduceSub,Nat.reduceMul,Nat.reduceDiv,Nat.reduceMod,Nat.reduceLeDiff,Nat.reduceLT,Nat.reduceBEq,Int.reduceToNat,Int.reduceLT,Int.reduceLE,Int.reduceEq,enIm,enB,Im.own,o1,dg]
  rw [seq_step (s':=⟨[.imm (enIm m),.imm (slD c 1 ((x :: l).map u8)),.imm (.bool false),.ptr 0 0,.imm eb,.imm (.int .i64 (ckI m)),.imm (.int .u64 dv),.imm (.int .i64 (ckI m)),.ptr 2 0,.imm (.int .i64 (no)),.junk,.junk,.junk,.junk,.junk,.imm (.bool false),.junk,.junk],[boxI m,.arr 1 ([.int .u8 x] :: l.map u8),boxI X],none⟩)]
  rotate_left
  · simp only [go_sem,Nat.reduceAdd,Nat.reduceSub,Nat.reduceMul,Nat.reduceDiv,Nat.reduceMod,Nat.reduceLeDiff,Nat.reduceLT,Nat.reduceBEq,Int.reduceToNat,Int.reduceLT,Int.reduceLE,Int.reduceEq,enIm,enB,dc,e1,slD_c,hfb]
  rw [seq_step (s':=⟨[.imm (enIm m),.imm (slD c 1 ((x :: l).map u8)),.imm (.bool false),.ptr 0 0,.imm eb,.imm (.int .i64 (ckI m)),.imm (.int .u64 dv),.imm (.int .i64 (ckI m)),.ptr 2 0,.imm (.int .i64 (no)),.imm (.int .i64 (ckI m)),.junk,.junk,.junk,.junk,.imm (.bool false),.junk,.junk],[boxI m,.arr 1 ([.int .u8 x] :: l.map u8),boxI X],none⟩)]
  rotate_left
  · simp only [go_sem,Nat.reduceAdd,Nat.reduceSub,Nat.reduceMul,Nat.reduceDiv,Nat.reduceMod,Nat.reduceLeDiff,Nat.reduceLT,Nat.reduceBEq,Int.reduceToNat,Int.reduceLT,Int.reduceLE,Int.reduceEq,enIm,enB,ck]
  rw [seq_step (s':=⟨[.imm (enIm m),.imm (slD c 1 ((x :: l).map u8)),.imm (.bool false),.ptr 0 0,.imm eb,.imm (.int .i64 (ckI m)),.imm (.int .u64 dv),.imm (.int .i64 (ckI m)),.ptr 2 0,.imm (.int .i64 (no)),.imm (.int .i64 (ckI m)),.ptr 3 0,.imm (.int .i64 (no)),.junk,.junk,.imm (.bool false),.junk,.junk],[boxI m,.arr 1 ([.int .u8 x] :: l.map u8),boxI X,boxI Y],none⟩)]
  rotate_left
  · simp only [go_sem,Nat.reduceAdd,Nat.reduceSub,Nat.reduceMul,Nat.reduceDiv,Nat.reduceMod,Nat.reduceLeDiff,Nat.reduceLT,Nat.reduceBEq,Int.reduceToNat,Int.reduceLT,Int.reduceLE,Int.reduceEq,enIm,enB,rd,slD_c]
  rw [seq_step (s':=⟨[.imm (enIm m),.imm (slD c 1 ((x :: l).map u8)),.imm (.bool false),.ptr 0 0,.imm eb,.imm (.int .i64 (ckI m)),.imm (.int .u64 dv),.imm (.int .i64 (ckI m)),.ptr 2 0,.imm (.int .i64 (no)),.imm (.int .i64 (ckI m)),.ptr 3 0,.imm (.int .i64 (no)),.junk,.junk,.imm (.bool false),.imm (.bool (decide (no ≠ 0))),.junk],[boxI m,.arr 1 ([.int .u8 x] :: l.map u8),boxI X,boxI (if no = 0 then Y else im0)],none⟩)]
  rotate_left
  · by_cases h : no = 0
    · simp only [go_sem,Nat.reduceAdd,Nat.reduceSub,Nat.reduceMul,Nat.reduceDiv,Nat.reduceMod,Nat.reduceLeDiff,Nat.reduceLT,Nat.reduceBEq,Int.reduceToNat,Int.reduceLT,Int.reduceLE,Int.reduceEq,enIm,enB,h,ne_eq,not_true_eq_false]
      done
    · simp only [go_sem,Nat.reduceAdd,Nat.reduceSub,Nat.reduceMul,Nat.reduceDiv,Nat.reduceMod,Nat.reduceLeDiff,Nat.reduceLT,Nat.reduceBEq,Int.reduceToNat,Int.reduceLT,Int.reduceLE,Int.reduceEq,enIm,enB,h,ne_eq,not_false_eq_true,im0,boxI,slD_tn]
      done
  rw [seq_step (s':=⟨[.imm (enIm m),.imm (slD c 1 ((x :: l).map u8)),.imm (.bool false),.ptr 0 0,.imm eb,.imm (.int .i64 (ckI m)),.imm (.int .u64 dv),.imm (.int .i64 (ckI m)),.ptr 2 0,.imm (.int .i64 (no)),.imm (.int .i64 (ckI m)),.ptr 3 0,.imm (.int .i64 (no)),.imm .nil,.junk,.imm (.bool false),.imm (.bool (decide (no ≠ 0))),.junk],[boxI m,.arr 1 ([.int .u8 x] :: l.map u8),boxI X,boxI (if no = 0 then Y else im0)],none⟩)]
  rotate_left
  · simp only [go_sem,Nat.reduceAdd,Nat.reduceSub,Nat.reduceMul,Nat.reduceDiv,Nat.reduceMod,Nat.reduceLeDiff,Nat.reduceLT,Nat.reduceBEq,Int.reduceToNat,Int.reduceLT,Int.reduceLE,Int.reduceEq,enIm,enB]
  rw [seq_step (s':=⟨[.imm (enIm m),.imm (slD c 1 ((x :: l).map u8)),.imm (.bool false),.ptr 0 0,.imm eb,.imm (.int .i64 (ckI m)),.imm (.int .u64 dv),.imm (.int .i64 (ckI m)),.ptr 2 0,.imm (.int .i64 (no)),.imm (.int .i64 (ckI m)),.ptr 3 0,.imm (.int .i64 (no)),.imm .nil,.imm (.int .u64 0),.imm (.bool false),.imm (.bool (decide (no ≠ 0))),.junk],[boxI m,.arr 1 ([.int .u8 x] :: l.map u8),boxI X,boxI (if no = 0 then Y else im0)],none⟩)]
  rotate_left
  · simp only [go_sem,Nat.reduceAdd,Nat.reduceSub,Nat.reduceMul,Nat.reduceDiv,Nat.reduceMod,Nat.reduceLeDiff,Nat.reduceLT,Nat.reduceBEq,Int.reduceToNat,Int.reduceLT,Int.reduceLE,Int.reduceEq,enIm,enB]
  rw [seq_step (s':=⟨[.imm (enIm m),.imm (slD c 1 ((x :: l).map u8)),.imm (.bool false),.ptr 0 0,.imm eb,.imm (.int .i64 (ckI m)),.imm (.int .u64 dv),.imm (.int .i64 (ckI m)),.ptr 2 0,.imm (.int .i64 (no)),.imm (.int .i64 (ckI m)),.ptr 3 0,.imm (.int .i64 (no)),.imm due,.imm (.int .u64 dv),.imm (.bool false),.imm (.bool (decide (no ≠ 0))),.imm (.bool (decide (ckI m = 0)))],[boxI m,.arr 1 ([.int .u8 x] :: l.map u8),boxI X,boxI (if no = 0 then Y else im0)],none⟩)]
  rotate_left
  · by_cases h : ckI m = 0
    · have r1:=re h
      have r2:=rg h
      simp only [enIm,enB] at r1
      simp only [go_sem,Nat.reduceAdd,Nat.reduceSub,Nat.reduceMul,Nat.reduceDiv,Nat.reduceMod,Nat.reduceLeDiff,Nat.reduceLT,Nat.reduceBEq,Int.reduceToNat,Int.reduceLT,Int.reduceLE,Int.reduceEq,enIm,enB,h,r1,r2]
      done
    · have r1:=hd h
      have r2:=hdv h
      simp only [go_sem,Nat.reduceAdd,Nat.reduceSub,Nat.reduceMul,Nat.reduceDiv,Nat.reduceMod,Nat.reduceLeDiff,Nat.reduceLT,Nat.reduceBEq,Int.reduceToNat,Int.reduceLT,Int.reduceLE,Int.reduceEq,enIm,enB,h,r1,r2]
      done
  generalize (if no = 0 then Y else im0) = Z at al
  simp only [go_sem,Nat.reduceAdd,Nat.reduceSub,Nat.reduceMul,Nat.reduceDiv,Nat.reduceMod,Nat.reduceLeDiff,Nat.reduceLT,Nat.reduceBEq,Int.reduceToNat,Int.reduceLT,Int.reduceLE,Int.reduceEq,enIm,enB,sb,al,hA]
end Go.Vm.P4Z

/- Chapter 04: the law ImageBytes. -/
set_option maxRecDepth 100000
set_option maxHeartbeats 4000000
namespace Go.Vm.P4Z
open Go Go.Vm Go.Vm.P4
theorem decV_al (k : Int) (bx : Bx) (r : List Int) (hx : bx.length < 1000) : ((decV k bx r).2 ≠ 0 → (decV k bx r).1 = im0) ∧ Alike (decV k bx r).1 (decV k bx r).1:=by
  unfold decV
  by_cases h : ckBox bx = 0
  · simp only [h,ne_eq,not_true_eq_false,if_false]
    cases hq : rdVs k (szN k) (many bx).toNat r with
    | inl e => exact ⟨fun _ => rfl,alike_im0⟩
    | inr p =>
      obtain ⟨a,r'⟩:=p
      simp only
      by_cases h2 : r'.length > 0
      · simp only [h2,if_true]
        exact ⟨fun _ => trivial,alike_im0⟩
      · simp only [h2,if_false]
        obtain ⟨N,hN,hN2⟩:=many_nat h
        obtain ⟨_,ha⟩:=rdVs_len _ _ _ _ _ _ hq
        exact ⟨fun h => absurd trivial h,rfl,rfl,rfl,rfl,by show bx.length < _; omega,by show (strides 1 bx).length < _; rw [strides_len]; omega,by show a.length < _; omega⟩
  · simp only [h,ne_eq,not_false_eq_true,if_true]
    exact ⟨fun _ => trivial,alike_im0⟩
theorem decI_al (l : List Int) (hb : By l) : ((decI l).2 ≠ 0 → (decI l).1 = im0) ∧ Alike (decI l).1 (decI l).1:=by
  unfold decI
  by_cases h : dcHd l = 0
  · obtain ⟨k,d,r,rfl,hc,d1,d3⟩:=dcHd0 h
    simp only [h,ne_eq,not_true_eq_false,if_false,List.getD_cons_succ,List.getD_cons_zero,List.drop_succ_cons,List.drop_zero]
    unfold decT
    rw [rdRs_map]
    by_cases h2 : r.length < 6 * d.toNat
    · rw [if_pos h2]
      exact ⟨fun _ => rfl,alike_im0⟩
    · rw [if_neg h2]
      exact decV_al k _ _ (by simp; omega)
  · simp only [h,ne_eq,not_false_eq_true,if_true]
    exact ⟨fun _ => trivial,alike_im0⟩
theorem okImageBytes (n : Nat) (hA : callP (level E (n+60)) 8 [] = some (.bool true)) (m : Im) (c : Bool) (l : List Int) (hv : Ok64 m.dt) (hb : By l) :
    callP (level E (n+61)) 3 [enIm m,slD c 1 (l.map u8)] = some (.bool true):=by
  have s1:=okShortImage (n+59) m
  cases hs1 : shortI m with
  | false =>
    rw [hs1] at s1
    rw [p3]
    simp only [enIm,enB] at s1
    simp only [go_sem,Nat.reduceAdd,Nat.reduceSub,Nat.reduceMul,Nat.reduceDiv,Nat.reduceMod,Nat.reduceLeDiff,Nat.reduceLT,Nat.reduceBEq,Int.reduceToNat,Int.reduceLT,Int.reduceLE,Int.reduceEq,enIm,enB,s1,hA]
  | true =>
    rw [hs1] at s1
    by_cases hp5 : (l.length : Int) > 400
    · rw [p3]
      simp only [enIm,enB] at s1
      simp only [go_sem,Nat.reduceAdd,Nat.reduceSub,Nat.reduceMul,Nat.reduceDiv,Nat.reduceMod,Nat.reduceLeDiff,Nat.reduceLT,Nat.reduceBEq,Int.reduceToNat,Int.reduceLT,Int.reduceLE,Int.reduceEq,enIm,enB,s1,hp5,hA]
    obtain ⟨l1,l2,l3⟩:=shortI_len hs1
    have lx : m.bx.length < 1000000:=by omega
    have ls : m.st.length < 1000000:=by omega
    have ld : m.dt.length < 1000000:=by omega
    have hl : l.length < 1000000:=by omega
    have en:=okEncodeG (n+50) m.own lx ls ld hv
    have dg:=okDigestG (n+50) m.own lx ls ld hv
    rw [ckI_own] at en dg
    have eb : byI m.own = byI m:=rfl
    rw [eb] at en dg
    have dc:=okDecodeG (n+50) l hb hl
    obtain ⟨Y,rd,hY⟩:=okRDecode (n+50) c l hb hl
    obtain ⟨a1,a2⟩:=decI_al l hb
    have hXY : Alike (decI l).1 (if (decI l).2 = 0 then Y else im0):=by
      by_cases h : (decI l).2 = 0
      · rw [if_pos h,hY h]; exact a2
      · rw [if_neg h]
        have:=a1 h
        rw [this]; exact alike_im0
    have hbl : ckI m = 0 → (byI m).length < 1000000:=fun h => by
      obtain ⟨N,G⟩:=good_of h
      have e : ∀ l : Bx,(l.flatMap rgB).length = 6 * l.length:=by
        intro l
        induction l with
        | nil => rfl
        | cons x l ih => rw [List.flatMap_cons,List.length_append,ih,rgB_len,List.length_cons]; omega
      have e2 : ∀ l : List Nat,(l.flatMap (fun (i : Nat) => leB (szN m.kd) (atI m (digits m.bx i)))).length ≤ 8 * l.length:=by
        intro l
        induction l with
        | nil => simp
        | cons x l ih =>
          have:=(szN_in G.kd).2
          rw [List.flatMap_cons,List.length_append,leB_len,List.length_cons]; omega
      have e3:=e2 (List.range (many m.bx).toNat)
      rw [List.length_range] at e3
      have:=G.many
      have:=G.small
      have:=G.len3
      simp only [byI,List.length_append,e,List.length_cons,List.length_nil]
      omega
    have re : ckI m = 0 → callP (level E (n+60)) 15 [enIm m] = some (if ckI m = 0 then slD false 1 ((byI m).map u8) else .nil):=fun h => by
      obtain ⟨N,G⟩:=good_of h
      rw [if_pos h]
      exact okREncode (n+57) m N G hv
    have rg : ckI m = 0 → callP (level E (n+60)) 16 [if ckI m = 0 then slD false 1 ((byI m).map u8) else .nil] = some (.int .u64 (if ckI m = 0 then dgI (byI m) else 0)):=fun h => by
      rw [if_pos h,if_pos h]
      exact okRDigest (n+59) false (byI m) (hbl h)
    have sb : callP (level E (n+60)) 17 [if ckI m = 0 then .sl 1 ((byI m).map u8) else .nil,if ckI m = 0 then slD false 1 ((byI m).map u8) else .nil] = some (.bool true):=by
      by_cases h : ckI m = 0
      · have:=hbl h
        have q:=okSameBytesG (n+59) false false (byI m) (byI m) (by omega) (by omega)
        rw [slD_f,decide_eq_true rfl] at q
        rw [if_pos h,if_pos h,slD_f]
        exact q
      · have q:=okSameBytesG (n+59) true true [] [] (by decide) (by decide)
        rw [if_neg h,if_neg h]
        exact q
    have hd : ckI m ≠ 0 → (if ckI m = 0 then slD false 1 ((byI m).map u8) else .nil) = D.nil:=fun h => if_neg h
    have hdv : ckI m ≠ 0 → (if ckI m = 0 then dgI (byI m) else 0) = 0:=fun h => if_neg h
    rcases l with _ | ⟨x,l⟩
    · exact bytesWalk0 n hA m _ Y c _ _ _ _ hv lx ls ld hp5 s1 en dg dc rd hXY re hd rg hdv sb
    · cases hfb : flatD (.tup [enIm (decI (x :: l)).1,.int .i64 (decI (x :: l)).2]) with
      | false => exact bytesWalk1 n hA m _ Y c x l _ _ _ _ hv lx ls ld hp5 s1 en dg dc rd hXY re hd rg hdv sb hfb
      | true => exact bytesWalk2 n hA m _ Y c x l _ _ _ _ hv lx ls ld hp5 s1 en dg dc rd hXY re hd rg hdv sb hfb
end Go.Vm.P4Z

/- Chapter 04: ImageBytes: the row and the card. -/
set_option maxRecDepth 100000
namespace Go.Proofs.YtgbmhofpndjdoaaGreatDoor
open Go Go.Vm Go.Vm.P4 Go.Vm.P4Z Go.ChangeShapes Go.WideShapes Go.ChangeAt Go.RowKit
theorem readImage : Tryz.prog.readableRec 27 = true:=by kernel_rfl
theorem rowImage : 27 < Tryz.prog.types.size:=of_decide_eq_true (by kernel_rfl)
theorem readBytes : Tryz.prog.readableRec 28 = true:=by kernel_rfl
theorem rowBytes : 28 < Tryz.prog.types.size:=of_decide_eq_true (by kernel_rfl)
theorem liftedImageBytes (os : Os) (started : os.Started) (H : Type) (enc : TypeId × Value → H) :
    ReturnsInHanded {} Tryz.checked os 3 .any (fun w args => (Rows.imageBytesSpec.pre enc Tryz.prog Tryz.f3 [] false w args ∧ laidMetH Tryz.prog laidW w) ∧ sizedMet enc Tryz.prog Tryz.f3 (OpenSpec.ofChange Rows.imageBytesSpec) false w args)
      (Rows.imageBytesSpec.post enc Tryz.prog Tryz.f3 false true false false):=by
  refine returnsInHanded_of_change_and (C:=Tryz.checked) (X:=fun w _ => laidMetH Tryz.prog laidW w) (fun _ _ _ hh h => h.of_heap hh) ownT started (by kernel_rfl) Tryz.func3
    (ChangeSpec.witness_shaped (enc:=enc) (C:=Tryz.checked) (os:=os) (X:=fun w _ => laidMetH Tryz.prog laidW w) false (World.doorLaid Tryz.prog 2000 os) #[.agg #[.int .i64 0,.slice none 0 0,.slice none 0 0,.slice none 0 0],.slice none 0 0] 8 rfl (World.shaped_of_RefB (by kernel_rfl) (by kernel_rfl)) (by kernel_rfl) (by kernel_rfl) (by kernel_rfl) (door_met os _)) ?_
  intro W base args ds gs before hval0 hW _ _ hL _
  have hW':=hW
  have hlt:=hW.lt
  obtain ⟨p,q,hA0,hV,rfl,hfz,hnd⟩:=hW
  have hA : DataW.TrodAll enc Tryz.prog W 0 (fun _ => true) true Tryz.f3.params.toList args.toList ds p:=hA0
  rw [Tryz.params3] at hA
  obtain ⟨v0,v1,d0,d1,p0,p1,rfl,rfl,rfl,h0,h1⟩:=trodAll_two hA
  obtain ⟨rfl,rfl⟩:=trodVars_none hV
  have hval : ∀ (j : Nat) t v,Tryz.f3.params[j]? = some t → (#[v0,v1] : Array Value)[j]? = some v → Value.okWide Tryz.prog W .any base t v:=hval0
  rw [Tryz.params3] at hval
  obtain ⟨m0,g0,r0⟩:=arg_image (hval 0 27 v0 rfl rfl) h0
  obtain ⟨b1,l1,g1,r1⟩:=arg_bytes (hval 1 28 v1 rfl rfl) h1
  refine (call_ok anyXP (okImageBytes 0 (okAwake 0) m0 b1 l1 g0 g1) hL rfl (fun j d hj => ?_)).mono fun e w ⟨r,F,he,htr,hr⟩ => ?_
  · match j,hj with
    | 0,hj => injection hj with hj; subst hj; exact r0
    | 1,hj => injection hj with hj; subst hj; exact r1
    | j + 2,hj => simp at hj
  · subst he
    have hb:=below_of htr
    obtain rfl:=bool_of hr
    refine ⟨_,rfl,[d0,d1],[],p0 ++ p1 ++ [],[],p0 ++ p1,[],hW',trodAll_mk1 (shut_bool Tryz.underlying4 _),?_,rfl,hb.frame _,nofun⟩
    exact trodAll_mk2 (Below.trod laidOutT readImage rowImage h0 hb fun x hx => hlt x (by simp [hx])) (Below.trod laidOutT readBytes rowBytes h1 hb fun x hx => hlt x (by simp [hx]))
theorem imageBytes_said : Rows.ImageBytesSaid :=
  OpenClaim.holds_of_wide 3 Tryz.f3 rfl rfl rfl rfl rfl rfl rfl ⟨rfl,rfl,rfl,rfl,rfl⟩ rfl rfl rfl rfl rfl (by kernel_rfl) Tryz.func3 (by kernel_rfl)
    (of_decide_eq_true (by kernel_rfl)) (by unfold Func.isWrapper; first | (rw [if_pos (by decide +kernel)]; kernel_rfl) | (rw [if_neg (by decide +kernel)]; exact ⟨rfl,rfl⟩))
    (fun os started H enc _ => liftedImageBytes os started H enc)
theorem imageBytes_holds : Rows.ImageBytesCardSaid :=
  Claim7.holds_tied_plain_at .later [] [.data,.funcs] true (true, "47b693bda246c1c9613a75da3a0118561ee6bcc2ec34998d3f5c399ab10df9b5") false
    imageBytes_said (fun _ h => by cases h) (by kernel_rfl) (fun _ h => by cases h) imageBytes_row_tie rfl ⟨rfl,rfl⟩ (by kernel_rfl) rfl
    (fun f fn hf hfn => by
      obtain rfl : f = 3:=Option.some.inj ((show Tryz.prog.funcNamed "halation/halationlaw04.ImageBytes" = some 3 by kernel_rfl).symm.trans hf) |>.symm
      obtain rfl : fn = Tryz.f3:=(Option.some.inj (Tryz.func3.symm.trans hfn)).symm
      exact ⟨by kernel_rfl,fun j t ht => by
        rw [Tryz.params3] at ht
        have hm : t ∈ [27,28]:=by simpa using Array.mem_of_getElem? ht
        have hall : ([27,28].all fun u => !Tryz.prog.wantsStandIn u) = true:=by kernel_rfl
        exact (show Tryz.prog.wantsStandIn t = false by simpa using List.all_eq_true.1 hall t hm)⟩)
    (by kernel_rfl)
#print axioms imageBytes_holds
end Go.Proofs.YtgbmhofpndjdoaaGreatDoor
