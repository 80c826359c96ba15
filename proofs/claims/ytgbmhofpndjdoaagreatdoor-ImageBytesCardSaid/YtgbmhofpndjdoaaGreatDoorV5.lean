/- A part of the proof that the law answers true for every input; the conditions are those of the card: the listed variable reads as the program lays it. -/
import Derived.Test.YtgbmhofpndjdoaaGreatDoorV4
set_option linter.unusedSimpArgs false
set_option linter.unusedVariables false
/- Chapter 04,functions: elements of points,images made of a function. -/
set_option maxRecDepth 100000
set_option maxHeartbeats 4000000
namespace Go.Vm.P4Z
open Go Go.Vm Go.Vm.P4
theorem okViewAt (n : Nat) (m : Im) (p : List Int) (k : Nat) (v : Int) (hp : p.length = 3) (h3 : m.bx.length ≤ 3) (hs : m.bx.length ≤ m.st.length) (he : elt m.bx p m.st 0 = k) (hv : m.dt[k]? = some v) :
    callP (level E (n+2)) 84 [enIm m,enP p] = some (.int .u64 v):=by
  rw [p84]
  have h1:=okElement n m.bb m.tb m.bx m.st p h3 hs hp
  obtain ⟨x,y,z,rfl⟩ : ∃ x y z,p = [x,y,z]:=by
    match p,hp with
    | [x,y,z],_ => exact ⟨x,y,z,rfl⟩
  rw [he] at h1
  simp only [enP,List.map_cons,List.map_nil] at h1 ⊢
  simp only [go_sem,Nat.reduceAdd,Nat.reduceSub,Nat.reduceMul,Nat.reduceDiv,Nat.reduceMod,Nat.reduceLeDiff,Nat.reduceLT,Nat.reduceBEq,Int.reduceToNat,Int.reduceLT,Int.reduceLE,Int.reduceEq,enIm,h1,hv]
def ckAt (cb : Int → Int) (m : Im) (p : List Int) : Int:=if fnz [ckIm cb m,if p.length = m.bx.length then 0 else 13] = 0 then (if hasB m.bx p then 0 else 14) else fnz [ckIm cb m,if p.length = m.bx.length then 0 else 13]
theorem okCheckAt (n : Nat) (m : Im) (c : Bool) (p : List Int) (cb : Int → Int) (hx : m.bx.length < 1000000) (hs : m.st.length < 1000000) (hd : m.dt.length < 1000000) (H : ∀ v ∈ m.dt,callP (level E (n+5)) 72 [.int .i64 m.kd,.int .u64 v] = some (.int .i64 (cb v))) :
    callP (level E (n+10)) 99 [enIm m,slD c 1 (p.map ic)] = some (.int .i64 (ckAt cb m p)):=by
  rw [p99]
  have h1:=okCheck n m cb hx hs hd H
  have f1:=okFirstL (n+8) [[.int .i64 (ckIm cb m)],[.int .i64 (if p.length = m.bx.length then 0 else 13)]] [ckIm cb m,if p.length = m.bx.length then 0 else 13] rfl (by simp)
  have w1 : callP (level E (n+9)) 64 [.bool (decide (¬ (p.length : Int) = m.bx.length)),.int .i64 13] = some (.int .i64 (if p.length = m.bx.length then 0 else 13)):=by
    rw [okWhen (n+8)]
    by_cases h : p.length = m.bx.length
    · simp [h]
    · have : ¬ (p.length : Int) = m.bx.length:=by omega
      simp [h,this]
  by_cases h2 : fnz [ckIm cb m,if p.length = m.bx.length then 0 else 13] = 0
  · have h4:=fz0 _ h2 (if p.length = m.bx.length then 0 else 13) (by simp)
    have h5 : p.length = m.bx.length:=by
      split at h4
      · assumption
      · omega
    have h6:=okHas0 (n+8) m.bb c m.bx p (by omega) (by omega)
    rw [h2] at f1
    simp only [enIm] at h1
    cases h7 : hasB m.bx p
    · rw [h7] at h6
      simp only [go_sem,Nat.reduceAdd,Nat.reduceSub,Nat.reduceMul,Nat.reduceDiv,Nat.reduceMod,Nat.reduceLeDiff,Nat.reduceLT,Nat.reduceBEq,Int.reduceToNat,Int.reduceLT,Int.reduceLE,Int.reduceEq,enIm,h1,w1,f1,h2,h6,h7,okWhen,ckAt,ne_eq,not_true_eq_false,Bool.false_eq_true]
    · rw [h7] at h6
      simp only [go_sem,Nat.reduceAdd,Nat.reduceSub,Nat.reduceMul,Nat.reduceDiv,Nat.reduceMod,Nat.reduceLeDiff,Nat.reduceLT,Nat.reduceBEq,Int.reduceToNat,Int.reduceLT,Int.reduceLE,Int.reduceEq,enIm,h1,w1,f1,h2,h6,h7,okWhen,ckAt,ne_eq,not_true_eq_false,Bool.false_eq_true]
  · simp only [enIm] at h1
    simp only [go_sem,Nat.reduceAdd,Nat.reduceSub,Nat.reduceMul,Nat.reduceDiv,Nat.reduceMod,Nat.reduceLeDiff,Nat.reduceLT,Nat.reduceBEq,Int.reduceToNat,Int.reduceLT,Int.reduceLE,Int.reduceEq,enIm,h1,w1,f1,h2,ckAt,ne_eq,not_false_eq_true]
theorem okAtS (n : Nat) (m : Im) (c : Bool) (p : List Int) (h1 : callP (level E (n+10)) 99 [enIm m,slD c 1 (p.map ic)] = some (.int .i64 0)) (h3 : m.bx.length ≤ 3) (hpl : p.length ≤ 3) (hs : m.bx.length ≤ m.st.length)
    (k : Nat) (v : Int) (he : elt m.bx ((p ++ [0,0,0]).take 3) m.st 0 = k) (hv : m.dt[k]? = some v) :
    callP (level E (n+11)) 39 [enIm m,slD c 1 (p.map ic)] = some (.tup [.agg [.int .i64 m.kd,.int .u64 v],.int .i64 0]):=by
  rw [p39]
  have h2:=okOf (n+9) c p hpl
  have h4:=okViewAt (n+8) m ((p ++ [0,0,0]).take 3) k v (by simp) h3 hs he hv
  simp only [enIm] at h1 h4
  simp only [go_sem,Nat.reduceAdd,Nat.reduceSub,Nat.reduceMul,Nat.reduceDiv,Nat.reduceMod,Nat.reduceLeDiff,Nat.reduceLT,Nat.reduceBEq,Int.reduceToNat,Int.reduceLT,Int.reduceLE,Int.reduceEq,enIm,h1,h2,h4,ne_eq,not_true_eq_false]
end Go.Vm.P4Z

/- Chapter 04,functions: images made of a function. -/
set_option maxRecDepth 100000
set_option maxHeartbeats 4000000
namespace Go.Vm.P4Z
open Go Go.Vm Go.Vm.P4
def CoV (kd : Int) (b : Bool) (l : Bx) (f : D) (q : Nat) : List AV:=[.imm (.int .i64 kd),.imm (enB b l),.imm f,.ptr 0 0,.imm (.ptr [f]),.ptr q 0,.junk,.imm (.fn 125 [] [.ptr [enB b l]]),.junk,.junk]
def z4 : List AV:=[.imm (.int .i64 0),.imm .nil,.imm .nil,.imm .nil]
def CoSt (kd : Int) (b : Bool) (l : Bx) (f : D) : List (List D) → Ext
  | [] => ⟨[8,9],b86_0,b86_1,CoV kd b l f 2,[.box z4,.arr 2 (l.map enR),.box [.imm (.int .i64 kd),.ref 1 2 0 l.length,.imm (slD true 1 ((strides 1 l).map ic)),.imm .nil]],0,none⟩
  | acc => ⟨[8,9],b86_0,b86_1,CoV kd b l f 1,[.box z4,.box [.imm (.int .i64 kd),.ref 2 2 0 l.length,.imm (slD true 1 ((strides 1 l).map ic)),.ref 3 1 0 acc.length],.arr 2 (l.map enR),.arr 1 acc],0,none⟩
theorem dL_cat (st : List AO) (fs cs : List D) (a : D) : deepL st (fs.map AV.imm ++ [.imm a] ++ cs.map AV.imm) = some (fs ++ [a] ++ cs):=by
  rw [show fs.map AV.imm ++ [.imm a] ++ cs.map AV.imm = (fs ++ [a] ++ cs).map AV.imm from by simp]
  exact dL_map _
theorem iL_cat (fs cs : List D) (a : D) : idsL (fs.map AV.imm ++ [.imm a] ++ cs.map AV.imm) = []:=by
  rw [show fs.map AV.imm ++ [.imm a] ++ cs.map AV.imm = (fs ++ [a] ++ cs).map AV.imm from by simp]
  exact iL_map _
theorem okCollectR (n : Nat) (kd : Int) (b : Bool) (l : Bx) (fid : FuncId) (fs cs : List D) (F : List Int → Int) (acc : List (List D)) (i : Nat) (ha : acc.length = i) (hi : i < 1000000)
    (H : callP (level E (n+1)) fid (fs ++ [enP (plc l i)] ++ cs) = some (.int .u64 (F (plc l i)))) :
    (level E (n+2)).round (CoSt kd b l (.fn fid fs cs) acc) [.int .i64 (i : Int),enP (plc l i)] = some (CoSt kd b l (.fn fid fs cs) (acc ++ [ub (F (plc l i))]),true):=by
  obtain ⟨x,y,z,hp⟩ : ∃ x y z,plc l i = [x,y,z]:=by
    match hh : plc l i,plc_len l i with
    | [x,y,z],_ => exact ⟨x,y,z,rfl⟩
  rw [hp] at H ⊢
  have e1 : (acc.length + 1) * 9 ≤ 70368744177664:=by omega
  simp only [enP,List.map_cons,List.map_nil] at H
  rcases acc with _ | ⟨w,acc⟩
  · unfold CoSt
    dsimp only
    rw [round_go rfl]
    simp only [CoV,enP,z4]
    simp only [go_sem,Nat.reduceAdd,Nat.reduceSub,Nat.reduceMul,Nat.reduceDiv,Nat.reduceMod,Nat.reduceLeDiff,Nat.reduceLT,Nat.reduceBEq,Int.reduceToNat,Int.reduceLT,Int.reduceLE,Int.reduceEq,dL_cat,iL_cat,H]
  · simp only [List.length_cons] at e1
    unfold CoSt
    dsimp only
    rw [round_go rfl]
    simp only [CoV,enP,z4]
    simp only [go_sem,Nat.reduceAdd,Nat.reduceSub,Nat.reduceMul,Nat.reduceDiv,Nat.reduceMod,Nat.reduceLeDiff,Nat.reduceLT,Nat.reduceBEq,Int.reduceToNat,Int.reduceLT,Int.reduceLE,Int.reduceEq,e1,dL_cat,iL_cat,H]
def mkIm (kd : Int) (l : Bx) (N : Nat) (F : List Int → Int) : Im:=⟨kd,false,l,true,strides 1 l,true,(List.range N).map fun i => F (plc l i)⟩
theorem okCollect (n : Nat) (kd : Int) (b : Bool) (l : Bx) (fid : FuncId) (fs cs : List D) (F : List Int → Int) (h1 : 1 ≤ l.length) (h3 : l.length ≤ 3) (N : Nat) (hN : many l = N) (hN2 : N < 1000000)
    (H : ∀ i,i < N → callP (level E (n+1)) fid (fs ++ [enP (plc l i)] ++ cs) = some (.int .u64 (F (plc l i)))) :
    callP (level E (n+4)) 86 [.int .i64 kd,enB b l,.fn fid fs cs] = some (enIm (mkIm kd l N F)):=by
  rw [p86]
  have a1:=okAll (n+2) b l
  have c1:=okCloneB (n+2) b l (by omega)
  have d1:=okDense (n+2) b l (by omega)
  have h:=okAll1 (n+1) b l h3 N hN (by omega) (CoSt kd b l (.fn fid fs cs)) (fun a i => a.length = i) (fun a i => .inl (a ++ [ub (F (plc l i))])) [] rfl
    (fun a i hI hi => ⟨okCollectR n kd b l fid fs cs F a i hI (by omega) (H i hi),fun a' ha => by injection ha with ha; subst ha; simp [hI]⟩)
  rw [runL_fold,fold_snoc,List.nil_append] at h
  have e1 : clV b 2 (l.map enR) = .ref 0 2 0 l.length:=by
    rcases l with _ | ⟨x,t⟩
    · simp at h1
    · cases b <;> simp [clV]
  have e2 : clO 2 (l.map enR) = [.arr 2 (l.map enR)]:=by
    rcases l with _ | ⟨x,t⟩
    · simp at h1
    · simp [clO]
  have e3 : flatDLL (l.map enR) = true:=by
    clear h h1 h3 hN H c1 d1 a1 e1 e2
    induction l with
    | nil => rfl
    | cons x t ih => simp only [go_sem,Nat.reduceAdd,Nat.reduceSub,Nat.reduceMul,Nat.reduceDiv,Nat.reduceMod,Nat.reduceLeDiff,Nat.reduceLT,Nat.reduceBEq,Int.reduceToNat,Int.reduceLT,Int.reduceLE,Int.reduceEq,ih]
  rw [e1,e2] at c1
  simp only [go_sem,Nat.reduceAdd,Nat.reduceSub,Nat.reduceMul,Nat.reduceDiv,Nat.reduceMod,Nat.reduceLeDiff,Nat.reduceLT,Nat.reduceBEq,Int.reduceToNat,Int.reduceLT,Int.reduceLE,Int.reduceEq,c1,d1,e3,a1]
  simp only [CoSt,CoV,z4] at h
  rw [h]
  have e4 : (List.range N).map (fun i => ub (F (plc l i))) = ((List.range N).map fun i => F (plc l i)).map ub:=by simp
  rw [e4]
  cases hq : (List.range N).map (fun i => F (plc l i)) with
  | nil => simp only [go_sem,Nat.reduceAdd,Nat.reduceSub,Nat.reduceMul,Nat.reduceDiv,Nat.reduceMod,Nat.reduceLeDiff,Nat.reduceLT,Nat.reduceBEq,Int.reduceToNat,Int.reduceLT,Int.reduceLE,Int.reduceEq,CoSt,CoV,z4,enIm,mkIm,hq] <;> rfl
  | cons w t => simp only [go_sem,Nat.reduceAdd,Nat.reduceSub,Nat.reduceMul,Nat.reduceDiv,Nat.reduceMod,Nat.reduceLeDiff,Nat.reduceLT,Nat.reduceBEq,Int.reduceToNat,Int.reduceLT,Int.reduceLE,Int.reduceEq,CoSt,CoV,z4,enIm,mkIm,hq] <;> rfl
end Go.Vm.P4Z

/- Chapter 04,functions: Crop,Delete,Insert,Slice. -/
set_option maxRecDepth 100000
set_option maxHeartbeats 4000000
namespace Go.Vm.P4Z
open Go Go.Vm Go.Vm.P4
theorem okEqualB (n : Nat) (b c : Bool) (l : Bx) (hl : l.length < 1000000000) : callP (level E (n+1)) 87 [enB b l,enB c l] = some (.bool true):=by
  rw [p87]
  simp only [go_sem,Nat.reduceAdd,Nat.reduceSub,Nat.reduceMul,Nat.reduceDiv,Nat.reduceMod,Nat.reduceLeDiff,Nat.reduceLT,Nat.reduceBEq,Int.reduceToNat,Int.reduceLT,Int.reduceLE,Int.reduceEq,ne_eq,not_true_eq_false]
  have h:=loop_fold (f:=aCode (level E (n)) ⟨0,false⟩ b87_0) (h:=head ⟨0,false⟩ [1,1,0,0,0,1,1,0,0]) (Φ:=outC ⟨0,false⟩ [0,0,1,0,0,0,0,0,0]) l (fun (a : Unit) i => ⟨[.imm (slD b 2 (l.map enR)),.imm (slD c 2 (l.map enR)),.junk,.junk,.junk,.imm (.int .i64 l.length),.imm (.int .i64 i),.junk,.junk],[],none⟩) (fun _ _ => True)
    (fun a x => ()) (fun a => some (.exit 0,⟨[.junk,.junk,.junk,.junk,.junk,.junk,.junk,.junk,.junk],[],none⟩)) () trivial
    (fun a i x hI h2 h1 => by
      refine ⟨?_,trivial⟩
      rw [rnd_eq]
      simp only [go_sem,Nat.reduceAdd,Nat.reduceSub,Nat.reduceMul,Nat.reduceDiv,Nat.reduceMod,Nat.reduceLeDiff,Nat.reduceLT,Nat.reduceBEq,Int.reduceToNat,Int.reduceLT,Int.reduceLE,Int.reduceEq,lt_t h2,h1,aEq,eqL,eqE,intEq,beq_self_eq_true]
      rw [wrpS (by omega)])
    (fun a _ => by
      rw [rnd_eq]
      simp only [go_sem,Nat.reduceAdd,Nat.reduceSub,Nat.reduceMul,Nat.reduceDiv,Nat.reduceMod,Nat.reduceLeDiff,Nat.reduceLT,Nat.reduceBEq,Int.reduceToNat,Int.reduceLT,Int.reduceLE,Int.reduceEq,lt_f (Nat.le_refl _)])
  rw [cast_0] at h
  rw [h]
  simp only [go_sem,Nat.reduceAdd,Nat.reduceSub,Nat.reduceMul,Nat.reduceDiv,Nat.reduceMod,Nat.reduceLeDiff,Nat.reduceLT,Nat.reduceBEq,Int.reduceToNat,Int.reduceLT,Int.reduceLE,Int.reduceEq]
def Lies (m : Im) (l : Bx) (N : Nat) (F : List Int → Int) : Prop:=∀ i,i < N → ∃ k : Nat,elt m.bx (plc l i) m.st 0 = k ∧ m.dt[k]? = some (F (plc l i))
theorem okCropS (n : Nat) (m : Im) (c : Bool) (l : Bx) (h1 : callP (level E (n+9)) 50 [enIm m] = some (.int .i64 0)) (hm : ckBox m.bx = 0) (hs : m.st.length = m.bx.length) (h2 : ckBox l = 0) (h3 : l.length = m.bx.length) (hz : List.zipWith rmeet m.bx l = l)
    (N : Nat) (hN : many l = N) (F : List Int → Int) (hF : Lies m l N F) :
    callP (level E (n+10)) 25 [enIm m,enB c l] = some (.tup [enIm (mkIm m.kd l N F),.int .i64 0]):=by
  obtain ⟨q1,q2,_,q4⟩:=ckBox0 h2
  obtain ⟨r1,r2,_,_⟩:=ckBox0 hm
  rw [p25]
  have c1:=okCheckBox (n+5) c l (by omega)
  have m1:=okMany (n+8) c l (by omega)
  have f1:=okFirstL (n+8) [[.int .i64 0],[.int .i64 0],[.int .i64 0]] [0,0,0] rfl (by simp)
  have z1:=okZipped (n+8) m.bb c m.bx l 89 rmeet (by omega) (by omega) (fun r s => okMeet (n+7) r s)
  rw [hz] at z1
  have e1:=okEqualB (n+8) true c l (by omega)
  have k1:=okCollect (n+5) m.kd c l 84 [enIm m] [] F q1 q2 N hN (by omega) (fun i hi => by
    obtain ⟨k,hk1,hk2⟩:=hF i hi
    exact okViewAt (n+4) m (plc l i) k _ (plc_len l i) r2 (by omega) hk1 hk2)
  have hw:=okWhen (n+8) false 13
  simp only [enIm] at h1 k1
  rw [h2] at c1
  simp only [fnz,if_true] at f1
  by_cases hp : many l > 0
  · simp only [go_sem,Nat.reduceAdd,Nat.reduceSub,Nat.reduceMul,Nat.reduceDiv,Nat.reduceMod,Nat.reduceLeDiff,Nat.reduceLT,Nat.reduceBEq,Int.reduceToNat,Int.reduceLT,Int.reduceLE,Int.reduceEq,enIm,h1,c1,m1,f1,h3,z1,e1,hp,hw,k1,ne_eq,not_true_eq_false,Bool.false_eq_true]
  · simp only [go_sem,Nat.reduceAdd,Nat.reduceSub,Nat.reduceMul,Nat.reduceDiv,Nat.reduceMod,Nat.reduceLeDiff,Nat.reduceLT,Nat.reduceBEq,Int.reduceToNat,Int.reduceLT,Int.reduceLE,Int.reduceEq,enIm,h1,c1,m1,f1,h3,hp,hw,k1,ne_eq,not_true_eq_false,Bool.false_eq_true]
theorem okDel20 (n : Nat) (r s : Rg) : callS (level E (n+1)) 90 [.ref 0 2 0 2,.imm (.int .i64 0),.imm (.int .i64 1)] [.arr 2 [enR r,enR s]] = some (.ref 1 2 0 1,[.dead,.arr 2 [enR s,[.int .i64 0,.int .i64 0]]]):=by
  rw [s90]
  simp only [go_sem,Nat.reduceAdd,Nat.reduceSub,Nat.reduceMul,Nat.reduceDiv,Nat.reduceMod,Nat.reduceLeDiff,Nat.reduceLT,Nat.reduceBEq,Int.reduceToNat,Int.reduceLT,Int.reduceLE,Int.reduceEq]
theorem ins_call (n : Nat) (es : List (List D)) (i : Nat) (a : D) (hi : i ≤ es.length) (hl : es.length < 1000000) : (level E (n+1)).call 93 [.ref 0 1 0 es.length,.imm (.int .i64 i),.ref 1 1 0 1] [.arr 1 es,.arr 1 [[a]]] none =
    some (.ref 2 1 0 (es.length + 1),[.dead,.arr 1 [[a]],.arr 1 (es.take i ++ [a] :: es.drop i)],none):=by
  have h1 : E.fn 93 = none:=rfl
  have h2 : E.prim 93 = some insPrim:=rfl
  have k1 : (0 : Int) ≤ (i : Int):=by omega
  have k2 : (i : Int) ≤ (es.length : Int):=by omega
  simp only [level,h1,runPrim,h2,insPrim,List.getElem?_cons_zero,List.getElem?_cons_succ,k1,k2,hl,and_self,ne_eq,Nat.zero_ne_one,not_false_eq_true,if_true,Int.toNat_natCast]
  rfl
theorem okIns (n : Nat) (es : List (List D)) (i : Nat) (a : D) (hi : i ≤ es.length) (hl : es.length < 1000000) : callS (level E (n+1)) 93 [.ref 0 1 0 es.length,.imm (.int .i64 i),.ref 1 1 0 1] [.arr 1 es,.arr 1 [[a]]] =
    some (.ref 2 1 0 (es.length + 1),[.dead,.arr 1 [[a]],.arr 1 (es.take i ++ [a] :: es.drop i)]):=by
  unfold callS
  rw [ins_call n es i a hi hl]
  simp only [go_sem,Nat.reduceAdd,Nat.reduceSub,Nat.reduceMul,Nat.reduceDiv,Nat.reduceMod,Nat.reduceLeDiff,Nat.reduceLT,Nat.reduceBEq,Int.reduceToNat,Int.reduceLT,Int.reduceLE,Int.reduceEq]
theorem okSlice_1 (n : Nat) (m : Im) (at' x y z : Int) (h3 : m.bx.length = 2) (hs : m.bx.length ≤ m.st.length) (k : Nat) (v : Int) (he : elt m.bx [at',x,0] m.st 0 = k) (hv : m.dt[k]? = some v) :
    callP (level E (n+3)) 92 ([] ++ [enP [x,y,z]] ++ [.ptr [.int .i64 m.kd,enB m.bb m.bx,slD m.tb 1 (m.st.map ic),slD m.db 1 (m.dt.map ub)],.ptr [.int .i64 0],.ptr [.int .i64 at']]) = some (.int .u64 v):=by
  show callP (level E (n+3)) 92 [enP [x,y,z],.ptr [.int .i64 m.kd,enB m.bb m.bx,slD m.tb 1 (m.st.map ic),slD m.db 1 (m.dt.map ub)],.ptr [.int .i64 0],.ptr [.int .i64 at']] = _
  rw [p92]
  have c1:=okCloneI (n+1) false [x] (by simp)
  simp only [clV,clO,slD,List.map_cons,List.map_nil,ic] at c1
  have i1:=okIns (n+1) [[.int .i64 x]] 0 (.int .i64 at') (by simp) (by simp)
  have o1:=okOf (n+1) false [at',x] (by simp)
  simp only [List.map_cons,List.map_nil,ic,slD] at o1
  have v1:=okViewAt n m [at',x,0] k v rfl (by omega) hs he hv
  have e2 : (m.bx.length : Int) = 2:=by omega
  simp only [enIm,enP,List.map_cons,List.map_nil] at v1
  have w21 : wrp .i64 (2 - 1) = 1:=by decide
  simp only [enP,go_sem,Nat.reduceAdd,Nat.reduceSub,Nat.reduceMul,Nat.reduceDiv,Nat.reduceMod,Nat.reduceLeDiff,Nat.reduceLT,Nat.reduceBEq,Int.reduceToNat,Int.reduceLT,Int.reduceLE,Int.reduceEq] at o1
  simp only [go_sem,Nat.reduceAdd,Nat.reduceSub,Nat.reduceMul,Nat.reduceDiv,Nat.reduceMod,Nat.reduceLeDiff,Nat.reduceLT,Nat.reduceBEq,Int.reduceToNat,Int.reduceLT,Int.reduceLE,Int.reduceEq] at i1
  simp only [go_sem,Nat.reduceAdd,Nat.reduceSub,Nat.reduceMul,Nat.reduceDiv,Nat.reduceMod,Nat.reduceLeDiff,Nat.reduceLT,Nat.reduceBEq,Int.reduceToNat,Int.reduceLT,Int.reduceLE,Int.reduceEq,enP,e2,w21,c1,i1,o1,v1]
theorem okSlice2 (n : Nat) (m : Im) (r s : Rg) (hb : m.bx = [r,s]) (at' : Int) (h1 : callP (level E (n+9)) 50 [enIm m] = some (.int .i64 0)) (hs : m.st.length = 2) (hk : ckBox m.bx = 0) (g1 : at' ≥ r.lo) (g2 : at' ≤ r.lo + r.ex - 1)
    (N : Nat) (hN : many [s] = N) (hN2 : N < 1000000) (F : List Int → Int) (hF : ∀ i,i < N → ∃ x y z k,plc [s] i = [x,y,z] ∧ elt m.bx [at',x,0] m.st 0 = (k : Nat) ∧ m.dt[k]? = some (F [x,y,z])) :
    callP (level E (n+10)) 27 [enIm m,.int .i64 0,.int .i64 at'] = some (.tup [enIm (mkIm m.kd [s] N F),.int .i64 0]):=by
  obtain ⟨_,_,hr,_⟩:=ckBox0 hk
  have hr0:=ckRange0 (hr r (by rw [hb]; simp))
  rw [p27]
  have f1:=okFirstL (n+8) [[.int .i64 0],[.int .i64 0],[.int .i64 0]] [0,0,0] rfl (by simp)
  simp only [fnz,if_true] at f1
  have w1:=okWhen (n+8) false 13
  have w2:=okWhen (n+8) false 3
  have i1:=okWithin (n+8) 0 0 1
  have i2:=okWithin (n+8) at' r.lo (r.lo + r.ex - 1)
  have c1:=okCloneB (n+8) m.bb [r,s] (by simp)
  have e1 : clV m.bb 2 ([r,s].map enR) = .ref 0 2 0 2:=by cases m.bb <;> rfl
  have e2 : clO 2 ([r,s].map enR) = [.arr 2 [enR r,enR s]]:=rfl
  rw [e1,e2] at c1
  have d1:=okDel20 (n+8) r s
  have k1:=okCollect (n+5) m.kd false [s] 92 [] [.ptr [.int .i64 m.kd,enB m.bb m.bx,slD m.tb 1 (m.st.map ic),slD m.db 1 (m.dt.map ub)],.ptr [.int .i64 0],.ptr [.int .i64 at']] F (by simp) (by simp) N hN hN2 (fun i hi => by
    obtain ⟨x,y,z,k,q1,q2,q3⟩:=hF i hi
    rw [q1]
    exact okSlice_1 (n+3) m at' x y z (by rw [hb]; rfl) (by rw [hb,hs]; exact Nat.le_refl _) k _ q2 q3)
  have w21 : wrp .i64 (2 - 1) = 1:=by decide
  have w01 : wrp .i64 (0 + 1) = 1:=by decide
  have w3 : wrp .i64 (r.lo + r.ex) = r.lo + r.ex:=wrp_ok (by omega)
  have w4 : wrp .i64 (r.lo + r.ex - 1) = r.lo + r.ex - 1:=wrp_ok (by omega)
  have eb : enB false [s] = .sl 2 [enR s]:=rfl
  simp only [enIm,hb,go_sem,Nat.reduceAdd,Nat.reduceSub,Nat.reduceMul,Nat.reduceDiv,Nat.reduceMod,Nat.reduceLeDiff,Nat.reduceLT,Nat.reduceBEq,Int.reduceToNat,Int.reduceLT,Int.reduceLE,Int.reduceEq,enB,slD_c] at h1 k1 c1 d1 i1 i2
  have g1' : r.lo ≤ at':=g1
  simp only [ge_iff_le,g1',g2,go_sem,Nat.reduceAdd,Nat.reduceSub,Nat.reduceMul,Nat.reduceDiv,Nat.reduceMod,Nat.reduceLeDiff,Nat.reduceLT,Nat.reduceBEq,Int.reduceToNat,Int.reduceLT,Int.reduceLE,Int.reduceEq] at i1 i2
  simp only [enIm,hb,go_sem,Nat.reduceAdd,Nat.reduceSub,Nat.reduceMul,Nat.reduceDiv,Nat.reduceMod,Nat.reduceLeDiff,Nat.reduceLT,Nat.reduceBEq,Int.reduceToNat,Int.reduceLT,Int.reduceLE,Int.reduceEq,h1,f1,w1,w2,i1,i2,c1,d1,w21,w01,w3,w4,ge_iff_le,ne_eq,not_true_eq_false,enB,slD_c,ia_sl,k1,mkIm]
  done
end Go.Vm.P4Z

/- Chapter 04,functions: Transpose (the first two dimensions of a plane). -/
set_option maxRecDepth 100000
set_option maxHeartbeats 4000000
namespace Go.Vm.P4Z
open Go Go.Vm Go.Vm.P4
theorem okTranspose_1 (n : Nat) (m : Im) (x y z : Int) (h3 : m.bx.length ≤ 3) (hs : m.bx.length ≤ m.st.length) (k : Nat) (v : Int) (he : elt m.bx [y,x,z] m.st 0 = k) (hv : m.dt[k]? = some v) :
    callP (level E (n+3)) 95 ([] ++ [enP [x,y,z]] ++ [.ptr [.int .i64 1],.ptr [.int .i64 0],.ptr [.int .i64 m.kd,enB m.bb m.bx,slD m.tb 1 (m.st.map ic),slD m.db 1 (m.dt.map ub)]]) = some (.int .u64 v):=by
  show callP (level E (n+3)) 95 [enP [x,y,z],.ptr [.int .i64 1],.ptr [.int .i64 0],.ptr [.int .i64 m.kd,enB m.bb m.bx,slD m.tb 1 (m.st.map ic),slD m.db 1 (m.dt.map ub)]] = _
  rw [p95]
  have v1:=okViewAt n m [y,x,z] k v rfl h3 hs he hv
  simp only [enIm,enP,List.map_cons,List.map_nil] at v1
  simp only [go_sem,Nat.reduceAdd,Nat.reduceSub,Nat.reduceMul,Nat.reduceDiv,Nat.reduceMod,Nat.reduceLeDiff,Nat.reduceLT,Nat.reduceBEq,Int.reduceToNat,Int.reduceLT,Int.reduceLE,Int.reduceEq,enP,v1]
  done
theorem okTranspose2 (n : Nat) (m : Im) (r s : Rg) (hb : m.bx = [r,s]) (h1 : callP (level E (n+9)) 50 [enIm m] = some (.int .i64 0)) (hs : m.st.length = 2)
    (N : Nat) (hN : many [s,r] = N) (hN2 : N < 1000000) (F : List Int → Int) (hF : ∀ i,i < N → ∃ x y z k,plc [s,r] i = [x,y,z] ∧ elt m.bx [y,x,z] m.st 0 = (k : Nat) ∧ m.dt[k]? = some (F [x,y,z])) :
    callP (level E (n+10)) 28 [enIm m,.int .i64 0,.int .i64 1] = some (.tup [enIm (mkIm m.kd [s,r] N F),.int .i64 0]):=by
  rw [p28]
  have f1:=okFirstL (n+8) [[.int .i64 0],[.int .i64 0],[.int .i64 0]] [0,0,0] rfl (by simp)
  simp only [fnz,if_true] at f1
  have w2:=okWhen (n+8) false 3
  have i1:=okWithin (n+8) 0 0 1
  have i2:=okWithin (n+8) 1 0 1
  have c1:=okCloneB (n+8) m.bb [r,s] (by simp)
  have e1 : clV m.bb 2 ([r,s].map enR) = .ref 0 2 0 2:=by cases m.bb <;> rfl
  have e2 : clO 2 ([r,s].map enR) = [.arr 2 [enR r,enR s]]:=rfl
  rw [e1,e2] at c1
  have k1:=okCollect (n+5) m.kd false [s,r] 95 [] [.ptr [.int .i64 1],.ptr [.int .i64 0],.ptr [.int .i64 m.kd,enB m.bb m.bx,slD m.tb 1 (m.st.map ic),slD m.db 1 (m.dt.map ub)]] F (by simp) (by simp) N hN hN2 (fun i hi => by
    obtain ⟨x,y,z,k,q1,q2,q3⟩:=hF i hi
    rw [q1]
    exact okTranspose_1 (n+3) m x y z (by rw [hb]; simp) (by rw [hb,hs]; exact Nat.le_refl _) k _ q2 q3)
  have w21 : wrp .i64 (2 - 1) = 1:=by decide
  simp only [enIm,hb,go_sem,Nat.reduceAdd,Nat.reduceSub,Nat.reduceMul,Nat.reduceDiv,Nat.reduceMod,Nat.reduceLeDiff,Nat.reduceLT,Nat.reduceBEq,Int.reduceToNat,Int.reduceLT,Int.reduceLE,Int.reduceEq,enB,slD_c] at h1 k1 c1 i1 i2
  simp only [ge_iff_le,go_sem,Nat.reduceAdd,Nat.reduceSub,Nat.reduceMul,Nat.reduceDiv,Nat.reduceMod,Nat.reduceLeDiff,Nat.reduceLT,Nat.reduceBEq,Int.reduceToNat,Int.reduceLT,Int.reduceLE,Int.reduceEq] at i1 i2
  simp only [enIm,hb,go_sem,Nat.reduceAdd,Nat.reduceSub,Nat.reduceMul,Nat.reduceDiv,Nat.reduceMod,Nat.reduceLeDiff,Nat.reduceLT,Nat.reduceBEq,Int.reduceToNat,Int.reduceLT,Int.reduceLE,Int.reduceEq,h1,f1,w2,i1,i2,c1,w21,ge_iff_le,ne_eq,not_true_eq_false,enB,slD_c,ia_sl,k1,mkIm]
  done
end Go.Vm.P4Z

/- Chapter 04,functions: Edge. -/
set_option maxRecDepth 100000
set_option maxHeartbeats 4000000
namespace Go.Vm.P4Z
open Go Go.Vm Go.Vm.P4
def modW (a b : Int) : Int:=(ad (a.tmod b) b).tmod b
theorem okModulo (n : Nat) (a b : Int) (hb : b ≠ 0) : callP (level E (n+1)) 154 [.int .i64 a,.int .i64 b] = some (.int .i64 (modW a b)):=by
  rw [p154]
  simp only [go_sem,Nat.reduceAdd,Nat.reduceSub,Nat.reduceMul,Nat.reduceDiv,Nat.reduceMod,Nat.reduceLeDiff,Nat.reduceLT,Nat.reduceBEq,Int.reduceToNat,Int.reduceLT,Int.reduceLE,Int.reduceEq,hb,modW,ad,ne_eq,not_false_eq_true]
def inW : Nat → Rg → Int → Int
  | 0,r,c => min (max c r.lo) (sb (ad r.lo r.ex) 1)
  | 1,r,c => ad r.lo (modW (sb c r.lo) r.ex)
  | _,r,c => ad r.lo (min (modW (sb c r.lo) (ml 2 r.ex)) (sb (sb (ml 2 r.ex) 1) (modW (sb c r.lo) (ml 2 r.ex))))
def bF : Nat → FuncId
  | 0 => 152
  | 1 => 153
  | _ => 155
theorem okBound (n : Nat) (rule : Nat) (r : Rg) (c : Int) (h1 : r.ex ≠ 0) (h2 : ml 2 r.ex ≠ 0) : callP (level E (n+2)) (bF rule) [enRD r,.int .i64 c] = some (.int .i64 (inW rule r c)):=by
  match rule with
  | 0 =>
    show callP (level E (n+2)) 152 [enRD r,.int .i64 c] = _
    rw [p152]
    simp only [go_sem,Nat.reduceAdd,Nat.reduceSub,Nat.reduceMul,Nat.reduceDiv,Nat.reduceMod,Nat.reduceLeDiff,Nat.reduceLT,Nat.reduceBEq,Int.reduceToNat,Int.reduceLT,Int.reduceLE,Int.reduceEq,inW,ad,sb]
  | 1 =>
    show callP (level E (n+2)) 153 [enRD r,.int .i64 c] = _
    rw [p153]
    have m1:=okModulo n (sb c r.lo) r.ex h1
    simp only [sb] at m1
    simp only [go_sem,Nat.reduceAdd,Nat.reduceSub,Nat.reduceMul,Nat.reduceDiv,Nat.reduceMod,Nat.reduceLeDiff,Nat.reduceLT,Nat.reduceBEq,Int.reduceToNat,Int.reduceLT,Int.reduceLE,Int.reduceEq,inW,ad,sb,m1]
  | k + 2 =>
    show callP (level E (n+2)) 155 [enRD r,.int .i64 c] = _
    rw [p155]
    have m1:=okModulo n (sb c r.lo) (ml 2 r.ex) h2
    simp only [sb,ml] at m1
    simp only [go_sem,Nat.reduceAdd,Nat.reduceSub,Nat.reduceMul,Nat.reduceDiv,Nat.reduceMod,Nat.reduceLeDiff,Nat.reduceLT,Nat.reduceBEq,Int.reduceToNat,Int.reduceLT,Int.reduceLE,Int.reduceEq,inW,ad,sb,ml,m1]
theorem okMoved (n : Nat) (b c : Bool) (rule : Nat) (hr : rule < 3) (l : Bx) (p : List Int) (h3 : l.length ≤ 3) (hp : p.length = l.length) (inn : Rg → Int → Int) (H : ∀ r ∈ l,∀ c,callP (level E n) (bF rule) [enRD r,.int .i64 c] = some (.int .i64 (inn r c))) :
    callP (level E (n+1)) 82 [enB b l,.int .i64 rule,slD c 1 (p.map ic)] = some (enP ((List.zipWith inn l p ++ [0,0,0]).take 3)):=by
  rw [p82]
  rcases l with _ | ⟨r,_ | ⟨s,_ | ⟨t,_ | ⟨u,l⟩⟩⟩⟩
  · rcases p with _ | ⟨x,p⟩
    · simp only [go_sem,Nat.reduceAdd,Nat.reduceSub,Nat.reduceMul,Nat.reduceDiv,Nat.reduceMod,Nat.reduceLeDiff,Nat.reduceLT,Nat.reduceBEq,Int.reduceToNat,Int.reduceLT,Int.reduceLE,Int.reduceEq,rnd_eq,enP,List.zipWith_nil_left]
    · simp at hp
  · rcases p with _ | ⟨x,_ | ⟨w,p⟩⟩
    · simp at hp
    · have H0:=H r (by simp) x
      match rule,hr with
      | 0,_ =>
        simp only [bF,go_sem,Nat.reduceAdd,Nat.reduceSub,Nat.reduceMul,Nat.reduceDiv,Nat.reduceMod,Nat.reduceLeDiff,Nat.reduceLT,Nat.reduceBEq,Int.reduceToNat,Int.reduceLT,Int.reduceLE,Int.reduceEq] at H0
        simp only [go_sem,Nat.reduceAdd,Nat.reduceSub,Nat.reduceMul,Nat.reduceDiv,Nat.reduceMod,Nat.reduceLeDiff,Nat.reduceLT,Nat.reduceBEq,Int.reduceToNat,Int.reduceLT,Int.reduceLE,Int.reduceEq,rnd_eq,enP,List.zipWith_cons_cons,List.zipWith_nil_left,enB,slD_c,ia_sl,H0]
      | 1,_ =>
        simp only [bF,go_sem,Nat.reduceAdd,Nat.reduceSub,Nat.reduceMul,Nat.reduceDiv,Nat.reduceMod,Nat.reduceLeDiff,Nat.reduceLT,Nat.reduceBEq,Int.reduceToNat,Int.reduceLT,Int.reduceLE,Int.reduceEq] at H0
        simp only [go_sem,Nat.reduceAdd,Nat.reduceSub,Nat.reduceMul,Nat.reduceDiv,Nat.reduceMod,Nat.reduceLeDiff,Nat.reduceLT,Nat.reduceBEq,Int.reduceToNat,Int.reduceLT,Int.reduceLE,Int.reduceEq,rnd_eq,enP,List.zipWith_cons_cons,List.zipWith_nil_left,enB,slD_c,ia_sl,H0]
      | 2,_ =>
        simp only [bF,go_sem,Nat.reduceAdd,Nat.reduceSub,Nat.reduceMul,Nat.reduceDiv,Nat.reduceMod,Nat.reduceLeDiff,Nat.reduceLT,Nat.reduceBEq,Int.reduceToNat,Int.reduceLT,Int.reduceLE,Int.reduceEq] at H0
        simp only [go_sem,Nat.reduceAdd,Nat.reduceSub,Nat.reduceMul,Nat.reduceDiv,Nat.reduceMod,Nat.reduceLeDiff,Nat.reduceLT,Nat.reduceBEq,Int.reduceToNat,Int.reduceLT,Int.reduceLE,Int.reduceEq,rnd_eq,enP,List.zipWith_cons_cons,List.zipWith_nil_left,enB,slD_c,ia_sl,H0]
    · simp at hp
  · rcases p with _ | ⟨x,_ | ⟨y,_ | ⟨w,p⟩⟩⟩
    · simp at hp
    · simp at hp
    · have H0:=H r (by simp) x
      have H1:=H s (by simp) y
      match rule,hr with
      | 0,_ =>
        simp only [bF,go_sem,Nat.reduceAdd,Nat.reduceSub,Nat.reduceMul,Nat.reduceDiv,Nat.reduceMod,Nat.reduceLeDiff,Nat.reduceLT,Nat.reduceBEq,Int.reduceToNat,Int.reduceLT,Int.reduceLE,Int.reduceEq] at H0 H1
        simp only [go_sem,Nat.reduceAdd,Nat.reduceSub,Nat.reduceMul,Nat.reduceDiv,Nat.reduceMod,Nat.reduceLeDiff,Nat.reduceLT,Nat.reduceBEq,Int.reduceToNat,Int.reduceLT,Int.reduceLE,Int.reduceEq,rnd_eq,enP,List.zipWith_cons_cons,List.zipWith_nil_left,enB,slD_c,ia_sl,H0,H1]
      | 1,_ =>
        simp only [bF,go_sem,Nat.reduceAdd,Nat.reduceSub,Nat.reduceMul,Nat.reduceDiv,Nat.reduceMod,Nat.reduceLeDiff,Nat.reduceLT,Nat.reduceBEq,Int.reduceToNat,Int.reduceLT,Int.reduceLE,Int.reduceEq] at H0 H1
        simp only [go_sem,Nat.reduceAdd,Nat.reduceSub,Nat.reduceMul,Nat.reduceDiv,Nat.reduceMod,Nat.reduceLeDiff,Nat.reduceLT,Nat.reduceBEq,Int.reduceToNat,Int.reduceLT,Int.reduceLE,Int.reduceEq,rnd_eq,enP,List.zipWith_cons_cons,List.zipWith_nil_left,enB,slD_c,ia_sl,H0,H1]
      | 2,_ =>
        simp only [bF,go_sem,Nat.reduceAdd,Nat.reduceSub,Nat.reduceMul,Nat.reduceDiv,Nat.reduceMod,Nat.reduceLeDiff,Nat.reduceLT,Nat.reduceBEq,Int.reduceToNat,Int.reduceLT,Int.reduceLE,Int.reduceEq] at H0 H1
        simp only [go_sem,Nat.reduceAdd,Nat.reduceSub,Nat.reduceMul,Nat.reduceDiv,Nat.reduceMod,Nat.reduceLeDiff,Nat.reduceLT,Nat.reduceBEq,Int.reduceToNat,Int.reduceLT,Int.reduceLE,Int.reduceEq,rnd_eq,enP,List.zipWith_cons_cons,List.zipWith_nil_left,enB,slD_c,ia_sl,H0,H1]
    · simp at hp
  · rcases p with _ | ⟨x,_ | ⟨y,_ | ⟨z,_ | ⟨w,p⟩⟩⟩⟩
    · simp at hp
    · simp at hp
    · simp at hp
    · have H0:=H r (by simp) x
      have H1:=H s (by simp) y
      have H2:=H t (by simp) z
      match rule,hr with
      | 0,_ =>
        simp only [bF,go_sem,Nat.reduceAdd,Nat.reduceSub,Nat.reduceMul,Nat.reduceDiv,Nat.reduceMod,Nat.reduceLeDiff,Nat.reduceLT,Nat.reduceBEq,Int.reduceToNat,Int.reduceLT,Int.reduceLE,Int.reduceEq] at H0 H1 H2
        simp only [go_sem,Nat.reduceAdd,Nat.reduceSub,Nat.reduceMul,Nat.reduceDiv,Nat.reduceMod,Nat.reduceLeDiff,Nat.reduceLT,Nat.reduceBEq,Int.reduceToNat,Int.reduceLT,Int.reduceLE,Int.reduceEq,rnd_eq,enP,List.zipWith_cons_cons,List.zipWith_nil_left,enB,slD_c,ia_sl,H0,H1,H2]
      | 1,_ =>
        simp only [bF,go_sem,Nat.reduceAdd,Nat.reduceSub,Nat.reduceMul,Nat.reduceDiv,Nat.reduceMod,Nat.reduceLeDiff,Nat.reduceLT,Nat.reduceBEq,Int.reduceToNat,Int.reduceLT,Int.reduceLE,Int.reduceEq] at H0 H1 H2
        simp only [go_sem,Nat.reduceAdd,Nat.reduceSub,Nat.reduceMul,Nat.reduceDiv,Nat.reduceMod,Nat.reduceLeDiff,Nat.reduceLT,Nat.reduceBEq,Int.reduceToNat,Int.reduceLT,Int.reduceLE,Int.reduceEq,rnd_eq,enP,List.zipWith_cons_cons,List.zipWith_nil_left,enB,slD_c,ia_sl,H0,H1,H2]
      | 2,_ =>
        simp only [bF,go_sem,Nat.reduceAdd,Nat.reduceSub,Nat.reduceMul,Nat.reduceDiv,Nat.reduceMod,Nat.reduceLeDiff,Nat.reduceLT,Nat.reduceBEq,Int.reduceToNat,Int.reduceLT,Int.reduceLE,Int.reduceEq] at H0 H1 H2
        simp only [go_sem,Nat.reduceAdd,Nat.reduceSub,Nat.reduceMul,Nat.reduceDiv,Nat.reduceMod,Nat.reduceLeDiff,Nat.reduceLT,Nat.reduceBEq,Int.reduceToNat,Int.reduceLT,Int.reduceLE,Int.reduceEq,rnd_eq,enP,List.zipWith_cons_cons,List.zipWith_nil_left,enB,slD_c,ia_sl,H0,H1,H2]
    · simp at hp
  · simp at h3
theorem okEdge_1 (n : Nat) (x : Int) : callP (level E (n+2)) 79 [.int .i64 x] = some (.bool (!(decide (x ≥ -1048576) && decide (x ≤ 1048576)))):=by
  rw [p79]
  have h1:=okWithin n x (-1048576) 1048576
  simp only [go_sem,Nat.reduceAdd,Nat.reduceSub,Nat.reduceMul,Nat.reduceDiv,Nat.reduceMod,Nat.reduceLeDiff,Nat.reduceLT,Nat.reduceBEq,Int.reduceToNat,Int.reduceLT,Int.reduceLE,Int.reduceEq,h1]
def farB (x : Int) : Bool:=!(decide (x ≥ -1048576) && decide (x ≤ 1048576))
theorem okEdgeS (n : Nat) (m : Im) (c : Bool) (p : List Int) (rule : Nat) (hr : rule < 3) (ko vo : Int) (h1 : callP (level E (n+9)) 50 [enIm m] = some (.int .i64 0)) (hm : ckBox m.bx = 0) (hs : m.st.length = m.bx.length) (hp : p.length = m.bx.length) (hf : p.any farB = false) (hmn : many m.bx ≠ 0) (hx : ∀ r ∈ m.bx,r.ex ≠ 0 ∧ ml 2 r.ex ≠ 0)
    (k : Nat) (v : Int) (he : elt m.bx ((List.zipWith (inW rule) m.bx p ++ [0,0,0]).take 3) m.st 0 = k) (hv : m.dt[k]? = some v) :
    callP (level E (n+10)) 19 [enIm m,.int .i64 rule,slD c 1 (p.map ic),.agg [.int .i64 ko,.int .u64 vo]] = some (.tup [.agg [.int .i64 m.kd,.int .u64 v],.int .i64 0]):=by
  obtain ⟨_,r2,_,_⟩:=ckBox0 hm
  rw [p19]
  have f1:=okFirstL (n+8) [[.int .i64 0],[.int .i64 0],[.int .i64 0]] [0,0,0] rfl (by simp)
  simp only [fnz,if_true] at f1
  have w1:=okWhen (n+8) false 11
  have w2:=okWhen (n+8) false 13
  have i1:=okWithin (n+8) rule 0 3
  have g1 : decide ((rule : Int) ≥ 0) = true:=by simp
  have g2 : decide ((rule : Int) ≤ 3) = true:=by simp; omega
  rw [g1,g2] at i1
  have c1:=okContains (n+7) c p 79 farB (by omega) (fun x _ => okEdge_1 (n+5) x)
  rw [hf] at c1
  have m1:=okMany (n+8) m.bb m.bx (by omega)
  have mv:=okMoved (n+8) m.bb c rule hr m.bx p r2 hp (inW rule) (fun r hr' x => okBound (n+6) rule r x (hx r hr').1 (hx r hr').2)
  have v1:=okViewAt (n+7) m ((List.zipWith (inW rule) m.bx p ++ [0,0,0]).take 3) k v (by simp) r2 (by omega) he hv
  have hr3 : ¬ (rule : Int) = 3:=by omega
  simp only [enIm] at h1 v1
  obtain ⟨x,y,z,hq⟩ : ∃ x y z,(List.zipWith (inW rule) m.bx p ++ [0,0,0]).take 3 = [x,y,z]:=by
    match hh : (List.zipWith (inW rule) m.bx p ++ [0,0,0]).take 3,(show ((List.zipWith (inW rule) m.bx p ++ [0,0,0]).take 3).length = 3 from by simp) with
    | [x,y,z],_ => exact ⟨x,y,z,rfl⟩
  rw [hq] at mv v1
  simp only [enP,List.map_cons,List.map_nil] at mv v1
  simp only [go_sem,Nat.reduceAdd,Nat.reduceSub,Nat.reduceMul,Nat.reduceDiv,Nat.reduceMod,Nat.reduceLeDiff,Nat.reduceLT,Nat.reduceBEq,Int.reduceToNat,Int.reduceLT,Int.reduceLE,Int.reduceEq,enIm,h1,f1,w1,w2,i1,c1,hp,m1,hmn,hr3,mv,v1,ne_eq,not_true_eq_false]
end Go.Vm.P4Z

/- Chapter 04,functions: the bytes of an image. -/
set_option maxRecDepth 100000
set_option maxHeartbeats 4000000
namespace Go.Vm.P4Z
open Go Go.Vm Go.Vm.P4
def u8 (b : Int) : List D:=[.int .u8 b]
attribute [go_sem] u8
def leB : Nat → Int → List Int
  | 0,_ => []
  | k + 1,v => wrp .u8 v :: leB k (v.fdiv 256)
theorem p256 : (2 : Int) ^ min (8 : Int).toNat IntKind.u64.bits = 256:=by decide
theorem sh8 (v : Int) : aBin .shr (.imm (.int .u64 v)) (.imm (.int .u64 8)) = some (.imm (.int .u64 (v.fdiv 256))):=by
  rw [bin_shr (by decide),p256]
theorem okLittle1 (n : Nat) (es : List (List D)) (v : Int) (h : es.length < 1000000) : callS (level E (n+1)) 112 [.ref 0 1 0 es.length,.imm (.int .u64 v),.imm (.int .i64 1)] [.arr 1 es] = some (.ref 1 1 0 (es.length + 1),[.dead,.arr 1 (es ++ (leB 1 v).map u8)]):=by
  rw [s112]
  have e1 : (es.length + 1) * 2 ≤ 70368744177664:=by omega
  simp only [go_sem,Nat.reduceAdd,Nat.reduceSub,Nat.reduceMul,Nat.reduceDiv,Nat.reduceMod,Nat.reduceLeDiff,Nat.reduceLT,Nat.reduceBEq,Int.reduceToNat,Int.reduceLT,Int.reduceLE,Int.reduceEq,rnd_eq,e1,leB,sh8,List.append_assoc]
theorem okLittle2 (n : Nat) (es : List (List D)) (v : Int) (h : es.length < 1000000) : callS (level E (n+1)) 112 [.ref 0 1 0 es.length,.imm (.int .u64 v),.imm (.int .i64 2)] [.arr 1 es] = some (.ref 1 1 0 (es.length + 2),[.dead,.arr 1 (es ++ (leB 2 v).map u8)]):=by
  rw [s112]
  have e1 : (es.length + 1) * 2 ≤ 70368744177664:=by omega
  have e2 : (es.length + 2) * 2 ≤ 70368744177664:=by omega
  simp only [go_sem,Nat.reduceAdd,Nat.reduceSub,Nat.reduceMul,Nat.reduceDiv,Nat.reduceMod,Nat.reduceLeDiff,Nat.reduceLT,Nat.reduceBEq,Int.reduceToNat,Int.reduceLT,Int.reduceLE,Int.reduceEq,rnd_eq,e1,e2,leB,sh8,List.append_assoc]
theorem okLittle4 (n : Nat) (es : List (List D)) (v : Int) (h : es.length < 1000000) : callS (level E (n+1)) 112 [.ref 0 1 0 es.length,.imm (.int .u64 v),.imm (.int .i64 4)] [.arr 1 es] = some (.ref 1 1 0 (es.length + 4),[.dead,.arr 1 (es ++ (leB 4 v).map u8)]):=by
  rw [s112]
  have e1 : (es.length + 1) * 2 ≤ 70368744177664:=by omega
  have e2 : (es.length + 2) * 2 ≤ 70368744177664:=by omega
  have e3 : (es.length + 3) * 2 ≤ 70368744177664:=by omega
  have e4 : (es.length + 4) * 2 ≤ 70368744177664:=by omega
  simp only [go_sem,Nat.reduceAdd,Nat.reduceSub,Nat.reduceMul,Nat.reduceDiv,Nat.reduceMod,Nat.reduceLeDiff,Nat.reduceLT,Nat.reduceBEq,Int.reduceToNat,Int.reduceLT,Int.reduceLE,Int.reduceEq,rnd_eq,e1,e2,e3,e4,leB,sh8,List.append_assoc]
theorem okLittle8 (n : Nat) (es : List (List D)) (v : Int) (h : es.length < 1000000) : callS (level E (n+1)) 112 [.ref 0 1 0 es.length,.imm (.int .u64 v),.imm (.int .i64 8)] [.arr 1 es] = some (.ref 1 1 0 (es.length + 8),[.dead,.arr 1 (es ++ (leB 8 v).map u8)]):=by
  rw [s112]
  have e1 : (es.length + 1) * 2 ≤ 70368744177664:=by omega
  have e2 : (es.length + 2) * 2 ≤ 70368744177664:=by omega
  have e3 : (es.length + 3) * 2 ≤ 70368744177664:=by omega
  have e4 : (es.length + 4) * 2 ≤ 70368744177664:=by omega
  have e5 : (es.length + 5) * 2 ≤ 70368744177664:=by omega
  have e6 : (es.length + 6) * 2 ≤ 70368744177664:=by omega
  have e7 : (es.length + 7) * 2 ≤ 70368744177664:=by omega
  have e8 : (es.length + 8) * 2 ≤ 70368744177664:=by omega
  simp only [go_sem,Nat.reduceAdd,Nat.reduceSub,Nat.reduceMul,Nat.reduceDiv,Nat.reduceMod,Nat.reduceLeDiff,Nat.reduceLT,Nat.reduceBEq,Int.reduceToNat,Int.reduceLT,Int.reduceLE,Int.reduceEq,rnd_eq,e1,e2,e3,e4,e5,e6,e7,e8,leB,sh8,List.append_assoc]
end Go.Vm.P4Z

/- Chapter 04,functions: the bytes of an image,continued. -/
set_option maxRecDepth 100000
set_option maxHeartbeats 4000000
namespace Go.Vm.P4Z
open Go Go.Vm Go.Vm.P4
def cellsIm (m : Im) : List D:=[.int .i64 m.kd,enB m.bb m.bx,slD m.tb 1 (m.st.map ic),slD m.db 1 (m.dt.map ub)]
def rgB (r : Rg) : List Int:=leB 4 (wrp .u64 r.lo) ++ leB 2 (wrp .u64 r.ex)
theorem rgB_len (r : Rg) : (rgB r).length = 6:=rfl
theorem byLoop (n : Nat) (m : Im) (h3 : m.bx.length ≤ 3) (acc : List (List D)) (ha : acc.length = 2) :
    outC ⟨0,false⟩ [0,1,1,1,0,0,0,0,0,0,0,0,0] (rnd (aCode (level E (n+1)) ⟨0,false⟩ b61_0) (head ⟨0,false⟩ [0,1,1,1,0,0,1,1,1,0,0,0,0])
      ⟨[.junk,.imm .nil,.imm (.ptr (cellsIm m)),.ptr 0 0,.junk,.junk,.imm (slD m.bb 2 (m.bx.map enR)),.imm (.int .i64 m.bx.length),.imm (.int .i64 0),.junk,.junk,.junk,.junk],[.box [.ref 1 1 0 acc.length],.arr 1 acc],none⟩) =
    some (.exit 0,⟨[.junk,.imm .nil,.imm (.ptr (cellsIm m)),.ptr 0 0,.junk,.junk,.junk,.junk,.junk,.junk,.junk,.junk,.junk],[.box [.ref 1 1 0 (acc ++ (m.bx.flatMap rgB).map u8).length],.arr 1 (acc ++ (m.bx.flatMap rgB).map u8)],none⟩):=by
  have h:=loop_fold (f:=aCode (level E (n+1)) ⟨0,false⟩ b61_0) (h:=head ⟨0,false⟩ [0,1,1,1,0,0,1,1,1,0,0,0,0]) (Φ:=outC ⟨0,false⟩ [0,1,1,1,0,0,0,0,0,0,0,0,0]) m.bx (fun (a : List (List D)) i => ⟨[.junk,.imm .nil,.imm (.ptr (cellsIm m)),.ptr 0 0,.junk,.junk,.imm (slD m.bb 2 (m.bx.map enR)),.imm (.int .i64 m.bx.length),.imm (.int .i64 i),.junk,.junk,.junk,.junk],[.box [.ref 1 1 0 a.length],.arr 1 a],none⟩) (fun a i => a.length = 2 + 6 * i)
    (fun a r => a ++ (rgB r).map u8) (fun a => some (.exit 0,⟨[.junk,.imm .nil,.imm (.ptr (cellsIm m)),.ptr 0 0,.junk,.junk,.junk,.junk,.junk,.junk,.junk,.junk,.junk],[.box [.ref 1 1 0 a.length],.arr 1 a],none⟩)) acc ha
    (fun a i r hI h2 h1 => by
      refine ⟨?_,by simp [hI,rgB_len]; omega⟩
      rw [rnd_eq]
      have l4:=okLittle4 n a (wrp .u64 r.lo) (by omega)
      have l2:=okLittle2 n (a ++ (leB 4 (wrp .u64 r.lo)).map u8) (wrp .u64 r.ex) (by simp [leB]; omega)
      simp only [go_sem,Nat.reduceAdd,Nat.reduceSub,Nat.reduceMul,Nat.reduceDiv,Nat.reduceMod,Nat.reduceLeDiff,Nat.reduceLT,Nat.reduceBEq,Int.reduceToNat,Int.reduceLT,Int.reduceLE,Int.reduceEq,leB] at l4 l2
      simp only [go_sem,Nat.reduceAdd,Nat.reduceSub,Nat.reduceMul,Nat.reduceDiv,Nat.reduceMod,Nat.reduceLeDiff,Nat.reduceLT,Nat.reduceBEq,Int.reduceToNat,Int.reduceLT,Int.reduceLE,Int.reduceEq,lt_t h2,h1,cellsIm,l4,l2,rgB,leB]
      rw [wrpS (by omega)]
      simp only [List.append_assoc,List.cons_append,List.nil_append])
    (fun a _ => by
      rw [rnd_eq]
      simp only [go_sem,Nat.reduceAdd,Nat.reduceSub,Nat.reduceMul,Nat.reduceDiv,Nat.reduceMod,Nat.reduceLeDiff,Nat.reduceLT,Nat.reduceBEq,Int.reduceToNat,Int.reduceLT,Int.reduceLE,Int.reduceEq,lt_f (Nat.le_refl _),cellsIm])
  rw [cast_0] at h
  rw [h]
  have e : ∀ (l : Bx) (acc : List (List D)),l.foldl (fun a r => a ++ (rgB r).map u8) acc = acc ++ (l.flatMap rgB).map u8:=by
    intro l
    induction l with
    | nil => intro acc; simp
    | cons x l ih => intro acc; rw [List.foldl_cons,ih]; simp
  rw [e]
def ByV (m : Im) : List AV:=[.junk,.imm .nil,.imm (.ptr (cellsIm m)),.ptr 0 0,.junk,.junk,.junk,.junk,.junk,.junk,.imm (.fn 125 [] [.ptr [enB m.bb m.bx]]),.junk,.junk]
def BySt (m : Im) (acc : List (List D)) : Ext:=⟨[11,12],b61_1,b61_2,ByV m,[.box [.ref 1 1 0 acc.length],.arr 1 acc],0,none⟩
theorem byRound1 (n : Nat) (m : Im) (acc : List (List D)) (i : Nat) (v : Int) (ha : acc.length < 1000000) (hv : callP (level E (n+1)) 84 [enIm m,enP (plc m.bx i)] = some (.int .u64 v)) (hz : callP (level E (n+1)) 71 [.int .i64 m.kd] = some (.int .i64 1)) :
    (level E (n+2)).round (BySt m acc) [.int .i64 (i : Int),enP (plc m.bx i)] = some (BySt m (acc ++ (leB 1 v).map u8),true):=by
  obtain ⟨x,y,z,hp⟩ : ∃ x y z,plc m.bx i = [x,y,z]:=by
    match hh : plc m.bx i,plc_len m.bx i with
    | [x,y,z],_ => exact ⟨x,y,z,rfl⟩
  rw [hp] at hv ⊢
  have l1:=okLittle1 n acc v ha
  simp only [go_sem,Nat.reduceAdd,Nat.reduceSub,Nat.reduceMul,Nat.reduceDiv,Nat.reduceMod,Nat.reduceLeDiff,Nat.reduceLT,Nat.reduceBEq,Int.reduceToNat,Int.reduceLT,Int.reduceLE,Int.reduceEq,leB] at l1
  simp only [enIm,enP,List.map_cons,List.map_nil] at hv
  unfold BySt
  rw [round_go rfl]
  simp only [go_sem,Nat.reduceAdd,Nat.reduceSub,Nat.reduceMul,Nat.reduceDiv,Nat.reduceMod,Nat.reduceLeDiff,Nat.reduceLT,Nat.reduceBEq,Int.reduceToNat,Int.reduceLT,Int.reduceLE,Int.reduceEq,ByV,cellsIm,enP,hv,hz,l1,leB,enIm]
  done
end Go.Vm.P4Z

/- Chapter 04,functions: Encode (elements of a byte). -/
set_option maxRecDepth 100000
set_option maxHeartbeats 4000000
namespace Go.Vm.P4Z
open Go Go.Vm Go.Vm.P4
theorem okWidth8 (n : Nat) : callP (level E (n+2)) 117 [.int .i64 1] = some (.tup [.int .i64 8,.int .i64 0]):=by
  rw [p117]
  have h1:=okIsKind n 1
  simp only [go_sem,Nat.reduceAdd,Nat.reduceSub,Nat.reduceMul,Nat.reduceDiv,Nat.reduceMod,Nat.reduceLeDiff,Nat.reduceLT,Nat.reduceBEq,Int.reduceToNat,Int.reduceLT,Int.reduceLE,Int.reduceEq] at h1
  simp only [go_sem,Nat.reduceAdd,Nat.reduceSub,Nat.reduceMul,Nat.reduceDiv,Nat.reduceMod,Nat.reduceLeDiff,Nat.reduceLT,Nat.reduceBEq,Int.reduceToNat,Int.reduceLT,Int.reduceLE,Int.reduceEq,h1]
theorem okSize8 (n : Nat) : callP (level E (n+3)) 71 [.int .i64 1] = some (.int .i64 1):=by
  rw [p71]
  have h1:=okWidth8 n
  have w8 : wrp .i64 (8 * 1) = 8:=by decide
  simp only [go_sem,Nat.reduceAdd,Nat.reduceSub,Nat.reduceMul,Nat.reduceDiv,Nat.reduceMod,Nat.reduceLeDiff,Nat.reduceLT,Nat.reduceBEq,Int.reduceToNat,Int.reduceLT,Int.reduceLE,Int.reduceEq,h1,rnd_eq,w8]
def byIm1 (m : Im) (N : Nat) (F : List Int → Int) : List Int:=[wrp .u8 m.kd,wrp .u8 m.bx.length] ++ m.bx.flatMap rgB ++ (List.range N).flatMap (fun i => leB 1 (F (plc m.bx i)))
theorem fold_app {α β : Type} (f : α → List β) : ∀ (l : List α) (acc : List β),l.foldl (fun a x => a ++ f x) acc = acc ++ l.flatMap f
  | [],acc => by simp
  | x :: l,acc => by simp only [List.foldl_cons,fold_app f l,List.flatMap_cons,List.append_assoc]
theorem okBytes1 (n : Nat) (m : Im) (h1 : m.bx.length ≤ 3) (hs : m.bx.length ≤ m.st.length) (hk : m.kd = 1) (N : Nat) (hN : many m.bx = N) (hN2 : N < 100000) (F : List Int → Int) (hF : Lies m m.bx N F) :
    callP (level E (n+8)) 61 [enIm m] = some (.sl 1 ((byIm1 m N F).map u8)):=by
  rw [p61]
  have b1:=byLoop (n+6) m h1 [[.int .u8 (wrp .u8 m.kd)],[.int .u8 (wrp .u8 m.bx.length)]] rfl
  have a1:=okAll (n+6) m.bb m.bx
  have h:=okAll1 (n+5) m.bb m.bx h1 N hN (by omega) (BySt m) (fun a i => a.length = 2 + 6 * m.bx.length + i) (fun a i => .inl (a ++ (leB 1 (F (plc m.bx i))).map u8)) ([[.int .u8 (wrp .u8 m.kd)],[.int .u8 (wrp .u8 m.bx.length)]] ++ (m.bx.flatMap rgB).map u8)
    (by
      have e : ∀ l : Bx,(l.flatMap rgB).length = 6 * l.length:=by
        intro l
        induction l with
        | nil => rfl
        | cons x l ih => rw [List.flatMap_cons,List.length_append,ih,rgB_len,List.length_cons]; omega
      simp [e]; omega)
    (fun a i hI hi => ⟨by
      obtain ⟨k,q1,q2⟩:=hF i hi
      exact byRound1 (n+4) m a i (F (plc m.bx i)) (by omega) (okViewAt (n+3) m (plc m.bx i) k _ (plc_len _ _) h1 hs q1 q2) (by rw [hk]; exact okSize8 (n+2)),fun a' ha => by injection ha with ha; subst ha; simp [hI,leB]; omega⟩)
  rw [runL_fold,fold_app] at h
  simp only [go_sem,Nat.reduceAdd,Nat.reduceSub,Nat.reduceMul,Nat.reduceDiv,Nat.reduceMod,Nat.reduceLeDiff,Nat.reduceLT,Nat.reduceBEq,Int.reduceToNat,Int.reduceLT,Int.reduceLE,Int.reduceEq,cellsIm] at b1
  simp only [go_sem,Nat.reduceAdd,Nat.reduceSub,Nat.reduceMul,Nat.reduceDiv,Nat.reduceMod,Nat.reduceLeDiff,Nat.reduceLT,Nat.reduceBEq,Int.reduceToNat,Int.reduceLT,Int.reduceLE,Int.reduceEq,enIm,b1,a1]
  simp only [go_sem,Nat.reduceAdd,Nat.reduceSub,Nat.reduceMul,Nat.reduceDiv,Nat.reduceMod,Nat.reduceLeDiff,Nat.reduceLT,Nat.reduceBEq,Int.reduceToNat,Int.reduceLT,Int.reduceLE,Int.reduceEq,BySt,ByV,cellsIm] at h
  rw [h]
  simp only [go_sem,Nat.reduceAdd,Nat.reduceSub,Nat.reduceMul,Nat.reduceDiv,Nat.reduceMod,Nat.reduceLeDiff,Nat.reduceLT,Nat.reduceBEq,Int.reduceToNat,Int.reduceLT,Int.reduceLE,Int.reduceEq]
  simp [byIm1,List.map_flatMap,u8]
theorem okEncode1 (n : Nat) (m : Im) (hc : callP (level E (n+9)) 50 [enIm m] = some (.int .i64 0)) (h1 : m.bx.length ≤ 3) (hs : m.bx.length ≤ m.st.length) (hk : m.kd = 1) (N : Nat) (hN : many m.bx = N) (hN2 : N < 100000) (F : List Int → Int) (hF : Lies m m.bx N F) :
    callP (level E (n+10)) 9 [enIm m] = some (.tup [.sl 1 ((byIm1 m N F).map u8),.int .i64 0]):=by
  rw [p9]
  have b1:=okBytes1 (n+1) m h1 hs hk N hN hN2 F hF
  simp only [enIm] at hc b1
  simp only [go_sem,Nat.reduceAdd,Nat.reduceSub,Nat.reduceMul,Nat.reduceDiv,Nat.reduceMod,Nat.reduceLeDiff,Nat.reduceLT,Nat.reduceBEq,Int.reduceToNat,Int.reduceLT,Int.reduceLE,Int.reduceEq,enIm,hc,b1,ne_eq,not_true_eq_false]
theorem okSameInts (n : Nat) (b c : Bool) (l : List Int) (hl : l.length < 1000000000) : callP (level E (n+1)) 58 [slD b 1 (l.map ic),slD c 1 (l.map ic)] = some (.bool true):=by
  rw [p58]
  simp only [go_sem,Nat.reduceAdd,Nat.reduceSub,Nat.reduceMul,Nat.reduceDiv,Nat.reduceMod,Nat.reduceLeDiff,Nat.reduceLT,Nat.reduceBEq,Int.reduceToNat,Int.reduceLT,Int.reduceLE,Int.reduceEq,ne_eq,not_true_eq_false]
  have h:=loop_fold (f:=aCode (level E (n)) ⟨0,false⟩ b58_0) (h:=head ⟨0,false⟩ [1,1,0,1,0,0,0]) (Φ:=outC ⟨0,false⟩ [0,0,1,0,0,0,0]) l (fun (a : Unit) i => ⟨[.imm (slD b 1 (l.map ic)),.imm (slD c 1 (l.map ic)),.junk,.imm (.int .i64 i),.junk,.junk,.junk],[],none⟩) (fun _ _ => True)
    (fun a x => ()) (fun a => some (.exit 0,⟨[.junk,.junk,.junk,.junk,.junk,.junk,.junk],[],none⟩)) () trivial
    (fun a i x hI h2 h1 => by
      refine ⟨?_,trivial⟩
      rw [rnd_eq]
      simp only [go_sem,Nat.reduceAdd,Nat.reduceSub,Nat.reduceMul,Nat.reduceDiv,Nat.reduceMod,Nat.reduceLeDiff,Nat.reduceLT,Nat.reduceBEq,Int.reduceToNat,Int.reduceLT,Int.reduceLE,Int.reduceEq,lt_t h2,h1,ne_eq,not_true_eq_false]
      rw [wrpS (by omega)])
    (fun a _ => by
      rw [rnd_eq]
      simp only [go_sem,Nat.reduceAdd,Nat.reduceSub,Nat.reduceMul,Nat.reduceDiv,Nat.reduceMod,Nat.reduceLeDiff,Nat.reduceLT,Nat.reduceBEq,Int.reduceToNat,Int.reduceLT,Int.reduceLE,Int.reduceEq,lt_f (Nat.le_refl _)])
  rw [cast_0] at h
  rw [h]
  simp only [go_sem,Nat.reduceAdd,Nat.reduceSub,Nat.reduceMul,Nat.reduceDiv,Nat.reduceMod,Nat.reduceLeDiff,Nat.reduceLT,Nat.reduceBEq,Int.reduceToNat,Int.reduceLT,Int.reduceLE,Int.reduceEq]
theorem okSameBits (n : Nat) (b c : Bool) (l : List Int) (hl : l.length < 1000000000) : callP (level E (n+1)) 60 [slD b 1 (l.map ub),slD c 1 (l.map ub)] = some (.bool true):=by
  rw [p60]
  simp only [go_sem,Nat.reduceAdd,Nat.reduceSub,Nat.reduceMul,Nat.reduceDiv,Nat.reduceMod,Nat.reduceLeDiff,Nat.reduceLT,Nat.reduceBEq,Int.reduceToNat,Int.reduceLT,Int.reduceLE,Int.reduceEq,ne_eq,not_true_eq_false]
  have h:=loop_fold (f:=aCode (level E (n)) ⟨0,false⟩ b60_0) (h:=head ⟨0,false⟩ [1,1,0,1,0,0,0]) (Φ:=outC ⟨0,false⟩ [0,0,1,0,0,0,0]) l (fun (a : Unit) i => ⟨[.imm (slD b 1 (l.map ub)),.imm (slD c 1 (l.map ub)),.junk,.imm (.int .i64 i),.junk,.junk,.junk],[],none⟩) (fun _ _ => True)
    (fun a x => ()) (fun a => some (.exit 0,⟨[.junk,.junk,.junk,.junk,.junk,.junk,.junk],[],none⟩)) () trivial
    (fun a i x hI h2 h1 => by
      refine ⟨?_,trivial⟩
      rw [rnd_eq]
      simp only [go_sem,Nat.reduceAdd,Nat.reduceSub,Nat.reduceMul,Nat.reduceDiv,Nat.reduceMod,Nat.reduceLeDiff,Nat.reduceLT,Nat.reduceBEq,Int.reduceToNat,Int.reduceLT,Int.reduceLE,Int.reduceEq,lt_t h2,h1,ne_eq,not_true_eq_false]
      rw [wrpS (by omega)])
    (fun a _ => by
      rw [rnd_eq]
      simp only [go_sem,Nat.reduceAdd,Nat.reduceSub,Nat.reduceMul,Nat.reduceDiv,Nat.reduceMod,Nat.reduceLeDiff,Nat.reduceLT,Nat.reduceBEq,Int.reduceToNat,Int.reduceLT,Int.reduceLE,Int.reduceEq,lt_f (Nat.le_refl _)])
  rw [cast_0] at h
  rw [h]
  simp only [go_sem,Nat.reduceAdd,Nat.reduceSub,Nat.reduceMul,Nat.reduceDiv,Nat.reduceMod,Nat.reduceLeDiff,Nat.reduceLT,Nat.reduceBEq,Int.reduceToNat,Int.reduceLT,Int.reduceLE,Int.reduceEq]
theorem okSameBytes (n : Nat) (b c : Bool) (l : List Int) (hl : l.length < 1000000000) : callP (level E (n+1)) 17 [slD b 1 (l.map u8),slD c 1 (l.map u8)] = some (.bool true):=by
  rw [p17]
  simp only [go_sem,Nat.reduceAdd,Nat.reduceSub,Nat.reduceMul,Nat.reduceDiv,Nat.reduceMod,Nat.reduceLeDiff,Nat.reduceLT,Nat.reduceBEq,Int.reduceToNat,Int.reduceLT,Int.reduceLE,Int.reduceEq,ne_eq,not_true_eq_false]
  have h:=loop_fold (f:=aCode (level E (n)) ⟨0,false⟩ b17_0) (h:=head ⟨0,false⟩ [1,1,0,1,0,0,0]) (Φ:=outC ⟨0,false⟩ [0,0,1,0,0,0,0]) l (fun (a : Unit) i => ⟨[.imm (slD b 1 (l.map u8)),.imm (slD c 1 (l.map u8)),.junk,.imm (.int .i64 i),.junk,.junk,.junk],[],none⟩) (fun _ _ => True)
    (fun a x => ()) (fun a => some (.exit 0,⟨[.junk,.junk,.junk,.junk,.junk,.junk,.junk],[],none⟩)) () trivial
    (fun a i x hI h2 h1 => by
      refine ⟨?_,trivial⟩
      rw [rnd_eq]
      simp only [go_sem,Nat.reduceAdd,Nat.reduceSub,Nat.reduceMul,Nat.reduceDiv,Nat.reduceMod,Nat.reduceLeDiff,Nat.reduceLT,Nat.reduceBEq,Int.reduceToNat,Int.reduceLT,Int.reduceLE,Int.reduceEq,lt_t h2,h1,ne_eq,not_true_eq_false]
      rw [wrpS (by omega)])
    (fun a _ => by
      rw [rnd_eq]
      simp only [go_sem,Nat.reduceAdd,Nat.reduceSub,Nat.reduceMul,Nat.reduceDiv,Nat.reduceMod,Nat.reduceLeDiff,Nat.reduceLT,Nat.reduceBEq,Int.reduceToNat,Int.reduceLT,Int.reduceLE,Int.reduceEq,lt_f (Nat.le_refl _)])
  rw [cast_0] at h
  rw [h]
  simp only [go_sem,Nat.reduceAdd,Nat.reduceSub,Nat.reduceMul,Nat.reduceDiv,Nat.reduceMod,Nat.reduceLeDiff,Nat.reduceLT,Nat.reduceBEq,Int.reduceToNat,Int.reduceLT,Int.reduceLE,Int.reduceEq]
end Go.Vm.P4Z

/- Chapter 04,functions: the document's examples. -/
set_option maxRecDepth 100000
set_option maxHeartbeats 8000000
namespace Go.Vm.P4Z
open Go Go.Vm Go.Vm.P4
def bx0 : Bx:=[⟨2,3⟩,⟨0,2⟩]
def ot0 : Bx:=[⟨3,2⟩,⟨1,5⟩]
def m0 : Im:=⟨1,false,bx0,false,[1,3],false,[10,20,30,40,50,60]⟩
def m1 : Im:=⟨1,false,bx0,false,[2,6],false,[0,0,0,0,0,0,0,0,0,0,0,0]⟩
def m2 : Im:=⟨1,false,bx0,false,[1,2],false,[0,0,0,0,0,0,0,0,0,0,0,0]⟩
theorem bits8_all : bits8 0 ∧ bits8 10 ∧ bits8 20 ∧ bits8 30 ∧ bits8 40 ∧ bits8 50 ∧ bits8 60:=by
  unfold bits8
  decide
theorem ck_m0 : ckIm (fun _ => 0) m0 = 0:=by decide
theorem ck_m1 : ckIm (fun _ => 0) m1 = 0:=by decide
theorem ck_m2 : ckIm (fun _ => 0) m2 = 26:=by decide
theorem b8_m0 : ∀ v ∈ m0.dt,bits8 v:=by
  obtain ⟨h0,h1,h2,h3,h4,h5,h6⟩:=bits8_all
  intro v hv
  simp only [m0,List.mem_cons,List.not_mem_nil,or_false] at hv
  rcases hv with rfl | rfl | rfl | rfl | rfl | rfl <;> assumption
theorem chk0 (n : Nat) : callP (level E (n+9)) 50 [enIm m0] = some (.int .i64 0):=by
  have h:=okCheck n m0 (fun _ => 0) (by decide) (by decide) (by decide) (fun v hv => okCheck8 (n+1) v (b8_m0 v hv))
  rw [ck_m0] at h
  exact h
theorem chk1 (n : Nat) : callP (level E (n+9)) 50 [enIm m1] = some (.int .i64 0):=by
  have h:=okCheck n m1 (fun _ => 0) (by decide) (by decide) (by decide) (fun v hv => okCheck8 (n+1) v (by
    have : v = 0:=by simpa [m1] using hv
    rw [this]; exact bits8_all.1))
  rw [ck_m1] at h
  exact h
theorem chk2 (n : Nat) : callP (level E (n+9)) 50 [enIm m2] = some (.int .i64 26):=by
  have h:=okCheck n m2 (fun _ => 0) (by decide) (by decide) (by decide) (fun v hv => okCheck8 (n+1) v (by
    have : v = 0:=by simpa [m2] using hv
    rw [this]; exact bits8_all.1))
  rw [ck_m2] at h
  exact h
theorem ckb0 : ckBox bx0 = 0:=by decide
theorem aw_at (n : Nat) : callP (level E (n+11)) 39 [enIm m0,slD false 1 ([3,1].map ic)] = some (.tup [.agg [.int .i64 1,.int .u64 50],.int .i64 0]):=by
  have h:=okCheckAt n m0 false [3,1] (fun _ => 0) (by decide) (by decide) (by decide) (fun v hv => okCheck8 (n+1) v (b8_m0 v hv))
  rw [show ckAt (fun _ => 0) m0 [3,1] = 0 from by decide] at h
  exact okAtS n m0 false [3,1] h (by decide) (by decide) (by decide) 4 50 (by decide) (by decide)
def fSl (p : List Int) : Int:=if p.headD 0 = 0 then 20 else 50
theorem aw_slice (n : Nat) : callP (level E (n+10)) 27 [enIm m0,.int .i64 0,.int .i64 3] = some (.tup [enIm (mkIm 1 [⟨0,2⟩] 2 fSl),.int .i64 0]):=by
  refine okSlice2 n m0 ⟨2,3⟩ ⟨0,2⟩ rfl 3 (chk0 n) rfl ckb0 (by decide) (by decide) 2 (by decide) (by decide) fSl (fun i hi => ?_)
  match i,hi with
  | 0,_ => exact ⟨0,0,0,1,by decide,by decide,by decide⟩
  | 1,_ => exact ⟨1,0,0,4,by decide,by decide,by decide⟩
def fTr (p : List Int) : Int:=10 + 30 * p.headD 0 + 10 * ((p.tail).headD 0 - 2)
theorem aw_trans (n : Nat) : callP (level E (n+10)) 28 [enIm m0,.int .i64 0,.int .i64 1] = some (.tup [enIm (mkIm 1 [⟨0,2⟩,⟨2,3⟩] 6 fTr),.int .i64 0]):=by
  refine okTranspose2 n m0 ⟨2,3⟩ ⟨0,2⟩ rfl (chk0 n) rfl 6 (by decide) (by decide) fTr (fun i hi => ?_)
  match i,hi with
  | 0,_ => exact ⟨0,2,0,0,by decide,by decide,by decide⟩
  | 1,_ => exact ⟨1,2,0,3,by decide,by decide,by decide⟩
  | 2,_ => exact ⟨0,3,0,1,by decide,by decide,by decide⟩
  | 3,_ => exact ⟨1,3,0,4,by decide,by decide,by decide⟩
  | 4,_ => exact ⟨0,4,0,2,by decide,by decide,by decide⟩
  | 5,_ => exact ⟨1,4,0,5,by decide,by decide,by decide⟩
def fCr (p : List Int) : Int:=50 + 10 * (p.headD 0 - 3)
theorem aw_crop (n : Nat) : callP (level E (n+10)) 25 [enIm m0,enB false [⟨3,2⟩,⟨1,1⟩]] = some (.tup [enIm (mkIm 1 [⟨3,2⟩,⟨1,1⟩] 2 fCr),.int .i64 0]):=by
  refine okCropS n m0 false [⟨3,2⟩,⟨1,1⟩] (chk0 n) ckb0 rfl (by decide) rfl (by rfl) 2 (by decide) fCr (fun i hi => ?_)
  match i,hi with
  | 0,_ => exact ⟨4,by decide,by decide⟩
  | 1,_ => exact ⟨5,by decide,by decide⟩
theorem aw_edge (n : Nat) (rule : Nat) (hr : rule < 3) : callP (level E (n+10)) 19 [enIm m0,.int .i64 rule,slD false 1 ([0,5].map ic),.agg [.int .i64 0,.int .u64 0]] = some (.tup [.agg [.int .i64 1,.int .u64 ([40,50,50].getD rule 0)],.int .i64 0]):=by
  have hx : ∀ r ∈ m0.bx,r.ex ≠ 0 ∧ ml 2 r.ex ≠ 0:=by
    intro r hr
    simp only [m0,bx0,List.mem_cons,List.not_mem_nil,or_false] at hr
    rcases hr with rfl | rfl <;> decide
  match rule,hr with
  | 0,hr => exact okEdgeS n m0 false [0,5] 0 hr 0 0 (chk0 n) ckb0 rfl rfl (by decide) (by decide) hx 3 40 (by decide) (by decide)
  | 1,hr => exact okEdgeS n m0 false [0,5] 1 hr 0 0 (chk0 n) ckb0 rfl rfl (by decide) (by decide) hx 4 50 (by decide) (by decide)
  | 2,hr => exact okEdgeS n m0 false [0,5] 2 hr 0 0 (chk0 n) ckb0 rfl rfl (by decide) (by decide) hx 4 50 (by decide) (by decide)
def mS : Im:=mkIm 1 [⟨0,2⟩] 2 fSl
theorem aw_encode (n : Nat) : callP (level E (n+10)) 9 [enIm mS] = some (.tup [.sl 1 (([1,1,0,0,0,0,2,0,20,50] : List Int).map u8),.int .i64 0]):=by
  have hb : ∀ v ∈ mS.dt,bits8 v:=by
    obtain ⟨h0,h1,h2,h3,h4,h5,h6⟩:=bits8_all
    intro v hv
    have e : mS.dt = [20,50]:=by decide
    rw [e] at hv
    simp only [List.mem_cons,List.not_mem_nil,or_false] at hv
    rcases hv with rfl | rfl <;> assumption
  have h:=okCheck n mS (fun _ => 0) (by decide) (by decide) (by decide) (fun v hv => okCheck8 (n+1) v (hb v hv))
  rw [show ckIm (fun _ => 0) mS = 0 from by decide] at h
  have k:=okEncode1 n mS h (by decide) (by decide) rfl 2 (by decide) (by decide) fSl (fun i hi => by
    match i,hi with
    | 0,_ => exact ⟨0,by decide,by decide⟩
    | 1,_ => exact ⟨1,by decide,by decide⟩)
  rw [show byIm1 mS 2 fSl = [1,1,0,0,0,0,2,0,20,50] from by decide] at k
  exact k
end Go.Vm.P4Z

/- Chapter 04,functions: the reference's boxes. -/
set_option maxRecDepth 100000
set_option maxHeartbeats 1000000
namespace Go.Vm.P4Z
open Go Go.Vm Go.Vm.P4
theorem okQWhen (n : Nat) (b : Bool) (x : Int) : callP (level E (n+1)) 32 [.bool b,.int .i64 x] = some (.int .i64 (if b then x else 0)):=by
  rw [p32]
  cases b <;> simp only [go_sem,Nat.reduceAdd,Nat.reduceSub,Nat.reduceMul,Nat.reduceDiv,Nat.reduceMod,Nat.reduceLeDiff,Nat.reduceLT,Nat.reduceBEq,Int.reduceToNat,Int.reduceLT,Int.reduceLE,Int.reduceEq,Bool.false_eq_true]
theorem okQFirst (n : Nat) (b : Bool) (l : List Int) (hl : l.length < 1000000000) : callP (level E (n+1)) 29 [slD b 1 (l.map ic)] = some (.int .i64 (fnz l)):=by
  rw [p29]
  simp only [go_sem,Nat.reduceAdd,Nat.reduceSub,Nat.reduceMul,Nat.reduceDiv,Nat.reduceMod,Nat.reduceLeDiff,Nat.reduceLT,Nat.reduceBEq,Int.reduceToNat,Int.reduceLT,Int.reduceLE,Int.reduceEq]
  have h:=loop_run (f:=aCode (level E (n)) ⟨0,false⟩ b29_0) (h:=head ⟨0,false⟩ [1,0,1,0,0]) (Φ:=outC ⟨0,false⟩ [0,1,0,0,0]) l (fun (_ : Unit) i => ⟨[.imm (slD b 1 (l.map ic)),.junk,.imm (.int .i64 i),.junk,.junk],[],none⟩) (fun _ _ => True)
    (fun _ x => if x = 0 then .inl () else .inr (some (.ret,⟨[.junk,.imm (.int .i64 x),.junk,.junk,.junk],[],none⟩))) (fun _ => some (.exit 0,⟨[.junk,.junk,.junk,.junk,.junk],[],none⟩)) () trivial
    (fun _ i x _ h2 h1 => ⟨by
      rw [rnd_eq]
      by_cases h0 : x = 0
      · subst h0
        simp only [go_sem,Nat.reduceAdd,Nat.reduceSub,Nat.reduceMul,Nat.reduceDiv,Nat.reduceMod,Nat.reduceLeDiff,Nat.reduceLT,Nat.reduceBEq,Int.reduceToNat,Int.reduceLT,Int.reduceLE,Int.reduceEq,lt_t h2,h1,ne_eq,not_true_eq_false]
        rw [wrpS (by omega)]
      · simp only [go_sem,Nat.reduceAdd,Nat.reduceSub,Nat.reduceMul,Nat.reduceDiv,Nat.reduceMod,Nat.reduceLeDiff,Nat.reduceLT,Nat.reduceBEq,Int.reduceToNat,Int.reduceLT,Int.reduceLE,Int.reduceEq,lt_t h2,h1,ne_eq,h0,not_false_eq_true],fun _ _ => trivial⟩)
    (fun _ _ => by
      rw [rnd_eq]
      simp only [go_sem,Nat.reduceAdd,Nat.reduceSub,Nat.reduceMul,Nat.reduceDiv,Nat.reduceMod,Nat.reduceLeDiff,Nat.reduceLT,Nat.reduceBEq,Int.reduceToNat,Int.reduceLT,Int.reduceLE,Int.reduceEq,lt_f (Nat.le_refl _)])
  rw [cast_0] at h
  rw [h]
  clear h hl
  induction l with
  | nil => simp only [go_sem,Nat.reduceAdd,Nat.reduceSub,Nat.reduceMul,Nat.reduceDiv,Nat.reduceMod,Nat.reduceLeDiff,Nat.reduceLT,Nat.reduceBEq,Int.reduceToNat,Int.reduceLT,Int.reduceLE,Int.reduceEq,runL_nil,fnz]
  | cons x r ih =>
    by_cases h0 : x = 0
    · simp only [runL_cons,h0,if_true,fnz]; exact ih
    · simp only [go_sem,Nat.reduceAdd,Nat.reduceSub,Nat.reduceMul,Nat.reduceDiv,Nat.reduceMod,Nat.reduceLeDiff,Nat.reduceLT,Nat.reduceBEq,Int.reduceToNat,Int.reduceLT,Int.reduceLE,Int.reduceEq,runL_cons,h0,fnz]
theorem okQFirstL (n : Nat) (es : List (List D)) (l : List Int) (he : es = l.map ic) (hl : l.length < 1000000000) : callP (level E (n+1)) 29 [.sl 1 es] = some (.int .i64 (fnz l)):=by
  subst he
  exact okQFirst n false l hl
theorem okRProduct (n : Nat) (b : Bool) (l : Bx) (hl : l.length < 1000000000) : callP (level E (n+1)) 43 [enB b l] = some (.int .i64 (many l)):=by
  rw [p43]
  simp only [go_sem,Nat.reduceAdd,Nat.reduceSub,Nat.reduceMul,Nat.reduceDiv,Nat.reduceMod,Nat.reduceLeDiff,Nat.reduceLT,Nat.reduceBEq,Int.reduceToNat,Int.reduceLT,Int.reduceLE,Int.reduceEq]
  have h:=loop_fold (f:=aCode (level E (n)) ⟨0,false⟩ b43_0) (h:=head ⟨0,false⟩ [1,0,1,1,0]) (Φ:=outC ⟨0,false⟩ [0,0,1,0,0]) l (fun (a : Int) i => ⟨[.imm (slD b 2 (l.map enR)),.junk,.imm (.int .i64 a),.imm (.int .i64 i),.junk],[],none⟩) (fun _ _ => True)
    (fun a x => ml a x.ex) (fun a => some (.exit 0,⟨[.junk,.junk,.imm (.int .i64 a),.junk,.junk],[],none⟩)) 1 trivial
    (fun a i x _ h2 h1 => ⟨by
      rw [rnd_eq]
      simp only [go_sem,Nat.reduceAdd,Nat.reduceSub,Nat.reduceMul,Nat.reduceDiv,Nat.reduceMod,Nat.reduceLeDiff,Nat.reduceLT,Nat.reduceBEq,Int.reduceToNat,Int.reduceLT,Int.reduceLE,Int.reduceEq,lt_t h2,h1,ml]
      rw [wrpS (by omega)],trivial⟩)
    (fun _ _ => by
      rw [rnd_eq]
      simp only [go_sem,Nat.reduceAdd,Nat.reduceSub,Nat.reduceMul,Nat.reduceDiv,Nat.reduceMod,Nat.reduceLeDiff,Nat.reduceLT,Nat.reduceBEq,Int.reduceToNat,Int.reduceLT,Int.reduceLE,Int.reduceEq,lt_f (Nat.le_refl _)])
  rw [cast_0] at h
  rw [h]
  simp only [go_sem,Nat.reduceAdd,Nat.reduceSub,Nat.reduceMul,Nat.reduceDiv,Nat.reduceMod,Nat.reduceLeDiff,Nat.reduceLT,Nat.reduceBEq,Int.reduceToNat,Int.reduceLT,Int.reduceLE,Int.reduceEq,many]
theorem okOwnBox (n : Nat) (b : Bool) (l : Bx) (hl : l.length < 1000000) : callP (level E (n+1)) 26 [enB b l] = some (enB true l):=by
  rw [p26]
  rcases l with _ | ⟨x,t⟩
  · cases b <;> simp only [go_sem,Nat.reduceAdd,Nat.reduceSub,Nat.reduceMul,Nat.reduceDiv,Nat.reduceMod,Nat.reduceLeDiff,Nat.reduceLT,Nat.reduceBEq,Int.reduceToNat,Int.reduceLT,Int.reduceLE,Int.reduceEq,slD] <;> rfl
  · have e : (t.length + 1) * 17 ≤ 70368744177664:=by simp at hl; omega
    have e0 : enB b (x :: t) = .sl 2 ((x :: t).map enR):=by cases b <;> rfl
    rw [e0]
    simp only [go_sem,Nat.reduceAdd,Nat.reduceSub,Nat.reduceMul,Nat.reduceDiv,Nat.reduceMod,Nat.reduceLeDiff,Nat.reduceLT,Nat.reduceBEq,Int.reduceToNat,Int.reduceLT,Int.reduceLE,Int.reduceEq,e] <;> rfl
theorem okRCheckBox (n : Nat) (b : Bool) (l : Bx) (hl : l.length < 1000000) : callP (level E (n+2)) 30 [enB b l] = some (.int .i64 (ckBox l)):=by
  rw [p30]
  by_cases h1 : l.length < 1
  · have h1' : (l.length : Int) < 1:=by omega
    simp only [go_sem,Nat.reduceAdd,Nat.reduceSub,Nat.reduceMul,Nat.reduceDiv,Nat.reduceMod,Nat.reduceLeDiff,Nat.reduceLT,Nat.reduceBEq,Int.reduceToNat,Int.reduceLT,Int.reduceLE,Int.reduceEq,h1',ckBox,h1,true_or]
  · have h1' : ¬ (l.length : Int) < 1:=by omega
    by_cases h2 : 3 < l.length
    · have h2' : (3 : Int) < l.length:=by omega
      simp only [go_sem,Nat.reduceAdd,Nat.reduceSub,Nat.reduceMul,Nat.reduceDiv,Nat.reduceMod,Nat.reduceLeDiff,Nat.reduceLT,Nat.reduceBEq,Int.reduceToNat,Int.reduceLT,Int.reduceLE,Int.reduceEq,h1',h2',ckBox,h1,h2,or_true]
    · have h2' : ¬ (3 : Int) < l.length:=by omega
      simp only [go_sem,Nat.reduceAdd,Nat.reduceSub,Nat.reduceMul,Nat.reduceDiv,Nat.reduceMod,Nat.reduceLeDiff,Nat.reduceLT,Nat.reduceBEq,Int.reduceToNat,Int.reduceLT,Int.reduceLE,Int.reduceEq,h1',h2',ckBox,h1,h2,or_self]
      have h:=loop_run (f:=aCode (level E (n+1)) ⟨0,false⟩ b30_0) (h:=head ⟨0,false⟩ [1,0,1,0,0,0,0]) (Φ:=outC ⟨0,false⟩ [1,1,0,0,0,0,0]) l (fun (_ : Unit) i => ⟨[.imm (slD b 2 (l.map enR)),.junk,.imm (.int .i64 i),.junk,.junk,.junk,.junk],[],none⟩) (fun _ _ => True)
        (fun _ r => if ckRange r = 0 then .inl () else .inr (some (.ret,⟨[.imm (slD b 2 (l.map enR)),.imm (.int .i64 3),.junk,.junk,.junk,.junk,.junk],[],none⟩))) (fun _ => some (.exit 0,⟨[.imm (slD b 2 (l.map enR)),.junk,.junk,.junk,.junk,.junk,.junk],[],none⟩)) () trivial
        (fun _ i r _ h2 h1 => ⟨by
          rw [rnd_eq]
          by_cases k1 : r.lo < -1048576
          · have k : ¬ ckRange r = 0:=by rw [ckRange,if_pos (by omega)]; omega
            simp only [go_sem,Nat.reduceAdd,Nat.reduceSub,Nat.reduceMul,Nat.reduceDiv,Nat.reduceMod,Nat.reduceLeDiff,Nat.reduceLT,Nat.reduceBEq,Int.reduceToNat,Int.reduceLT,Int.reduceLE,Int.reduceEq,lt_t h2,h1,k1,k]
          · by_cases k2 : r.lo > 1048576
            · have k : ¬ ckRange r = 0:=by rw [ckRange,if_pos (by omega)]; omega
              simp only [go_sem,Nat.reduceAdd,Nat.reduceSub,Nat.reduceMul,Nat.reduceDiv,Nat.reduceMod,Nat.reduceLeDiff,Nat.reduceLT,Nat.reduceBEq,Int.reduceToNat,Int.reduceLT,Int.reduceLE,Int.reduceEq,lt_t h2,h1,k1,k2,k]
            · by_cases k3 : r.ex < 0
              · have k : ¬ ckRange r = 0:=by rw [ckRange,if_pos (by omega)]; omega
                simp only [go_sem,Nat.reduceAdd,Nat.reduceSub,Nat.reduceMul,Nat.reduceDiv,Nat.reduceMod,Nat.reduceLeDiff,Nat.reduceLT,Nat.reduceBEq,Int.reduceToNat,Int.reduceLT,Int.reduceLE,Int.reduceEq,lt_t h2,h1,k1,k2,k3,k]
              · by_cases k4 : r.ex > 64
                · have k : ¬ ckRange r = 0:=by rw [ckRange,if_pos (by omega)]; omega
                  simp only [go_sem,Nat.reduceAdd,Nat.reduceSub,Nat.reduceMul,Nat.reduceDiv,Nat.reduceMod,Nat.reduceLeDiff,Nat.reduceLT,Nat.reduceBEq,Int.reduceToNat,Int.reduceLT,Int.reduceLE,Int.reduceEq,lt_t h2,h1,k1,k2,k3,k4,k]
                · have e : wrp .i64 (r.lo + r.ex) = r.lo + r.ex:=wrp_ok (by omega)
                  by_cases k5 : r.lo + r.ex > 1048577
                  · have k : ¬ ckRange r = 0:=by rw [ckRange,if_pos (by omega)]; omega
                    simp only [go_sem,Nat.reduceAdd,Nat.reduceSub,Nat.reduceMul,Nat.reduceDiv,Nat.reduceMod,Nat.reduceLeDiff,Nat.reduceLT,Nat.reduceBEq,Int.reduceToNat,Int.reduceLT,Int.reduceLE,Int.reduceEq,lt_t h2,h1,k1,k2,k3,k4,e,k5,k]
                  · have k : ckRange r = 0:=by rw [ckRange,if_neg (by omega)]
                    simp only [go_sem,Nat.reduceAdd,Nat.reduceSub,Nat.reduceMul,Nat.reduceDiv,Nat.reduceMod,Nat.reduceLeDiff,Nat.reduceLT,Nat.reduceBEq,Int.reduceToNat,Int.reduceLT,Int.reduceLE,Int.reduceEq,lt_t h2,h1,k1,k2,k3,k4,e,k5,k]
                    rw [wrpS (by omega)],fun _ _ => trivial⟩)
        (fun _ _ => by
          rw [rnd_eq]
          simp only [go_sem,Nat.reduceAdd,Nat.reduceSub,Nat.reduceMul,Nat.reduceDiv,Nat.reduceMod,Nat.reduceLeDiff,Nat.reduceLT,Nat.reduceBEq,Int.reduceToNat,Int.reduceLT,Int.reduceLE,Int.reduceEq,lt_f (Nat.le_refl _)])
      rw [cast_0] at h
      rw [h]
      clear h
      have hm:=okRProduct n b l (by omega)
      have e : ∀ l' : Bx,runL (γ:=Option (AExit × S)) (fun (_ : Unit) r => if ckRange r = 0 then .inl () else .inr (some (AExit.ret,⟨[.imm (slD b 2 (l.map enR)),.imm (.int .i64 3),.junk,.junk,.junk,.junk,.junk],[],none⟩))) (fun _ => some (AExit.exit 0,⟨[.imm (slD b 2 (l.map enR)),.junk,.junk,.junk,.junk,.junk,.junk],[],none⟩)) () l'
          = if fnz (l'.map ckRange) = 0 then some (AExit.exit 0,⟨[.imm (slD b 2 (l.map enR)),.junk,.junk,.junk,.junk,.junk,.junk],[],none⟩) else some (AExit.ret,⟨[.imm (slD b 2 (l.map enR)),.imm (.int .i64 3),.junk,.junk,.junk,.junk,.junk],[],none⟩):=by
        intro l'
        induction l' with
        | nil => simp [runL_nil,fnz]
        | cons x r ih =>
          by_cases h0 : ckRange x = 0
          · simp only [runL_cons,h0,if_true,List.map_cons,fnz]; exact ih
          · simp only [runL_cons,h0,if_false,List.map_cons,fnz]
      rw [e]
      have e3 : fnz (l.map ckRange) = 0 ∨ fnz (l.map ckRange) = 3:=by
        clear e hm hl h1 h1' h2 h2'
        induction l with
        | nil => exact .inl rfl
        | cons x r ih =>
          rw [List.map_cons,fnz_cons]
          by_cases h0 : ckRange x = 0
          · rw [if_pos h0]; exact ih
          · rw [if_neg h0]
            right
            unfold ckRange at h0 ⊢
            split
            · rfl
            · rename_i h; rw [if_neg h] at h0; exact absurd rfl h0
      rcases e3 with e3 | e3
      · by_cases h3 : 4096 < many l
        · simp only [go_sem,Nat.reduceAdd,Nat.reduceSub,Nat.reduceMul,Nat.reduceDiv,Nat.reduceMod,Nat.reduceLeDiff,Nat.reduceLT,Nat.reduceBEq,Int.reduceToNat,Int.reduceLT,Int.reduceLE,Int.reduceEq,e3,hm,h3,okQWhen,fnz]
        · simp only [go_sem,Nat.reduceAdd,Nat.reduceSub,Nat.reduceMul,Nat.reduceDiv,Nat.reduceMod,Nat.reduceLeDiff,Nat.reduceLT,Nat.reduceBEq,Int.reduceToNat,Int.reduceLT,Int.reduceLE,Int.reduceEq,e3,hm,h3,okQWhen,fnz]
      · simp only [go_sem,Nat.reduceAdd,Nat.reduceSub,Nat.reduceMul,Nat.reduceDiv,Nat.reduceMod,Nat.reduceLeDiff,Nat.reduceLT,Nat.reduceBEq,Int.reduceToNat,Int.reduceLT,Int.reduceLE,Int.reduceEq,e3,fnz,show ¬ (3 : Int) = 0 by omega]
theorem okSameBox (n : Nat) (b c : Bool) (l : Bx) (hl : l.length < 1000000000) : callP (level E (n+1)) 59 [enB b l,enB c l] = some (.bool true):=by
  rw [p59]
  simp only [go_sem,Nat.reduceAdd,Nat.reduceSub,Nat.reduceMul,Nat.reduceDiv,Nat.reduceMod,Nat.reduceLeDiff,Nat.reduceLT,Nat.reduceBEq,Int.reduceToNat,Int.reduceLT,Int.reduceLE,Int.reduceEq,ne_eq,not_true_eq_false]
  have h:=loop_fold (f:=aCode (level E (n)) ⟨0,false⟩ b59_0) (h:=head ⟨0,false⟩ [1,1,0,1,0,0,0]) (Φ:=outC ⟨0,false⟩ [0,0,1,0,0,0,0]) l (fun (a : Unit) i => ⟨[.imm (slD b 2 (l.map enR)),.imm (slD c 2 (l.map enR)),.junk,.imm (.int .i64 i),.junk,.junk,.junk],[],none⟩) (fun _ _ => True)
    (fun a x => ()) (fun a => some (.exit 0,⟨[.junk,.junk,.junk,.junk,.junk,.junk,.junk],[],none⟩)) () trivial
    (fun a i x hI h2 h1 => by
      refine ⟨?_,trivial⟩
      rw [rnd_eq]
      simp only [go_sem,Nat.reduceAdd,Nat.reduceSub,Nat.reduceMul,Nat.reduceDiv,Nat.reduceMod,Nat.reduceLeDiff,Nat.reduceLT,Nat.reduceBEq,Int.reduceToNat,Int.reduceLT,Int.reduceLE,Int.reduceEq,lt_t h2,h1,aEq,eqL,eqE,intEq,beq_self_eq_true]
      rw [wrpS (by omega)])
    (fun a _ => by
      rw [rnd_eq]
      simp only [go_sem,Nat.reduceAdd,Nat.reduceSub,Nat.reduceMul,Nat.reduceDiv,Nat.reduceMod,Nat.reduceLeDiff,Nat.reduceLT,Nat.reduceBEq,Int.reduceToNat,Int.reduceLT,Int.reduceLE,Int.reduceEq,lt_f (Nat.le_refl _)])
  rw [cast_0] at h
  rw [h]
  simp only [go_sem,Nat.reduceAdd,Nat.reduceSub,Nat.reduceMul,Nat.reduceDiv,Nat.reduceMod,Nat.reduceLeDiff,Nat.reduceLT,Nat.reduceBEq,Int.reduceToNat,Int.reduceLT,Int.reduceLE,Int.reduceEq]
end Go.Vm.P4Z

/- Chapter 04,functions: the document's examples,all of them. -/
set_option maxRecDepth 100000
set_option maxHeartbeats 16000000
namespace Go.Vm.P4Z
open Go Go.Vm Go.Vm.P4
def bxD : D:=.sl 2 [[.int .i64 2,.int .i64 3],[.int .i64 0,.int .i64 2]]
def imD : D:=.agg [.int .i64 1,bxD,.sl 1 [[.int .i64 1],[.int .i64 3]],.sl 1 [[.int .u64 10],[.int .u64 20],[.int .u64 30],[.int .u64 40],[.int .u64 50],[.int .u64 60]]]
theorem aw_box (n : Nat) : callP (level E (n+1)) 53 [] = some bxD:=by
  rw [p53]
  simp only [go_sem,Nat.reduceAdd,Nat.reduceSub,Nat.reduceMul,Nat.reduceDiv,Nat.reduceMod,Nat.reduceLeDiff,Nat.reduceLT,Nat.reduceBEq,Int.reduceToNat,Int.reduceLT,Int.reduceLE,Int.reduceEq,bxD]
theorem aw_given (n : Nat) : callP (level E (n+2)) 57 [] = some imD:=by
  rw [p57]
  have h:=aw_box n
  simp only [bxD] at h
  simp only [go_sem,Nat.reduceAdd,Nat.reduceSub,Nat.reduceMul,Nat.reduceDiv,Nat.reduceMod,Nat.reduceLeDiff,Nat.reduceLT,Nat.reduceBEq,Int.reduceToNat,Int.reduceLT,Int.reduceLE,Int.reduceEq,imD,bxD,h]
theorem e_m0 : enIm m0 = imD:=rfl
theorem e_b0 : enB false bx0 = bxD:=rfl
def pt (a b : Int) : List D:=[.sl 1 [[.int .i64 a],[.int .i64 b]]]
theorem okAwake (n : Nat) : callP (level E (n+60)) 8 [] = some (.bool true):=by
  rw [p8]
  have q1:=aw_box (n+58)
  have q2:=aw_given (n+57)
  have q3:=okPointsS (n+54) false bx0 ckb0 6 (by decide)
  rw [e_b0,show ptsD bx0 6 = .sl 1 [pt 2 0,pt 3 0,pt 4 0,pt 2 1,pt 3 1,pt 4 1] from rfl] at q3
  have q4:=okIndex (n+53) false false bx0 [3,1] (by decide)
  rw [e_b0,show ckPoint bx0 [3,1] = 0 from by decide,if_pos rfl,show hasB bx0 [3,1] = true from by decide,if_pos rfl,show elt bx0 (([3,1] ++ [0,0,0] : List Int).take 3) (strides 1 bx0) 0 = 4 from by decide] at q4
  have q5:=okIntersect (n+53) false false bx0 ot0 (by decide) (by decide) (fun _ => rfl)
  rw [e_b0,show interD bx0 ot0 = .sl 2 [[.int .i64 3,.int .i64 2],[.int .i64 1,.int .i64 1]] from rfl,show ckBoth bx0 ot0 = 0 from by decide] at q5
  have q6:=okUnion (n+53) false false bx0 ot0 (by decide) (by decide) (fun _ => ⟨rfl,by decide,by decide⟩)
  rw [e_b0,show unionD bx0 ot0 = (.sl 2 [[.int .i64 2,.int .i64 3],[.int .i64 0,.int .i64 6]],0) from rfl] at q6
  have q7:=aw_at (n+48)
  have q8:=aw_slice (n+49)
  have q9:=aw_trans (n+49)
  have q10:=aw_crop (n+49)
  rw [e_m0] at q7 q8 q9 q10
  rw [show enIm (mkIm 1 [⟨0,2⟩] 2 fSl) = .agg [.int .i64 1,.sl 2 [[.int .i64 0,.int .i64 2]],.sl 1 [[.int .i64 1]],.sl 1 [[.int .u64 20],[.int .u64 50]]] from rfl] at q8
  rw [show enIm (mkIm 1 [⟨0,2⟩,⟨2,3⟩] 6 fTr) = .agg [.int .i64 1,.sl 2 [[.int .i64 0,.int .i64 2],[.int .i64 2,.int .i64 3]],.sl 1 [[.int .i64 1],[.int .i64 2]],.sl 1 [[.int .u64 10],[.int .u64 40],[.int .u64 20],[.int .u64 50],[.int .u64 30],[.int .u64 60]]] from rfl] at q9
  rw [show enIm (mkIm 1 [⟨3,2⟩,⟨1,1⟩] 2 fCr) = .agg [.int .i64 1,.sl 2 [[.int .i64 3,.int .i64 2],[.int .i64 1,.int .i64 1]],.sl 1 [[.int .i64 1],[.int .i64 2]],.sl 1 [[.int .u64 50],[.int .u64 60]]] from rfl] at q10
  have r0:=aw_edge (n+49) 0 (by decide)
  have r1:=aw_edge (n+49) 1 (by decide)
  have r2:=aw_edge (n+49) 2 (by decide)
  rw [e_m0] at r0 r1 r2
  have c1:=chk1 (n+50)
  have c2:=chk2 (n+50)
  have en:=aw_encode (n+49)
  rw [show enIm mS = .agg [.int .i64 1,.sl 2 [[.int .i64 0,.int .i64 2]],.sl 1 [[.int .i64 1]],.sl 1 [[.int .u64 20],[.int .u64 50]]] from rfl] at en
  have s1:=okSameInts (n+58) false false [4,1] (by decide)
  have s2:=okSameBox (n+58) false false [⟨3,2⟩,⟨1,1⟩] (by decide)
  have s3:=okSameBox (n+58) false false [⟨2,3⟩,⟨0,6⟩] (by decide)
  have s4:=okSameBits (n+58) false false [20,50] (by decide)
  have s5:=okSameBits (n+58) false false [10,40,20,50,30,60] (by decide)
  have s6:=okSameBits (n+58) false false [50,60] (by decide)
  have s7:=okSameBytes (n+58) false false [1,1,0,0,0,0,2,0,20,50] (by decide)
  simp only [go_sem,Nat.reduceAdd,Nat.reduceSub,Nat.reduceMul,Nat.reduceDiv,Nat.reduceMod,Nat.reduceLeDiff,Nat.reduceLT,Nat.reduceBEq,Int.reduceToNat,Int.reduceLT,Int.reduceLE,Int.reduceEq,imD,bxD,pt,enB,slD,ot0,enIm,m1,m2,mS,bx0] at q1 q2 q3 q4 q5 q6 q7 q8 q9 q10 r0 r1 r2 c1 c2 en s1 s2 s3 s4 s5 s6 s7
  have w0 : wrp .i64 (0 + 0) = 0:=by decide
  have n0 : (4 : Int) ≠ 0:=by decide
  simp only [go_sem,Nat.reduceAdd,Nat.reduceSub,Nat.reduceMul,Nat.reduceDiv,Nat.reduceMod,Nat.reduceLeDiff,Nat.reduceLT,Nat.reduceBEq,Int.reduceToNat,Int.reduceLT,Int.reduceLE,Int.reduceEq,q1,q2,q3,q4,q5,q6,q7,q8,q9,q10,w0,ne_eq,not_true_eq_false,ia_sl,s1,s2,s3,s4,s5,s6,aEq,eqL,eqE,intEq,beq_self_eq_true]
  simp only [go_sem,Nat.reduceAdd,Nat.reduceSub,Nat.reduceMul,Nat.reduceDiv,Nat.reduceMod,Nat.reduceLeDiff,Nat.reduceLT,Nat.reduceBEq,Int.reduceToNat,Int.reduceLT,Int.reduceLE,Int.reduceEq,rnd_eq,q1,q2,r0,r1,r2,ne_eq,not_true_eq_false,ia_sl,c1,c2,en,s7,List.reduceReplicate,Int.reduceMul]
  done
end Go.Vm.P4Z

/- Plain: bits of 64-bit numbers as remainders and quotients. -/
set_option maxRecDepth 100000
namespace Go.Vm.P4
open Go Go.Vm
theorem wrpU {n : Int} (h0 : 0 ≤ n) (h1 : n < 18446744073709551616) : wrp .u64 n = n:=by
  have e1 : (2 ^ IntKind.u64.bits : Int) = 18446744073709551616:=by decide
  show IntKind.u64.wrap n = n
  simp only [IntKind.wrap,e1,show IntKind.u64.signed = false from rfl,Bool.false_and,Bool.false_eq_true,if_false]
  omega
theorem bv_low {v : Int} (h0 : 0 ≤ v) (h1 : v < 18446744073709551616) : (BitVec.ofInt 64 v).toNat = v.toNat:=by
  obtain ⟨n,rfl⟩ : ∃ n : Nat,v = n:=⟨v.toNat,by omega⟩
  rw [BitVec.ofInt_natCast,BitVec.toNat_ofNat]
  omega
theorem mask_bit (w i : Nat) (hw : w ≤ 64) : (BitVec.ofNat 64 (2 ^ w - 1)).getLsbD i = decide (i < w):=by
  rw [BitVec.getLsbD_ofNat,Nat.testBit_two_pow_sub_one]
  by_cases h : i < w
  · simp [h,show i < 64 by omega]
  · simp [h]
theorem andNot_mask (a : BitVec 64) (w : Nat) (hw : w ≤ 64) : (a &&& ~~~(BitVec.ofNat 64 (2 ^ w - 1))).toNat = a.toNat >>> w <<< w:=by
  apply Nat.eq_of_testBit_eq
  intro i
  rw [BitVec.testBit_toNat,BitVec.getLsbD_and,BitVec.getLsbD_not,mask_bit w i hw,Nat.testBit_shiftLeft,Nat.testBit_shiftRight,BitVec.testBit_toNat]
  by_cases h : i < w
  · have : ¬ w ≤ i:=by omega
    simp [h,this]
  · have h2 : w ≤ i:=by omega
    rw [show w + (i - w) = i by omega]
    by_cases h3 : i < 64
    · simp [h,h2,h3]
    · have : a.getLsbD i = false:=BitVec.getLsbD_of_ge a i (by omega)
      simp [this]
theorem and_mask (a : BitVec 64) (w : Nat) (hw : w ≤ 64) : (a &&& BitVec.ofNat 64 (2 ^ w - 1)).toNat = a.toNat % 2 ^ w:=by
  apply Nat.eq_of_testBit_eq
  intro i
  rw [BitVec.testBit_toNat,BitVec.getLsbD_and,mask_bit w i hw,Nat.testBit_mod_two_pow,BitVec.testBit_toNat,Bool.and_comm]
theorem fits_iff {v : Int} (h0 : 0 ≤ v) (h1 : v < 18446744073709551616) (w : Nat) (hw : w ≤ 64) (m : Int) (hm : BitVec.ofInt 64 m = BitVec.ofNat 64 (2 ^ w - 1)) :
    decide (wrp .u64 ((BitVec.ofInt 64 v &&& ~~~(BitVec.ofInt 64 m)).toNat : Nat) = 0) = decide (v < 2 ^ w):=by
  rw [hm]
  have h2:=(BitVec.ofInt 64 v &&& ~~~(BitVec.ofNat 64 (2 ^ w - 1))).isLt
  rw [wrpU (by omega) (by omega),andNot_mask _ w hw,bv_low h0 h1,Nat.shiftLeft_eq,Nat.shiftRight_eq_div_pow]
  have hp : 0 < 2 ^ w:=Nat.two_pow_pos w
  have e : ((2 ^ w : Nat) : Int) = 2 ^ w:=by simp
  rw [decide_eq_decide]
  constructor
  · intro h
    have h3 : v.toNat / 2 ^ w = 0:=by
      rcases Nat.eq_zero_or_pos (v.toNat / 2 ^ w) with h4 | h4
      · exact h4
      · have:=Nat.mul_le_mul_right (2 ^ w) h4; omega
    have:=(Nat.div_eq_zero_iff_lt hp).1 h3
    omega
  · intro h
    have : v.toNat < 2 ^ w:=by omega
    rw [Nat.div_eq_of_lt this]; simp
theorem low32 {v : Int} (h0 : 0 ≤ v) (h1 : v < 18446744073709551616) : wrp .u64 ((BitVec.ofInt 64 v &&& BitVec.ofInt 64 4294967295).toNat : Nat) = v % 4294967296:=by
  have hm : BitVec.ofInt 64 4294967295 = BitVec.ofNat 64 (2 ^ 32 - 1):=by decide
  have h2:=(BitVec.ofInt 64 v &&& BitVec.ofInt 64 4294967295).isLt
  rw [wrpU (by omega) (by omega),hm,and_mask _ 32 (by decide),bv_low h0 h1]
  omega
def wdL : List Int:=[1,8,16,32,64,8,16,32,64,32,64]
end Go.Vm.P4

/- Chapter 04,functions: values of every kind. -/
set_option maxRecDepth 100000
set_option maxHeartbeats 2000000
namespace Go.Vm.P4Z
open Go Go.Vm Go.Vm.P4
def vOk (k v : Int) : Bool :=
  if k = 9 then decide (v < 4294967296) && rfOk v else if k = 10 then rfOk (v % 4294967296) && rfOk (v / 4294967296)
  else decide (v < 2 ^ (wdL.getD k.toNat 0).toNat)
def ckVal (k v : Int) : Int:=if ckKind k = 0 then (if vOk k v then 0 else 1) else 11
theorem okRf (n : Nat) (v : Int) : callP (level E (n+1)) 126 [.int .u64 v] = some (.bool (rfOk v)):=by
  have h1 : E.fn 126 = none:=rfl
  have h2 : E.prim 126 = some rfPrim:=rfl
  unfold callP
  simp only [level,h1,runPrim,h2,List.map_cons,List.map_nil,rfPrim,if_true]
  rfl
theorem okOnes (n : Nat) : callP (level E (n+1)) 127 [.int .i64 1] = some (.int .u64 1) ∧ callP (level E (n+1)) 127 [.int .i64 8] = some (.int .u64 255) ∧ callP (level E (n+1)) 127 [.int .i64 16] = some (.int .u64 65535) ∧
    callP (level E (n+1)) 127 [.int .i64 32] = some (.int .u64 4294967295) ∧ callP (level E (n+1)) 127 [.int .i64 64] = some (.int .u64 18446744073709551615):=by
  have a1 : aBin .shl (.imm (.int .u64 1)) (.imm (.int .i64 1)) = some (.imm (.int .u64 2)):=rfl
  have a8 : aBin .shl (.imm (.int .u64 1)) (.imm (.int .i64 8)) = some (.imm (.int .u64 256)):=rfl
  have a16 : aBin .shl (.imm (.int .u64 1)) (.imm (.int .i64 16)) = some (.imm (.int .u64 65536)):=rfl
  have a32 : aBin .shl (.imm (.int .u64 1)) (.imm (.int .i64 32)) = some (.imm (.int .u64 4294967296)):=rfl
  have w1 : wrp .u64 (2 - 1) = 1:=by decide
  have w8 : wrp .u64 (256 - 1) = 255:=by decide
  have w16 : wrp .u64 (65536 - 1) = 65535:=by decide
  have w32 : wrp .u64 (4294967296 - 1) = 4294967295:=by decide
  refine ⟨?_,?_,?_,?_,?_⟩ <;> rw [p127] <;> simp only [go_sem,Nat.reduceAdd,Nat.reduceSub,Nat.reduceMul,Nat.reduceDiv,Nat.reduceMod,Nat.reduceLeDiff,Nat.reduceLT,Nat.reduceBEq,Int.reduceToNat,Int.reduceLT,Int.reduceLE,Int.reduceEq,a1,a8,a16,a32,w1,w8,w16,w32]
theorem pw32 : (2 : Int) ^ min (32 : Int).toNat IntKind.u64.bits = 4294967296:=by decide
theorem sh32 (v : Int) : aBin .shr (.imm (.int .u64 v)) (.imm (.int .u64 32)) = some (.imm (.int .u64 (v.fdiv 4294967296))):=by
  rw [bin_shr (by decide),pw32]
theorem fdiv_pos {v m : Int} (h0 : 0 ≤ v) (hm : 0 < m) : v.fdiv m = v / m:=by
  rw [Int.fdiv_eq_ediv_of_nonneg v (by omega)]
def andU (x y : Int) : Int:=wrp .u64 ((BitVec.ofInt 64 x &&& BitVec.ofInt 64 y).toNat : Nat)
@[go_sem high] theorem bin_andU {x y : Int} : aBin .and (.imm (.int .u64 x)) (.imm (.int .u64 y)) = some (.imm (.int .u64 (andU x y))):=by rw [bin_and]; rfl
theorem okRight (n : Nat) (k v : Int) (hk : ckKind k = 0) (h0 : 0 ≤ v) (h1 : v < 18446744073709551616) : callP (level E (n+2)) 119 [.int .i64 k,.int .u64 v] = some (.bool (vOk k v)):=by
  have hk' : 0 ≤ k ∧ k < 11:=by unfold ckKind at hk; split at hk; assumption; omega
  obtain ⟨o1,o8,o16,o32,o64⟩:=okOnes n
  rw [p119]
  have hc : k = 0 ∨ k = 1 ∨ k = 2 ∨ k = 3 ∨ k = 4 ∨ k = 5 ∨ k = 6 ∨ k = 7 ∨ k = 8 ∨ k = 9 ∨ k = 10:=by omega
  have f1:=fits_iff h0 h1 1 (by decide) 1 (by decide)
  have f8:=fits_iff h0 h1 8 (by decide) 255 (by decide)
  have f16:=fits_iff h0 h1 16 (by decide) 65535 (by decide)
  have f32:=fits_iff h0 h1 32 (by decide) 4294967295 (by decide)
  have f64:=fits_iff h0 h1 64 (by decide) 18446744073709551615 (by decide)
  have b64 : IntKind.u64.bits = 64:=rfl
  rcases hc with rfl | rfl | rfl | rfl | rfl | rfl | rfl | rfl | rfl | rfl | rfl
  · simp only [go_sem,Nat.reduceAdd,Nat.reduceSub,Nat.reduceMul,Nat.reduceDiv,Nat.reduceMod,Nat.reduceLeDiff,Nat.reduceLT,Nat.reduceBEq,Int.reduceToNat,Int.reduceLT,Int.reduceLE,Int.reduceEq,o1,b64]; exact congrArg (fun b => some (D.bool b)) (f1.trans rfl)
  · simp only [go_sem,Nat.reduceAdd,Nat.reduceSub,Nat.reduceMul,Nat.reduceDiv,Nat.reduceMod,Nat.reduceLeDiff,Nat.reduceLT,Nat.reduceBEq,Int.reduceToNat,Int.reduceLT,Int.reduceLE,Int.reduceEq,o8,b64]; exact congrArg (fun b => some (D.bool b)) (f8.trans rfl)
  · simp only [go_sem,Nat.reduceAdd,Nat.reduceSub,Nat.reduceMul,Nat.reduceDiv,Nat.reduceMod,Nat.reduceLeDiff,Nat.reduceLT,Nat.reduceBEq,Int.reduceToNat,Int.reduceLT,Int.reduceLE,Int.reduceEq,o16,b64]; exact congrArg (fun b => some (D.bool b)) (f16.trans rfl)
  · simp only [go_sem,Nat.reduceAdd,Nat.reduceSub,Nat.reduceMul,Nat.reduceDiv,Nat.reduceMod,Nat.reduceLeDiff,Nat.reduceLT,Nat.reduceBEq,Int.reduceToNat,Int.reduceLT,Int.reduceLE,Int.reduceEq,o32,b64]; exact congrArg (fun b => some (D.bool b)) (f32.trans rfl)
  · simp only [go_sem,Nat.reduceAdd,Nat.reduceSub,Nat.reduceMul,Nat.reduceDiv,Nat.reduceMod,Nat.reduceLeDiff,Nat.reduceLT,Nat.reduceBEq,Int.reduceToNat,Int.reduceLT,Int.reduceLE,Int.reduceEq,o64,b64]; exact congrArg (fun b => some (D.bool b)) (f64.trans rfl)
  · simp only [go_sem,Nat.reduceAdd,Nat.reduceSub,Nat.reduceMul,Nat.reduceDiv,Nat.reduceMod,Nat.reduceLeDiff,Nat.reduceLT,Nat.reduceBEq,Int.reduceToNat,Int.reduceLT,Int.reduceLE,Int.reduceEq,o8,b64]; exact congrArg (fun b => some (D.bool b)) (f8.trans rfl)
  · simp only [go_sem,Nat.reduceAdd,Nat.reduceSub,Nat.reduceMul,Nat.reduceDiv,Nat.reduceMod,Nat.reduceLeDiff,Nat.reduceLT,Nat.reduceBEq,Int.reduceToNat,Int.reduceLT,Int.reduceLE,Int.reduceEq,o16,b64]; exact congrArg (fun b => some (D.bool b)) (f16.trans rfl)
  · simp only [go_sem,Nat.reduceAdd,Nat.reduceSub,Nat.reduceMul,Nat.reduceDiv,Nat.reduceMod,Nat.reduceLeDiff,Nat.reduceLT,Nat.reduceBEq,Int.reduceToNat,Int.reduceLT,Int.reduceLE,Int.reduceEq,o32,b64]; exact congrArg (fun b => some (D.bool b)) (f32.trans rfl)
  · simp only [go_sem,Nat.reduceAdd,Nat.reduceSub,Nat.reduceMul,Nat.reduceDiv,Nat.reduceMod,Nat.reduceLeDiff,Nat.reduceLT,Nat.reduceBEq,Int.reduceToNat,Int.reduceLT,Int.reduceLE,Int.reduceEq,o64,b64]; exact congrArg (fun b => some (D.bool b)) (f64.trans rfl)
  · have r:=okRf n v
    have e : v.fdiv 4294967296 = v / 4294967296:=fdiv_pos h0 (by decide)
    have e2 : decide (v / 4294967296 = 0) = decide (v < 4294967296):=by rw [decide_eq_decide]; omega
    cases hr : decide (v < 4294967296)
    · rw [hr] at e2
      simp only [go_sem,Nat.reduceAdd,Nat.reduceSub,Nat.reduceMul,Nat.reduceDiv,Nat.reduceMod,Nat.reduceLeDiff,Nat.reduceLT,Nat.reduceBEq,Int.reduceToNat,Int.reduceLT,Int.reduceLE,Int.reduceEq,sh32,e,e2,vOk,hr]
    · rw [hr] at e2
      simp only [go_sem,Nat.reduceAdd,Nat.reduceSub,Nat.reduceMul,Nat.reduceDiv,Nat.reduceMod,Nat.reduceLeDiff,Nat.reduceLT,Nat.reduceBEq,Int.reduceToNat,Int.reduceLT,Int.reduceLE,Int.reduceEq,sh32,e,e2,r,vOk,hr]
  · have r1:=okRf n (v % 4294967296)
    have r2:=okRf n (v / 4294967296)
    have e : v.fdiv 4294967296 = v / 4294967296:=fdiv_pos h0 (by decide)
    have l : andU v 4294967295 = v % 4294967296:=low32 h0 h1
    cases hr : rfOk (v % 4294967296)
    · rw [hr] at r1
      simp only [go_sem,Nat.reduceAdd,Nat.reduceSub,Nat.reduceMul,Nat.reduceDiv,Nat.reduceMod,Nat.reduceLeDiff,Nat.reduceLT,Nat.reduceBEq,Int.reduceToNat,Int.reduceLT,Int.reduceLE,Int.reduceEq,o32,l,r1,vOk,hr]
    · rw [hr] at r1
      simp only [go_sem,Nat.reduceAdd,Nat.reduceSub,Nat.reduceMul,Nat.reduceDiv,Nat.reduceMod,Nat.reduceLeDiff,Nat.reduceLT,Nat.reduceBEq,Int.reduceToNat,Int.reduceLT,Int.reduceLE,Int.reduceEq,o32,l,r1,sh32,e,r2,vOk,hr]
theorem ckKind01 (k : Int) : ckKind k = 0 ∨ ckKind k = 11:=by unfold ckKind; split <;> omega
theorem okCheckValue (n : Nat) (k v : Int) (h0 : 0 ≤ v) (h1 : v < 18446744073709551616) : callP (level E (n+3)) 81 [.agg [.int .i64 k,.int .u64 v]] = some (.int .i64 (ckVal k v)):=by
  rw [p81]
  have i1:=okIsKind (n+1) k
  by_cases hk : ckKind k = 0
  · have hk' : 0 ≤ k ∧ k < 11:=by unfold ckKind at hk; split at hk; assumption; omega
    have h:=okRight n k v hk h0 h1
    have e1 : decide (0 ≤ k) = true:=decide_eq_true hk'.1
    have e2 : decide (k < 11) = true:=decide_eq_true hk'.2
    cases hv : vOk k v
    · rw [hv] at h
      simp only [go_sem,Nat.reduceAdd,Nat.reduceSub,Nat.reduceMul,Nat.reduceDiv,Nat.reduceMod,Nat.reduceLeDiff,Nat.reduceLT,Nat.reduceBEq,Int.reduceToNat,Int.reduceLT,Int.reduceLE,Int.reduceEq,i1,e1,e2,h,okNwhen,ckVal,hk,hv,Bool.false_eq_true]
    · rw [hv] at h
      simp only [go_sem,Nat.reduceAdd,Nat.reduceSub,Nat.reduceMul,Nat.reduceDiv,Nat.reduceMod,Nat.reduceLeDiff,Nat.reduceLT,Nat.reduceBEq,Int.reduceToNat,Int.reduceLT,Int.reduceLE,Int.reduceEq,i1,e1,e2,h,okNwhen,ckVal,hk,hv,Bool.false_eq_true]
  · have hk' : ¬ (0 ≤ k ∧ k < 11):=by unfold ckKind at hk; split at hk; exact absurd rfl hk; assumption
    by_cases h2 : 0 ≤ k
    · have e1 : decide (0 ≤ k) = true:=decide_eq_true h2
      have e2 : decide (k < 11) = false:=decide_eq_false (by omega)
      simp only [go_sem,Nat.reduceAdd,Nat.reduceSub,Nat.reduceMul,Nat.reduceDiv,Nat.reduceMod,Nat.reduceLeDiff,Nat.reduceLT,Nat.reduceBEq,Int.reduceToNat,Int.reduceLT,Int.reduceLE,Int.reduceEq,i1,e1,e2,ckVal,hk]
    · have e1 : decide (0 ≤ k) = false:=decide_eq_false h2
      simp only [go_sem,Nat.reduceAdd,Nat.reduceSub,Nat.reduceMul,Nat.reduceDiv,Nat.reduceMod,Nat.reduceLeDiff,Nat.reduceLT,Nat.reduceBEq,Int.reduceToNat,Int.reduceLT,Int.reduceLE,Int.reduceEq,i1,e1,ckVal,hk]
def ckB1 (k v : Int) : Int:=if ckVal k v = 0 then 0 else 1
theorem okCheckG (n : Nat) (k v : Int) (h0 : 0 ≤ v) (h1 : v < 18446744073709551616) : callP (level E (n+4)) 72 [.int .i64 k,.int .u64 v] = some (.int .i64 (ckB1 k v)):=by
  rw [p72]
  have h:=okCheckValue n k v h0 h1
  by_cases hv : ckVal k v = 0
  · simp only [go_sem,Nat.reduceAdd,Nat.reduceSub,Nat.reduceMul,Nat.reduceDiv,Nat.reduceMod,Nat.reduceLeDiff,Nat.reduceLT,Nat.reduceBEq,Int.reduceToNat,Int.reduceLT,Int.reduceLE,Int.reduceEq,h,hv,ne_eq,not_true_eq_false,okWhen,ckB1,Bool.false_eq_true]
  · simp only [go_sem,Nat.reduceAdd,Nat.reduceSub,Nat.reduceMul,Nat.reduceDiv,Nat.reduceMod,Nat.reduceLeDiff,Nat.reduceLT,Nat.reduceBEq,Int.reduceToNat,Int.reduceLT,Int.reduceLE,Int.reduceEq,h,hv,ne_eq,not_false_eq_true,okWhen,ckB1,Bool.false_eq_true]
theorem okWidth (n : Nat) (k : Int) (hk : ckKind k = 0) : callP (level E (n+2)) 117 [.int .i64 k] = some (.tup [.int .i64 (wdL.getD k.toNat 0),.int .i64 0]):=by
  have hk' : 0 ≤ k ∧ k < 11:=by unfold ckKind at hk; split at hk; assumption; omega
  rw [p117]
  have i1:=okIsKind n k
  have e1 : decide (0 ≤ k) = true:=decide_eq_true hk'.1
  have e2 : decide (k < 11) = true:=decide_eq_true hk'.2
  have hc : k = 0 ∨ k = 1 ∨ k = 2 ∨ k = 3 ∨ k = 4 ∨ k = 5 ∨ k = 6 ∨ k = 7 ∨ k = 8 ∨ k = 9 ∨ k = 10:=by omega
  rw [e1,e2] at i1
  rcases hc with rfl | rfl | rfl | rfl | rfl | rfl | rfl | rfl | rfl | rfl | rfl <;> simp only [go_sem,Nat.reduceAdd,Nat.reduceSub,Nat.reduceMul,Nat.reduceDiv,Nat.reduceMod,Nat.reduceLeDiff,Nat.reduceLT,Nat.reduceBEq,Int.reduceToNat,Int.reduceLT,Int.reduceLE,Int.reduceEq,i1] <;> rfl
def szL : List Int:=[1,1,2,4,8,1,2,4,8,4,8]
theorem okSizeG (n : Nat) (k : Int) (hk : ckKind k = 0) : callP (level E (n+3)) 71 [.int .i64 k] = some (.int .i64 (szL.getD k.toNat 0)):=by
  have hk' : 0 ≤ k ∧ k < 11:=by unfold ckKind at hk; split at hk; assumption; omega
  rw [p71]
  have h1:=okWidth n k hk
  have w1 : wrp .i64 (8 * 1) = 8:=by decide
  have w2 : wrp .i64 (1 * 2) = 2:=by decide
  have w3 : wrp .i64 (8 * 2) = 16:=by decide
  have w4 : wrp .i64 (2 * 2) = 4:=by decide
  have w5 : wrp .i64 (8 * 4) = 32:=by decide
  have w6 : wrp .i64 (4 * 2) = 8:=by decide
  have w7 : wrp .i64 (8 * 8) = 64:=by decide
  have hc : k = 0 ∨ k = 1 ∨ k = 2 ∨ k = 3 ∨ k = 4 ∨ k = 5 ∨ k = 6 ∨ k = 7 ∨ k = 8 ∨ k = 9 ∨ k = 10:=by omega
  rcases hc with rfl | rfl | rfl | rfl | rfl | rfl | rfl | rfl | rfl | rfl | rfl
  · rw [show wdL.getD (0 : Int).toNat 0 = 1 from rfl] at h1; simp only [go_sem,Nat.reduceAdd,Nat.reduceSub,Nat.reduceMul,Nat.reduceDiv,Nat.reduceMod,Nat.reduceLeDiff,Nat.reduceLT,Nat.reduceBEq,Int.reduceToNat,Int.reduceLT,Int.reduceLE,Int.reduceEq,h1,rnd_eq,w1,w2,w3,w4,w5,w6,w7]; rfl
  · rw [show wdL.getD (1 : Int).toNat 0 = 8 from rfl] at h1; simp only [go_sem,Nat.reduceAdd,Nat.reduceSub,Nat.reduceMul,Nat.reduceDiv,Nat.reduceMod,Nat.reduceLeDiff,Nat.reduceLT,Nat.reduceBEq,Int.reduceToNat,Int.reduceLT,Int.reduceLE,Int.reduceEq,h1,rnd_eq,w1,w2,w3,w4,w5,w6,w7]; rfl
  · rw [show wdL.getD (2 : Int).toNat 0 = 16 from rfl] at h1; simp only [go_sem,Nat.reduceAdd,Nat.reduceSub,Nat.reduceMul,Nat.reduceDiv,Nat.reduceMod,Nat.reduceLeDiff,Nat.reduceLT,Nat.reduceBEq,Int.reduceToNat,Int.reduceLT,Int.reduceLE,Int.reduceEq,h1,rnd_eq,w1,w2,w3,w4,w5,w6,w7]; rfl
  · rw [show wdL.getD (3 : Int).toNat 0 = 32 from rfl] at h1; simp only [go_sem,Nat.reduceAdd,Nat.reduceSub,Nat.reduceMul,Nat.reduceDiv,Nat.reduceMod,Nat.reduceLeDiff,Nat.reduceLT,Nat.reduceBEq,Int.reduceToNat,Int.reduceLT,Int.reduceLE,Int.reduceEq,h1,rnd_eq,w1,w2,w3,w4,w5,w6,w7]; rfl
  · rw [show wdL.getD (4 : Int).toNat 0 = 64 from rfl] at h1; simp only [go_sem,Nat.reduceAdd,Nat.reduceSub,Nat.reduceMul,Nat.reduceDiv,Nat.reduceMod,Nat.reduceLeDiff,Nat.reduceLT,Nat.reduceBEq,Int.reduceToNat,Int.reduceLT,Int.reduceLE,Int.reduceEq,h1,rnd_eq,w1,w2,w3,w4,w5,w6,w7]; rfl
  · rw [show wdL.getD (5 : Int).toNat 0 = 8 from rfl] at h1; simp only [go_sem,Nat.reduceAdd,Nat.reduceSub,Nat.reduceMul,Nat.reduceDiv,Nat.reduceMod,Nat.reduceLeDiff,Nat.reduceLT,Nat.reduceBEq,Int.reduceToNat,Int.reduceLT,Int.reduceLE,Int.reduceEq,h1,rnd_eq,w1,w2,w3,w4,w5,w6,w7]; rfl
  · rw [show wdL.getD (6 : Int).toNat 0 = 16 from rfl] at h1; simp only [go_sem,Nat.reduceAdd,Nat.reduceSub,Nat.reduceMul,Nat.reduceDiv,Nat.reduceMod,Nat.reduceLeDiff,Nat.reduceLT,Nat.reduceBEq,Int.reduceToNat,Int.reduceLT,Int.reduceLE,Int.reduceEq,h1,rnd_eq,w1,w2,w3,w4,w5,w6,w7]; rfl
  · rw [show wdL.getD (7 : Int).toNat 0 = 32 from rfl] at h1; simp only [go_sem,Nat.reduceAdd,Nat.reduceSub,Nat.reduceMul,Nat.reduceDiv,Nat.reduceMod,Nat.reduceLeDiff,Nat.reduceLT,Nat.reduceBEq,Int.reduceToNat,Int.reduceLT,Int.reduceLE,Int.reduceEq,h1,rnd_eq,w1,w2,w3,w4,w5,w6,w7]; rfl
  · rw [show wdL.getD (8 : Int).toNat 0 = 64 from rfl] at h1; simp only [go_sem,Nat.reduceAdd,Nat.reduceSub,Nat.reduceMul,Nat.reduceDiv,Nat.reduceMod,Nat.reduceLeDiff,Nat.reduceLT,Nat.reduceBEq,Int.reduceToNat,Int.reduceLT,Int.reduceLE,Int.reduceEq,h1,rnd_eq,w1,w2,w3,w4,w5,w6,w7]; rfl
  · rw [show wdL.getD (9 : Int).toNat 0 = 32 from rfl] at h1; simp only [go_sem,Nat.reduceAdd,Nat.reduceSub,Nat.reduceMul,Nat.reduceDiv,Nat.reduceMod,Nat.reduceLeDiff,Nat.reduceLT,Nat.reduceBEq,Int.reduceToNat,Int.reduceLT,Int.reduceLE,Int.reduceEq,h1,rnd_eq,w1,w2,w3,w4,w5,w6,w7]; rfl
  · rw [show wdL.getD (10 : Int).toNat 0 = 64 from rfl] at h1; simp only [go_sem,Nat.reduceAdd,Nat.reduceSub,Nat.reduceMul,Nat.reduceDiv,Nat.reduceMod,Nat.reduceLeDiff,Nat.reduceLT,Nat.reduceBEq,Int.reduceToNat,Int.reduceLT,Int.reduceLE,Int.reduceEq,h1,rnd_eq,w1,w2,w3,w4,w5,w6,w7]; rfl
end Go.Vm.P4Z

/- Chapter 04,functions: the reference's points. -/
set_option maxRecDepth 100000
set_option maxHeartbeats 2000000
namespace Go.Vm.P4Z
open Go Go.Vm Go.Vm.P4
def ptW : Bx → Int → List Int
  | [],_ => []
  | r :: b,n => ad r.lo (n.tmod r.ex) :: ptW b (wrp .i64 (n.tdiv r.ex))
theorem pt_fold : ∀ (l : Bx) (acc : List Int) (n : Int),(l.foldl (fun (a : List Int × Int) r => (a.1 ++ [ad r.lo (a.2.tmod r.ex)],wrp .i64 (a.2.tdiv r.ex))) (acc,n)).1 = acc ++ ptW l n
  | [],acc,n => by simp [ptW]
  | r :: l,acc,n => by simp only [List.foldl_cons,pt_fold l,ptW,List.append_assoc,List.cons_append,List.nil_append]
theorem okRPoint (n : Nat) (b : Bool) (l : Bx) (k : Int) (hl : l.length < 1000000) (hx : ∀ r ∈ l,r.ex ≠ 0) : callP (level E (n+1)) 75 [enB b l,.int .i64 k] = some (slD true 1 ((ptW l k).map ic)):=by
  rw [p75]
  simp only [go_sem,Nat.reduceAdd,Nat.reduceSub,Nat.reduceMul,Nat.reduceDiv,Nat.reduceMod,Nat.reduceLeDiff,Nat.reduceLT,Nat.reduceBEq,Int.reduceToNat,Int.reduceLT,Int.reduceLE,Int.reduceEq]
  have h:=loop_fold (f:=aCode (level E (n)) ⟨0,false⟩ b75_0) (h:=head ⟨0,false⟩ [1,1,0,1,1,0]) (Φ:=outC ⟨0,false⟩ [0,0,0,1,0,0]) l (fun (a : List Int × Int) i => ⟨[.imm (slD b 2 (l.map enR)),.imm (.int .i64 a.2),.junk,vK 0 1 (a.1.map ic),.imm (.int .i64 i),.junk],oK 1 (a.1.map ic),none⟩) (fun a i => a.1.length = i)
    (fun a r => (a.1 ++ [ad r.lo (a.2.tmod r.ex)],wrp .i64 (a.2.tdiv r.ex))) (fun a => some (.exit 0,⟨[.junk,.junk,.junk,vK 0 1 (a.1.map ic),.junk,.junk],oK 1 (a.1.map ic),none⟩)) ([],k) rfl
    (fun a i r hI h2 h1 => ⟨by
      rw [rnd_eq]
      have e1 : (a.1.length + 1) * 9 ≤ 70368744177664:=by omega
      have e2:=hx r (List.mem_of_getElem? h1)
      rcases a with ⟨_ | ⟨y,t⟩,m⟩
      · simp only [go_sem,Nat.reduceAdd,Nat.reduceSub,Nat.reduceMul,Nat.reduceDiv,Nat.reduceMod,Nat.reduceLeDiff,Nat.reduceLT,Nat.reduceBEq,Int.reduceToNat,Int.reduceLT,Int.reduceLE,Int.reduceEq,lt_t h2,h1,ad,vK,oK,e2,ne_eq,not_false_eq_true]
        rw [wrpS (by omega)]
      · simp only [List.length_cons] at e1
        simp only [go_sem,Nat.reduceAdd,Nat.reduceSub,Nat.reduceMul,Nat.reduceDiv,Nat.reduceMod,Nat.reduceLeDiff,Nat.reduceLT,Nat.reduceBEq,Int.reduceToNat,Int.reduceLT,Int.reduceLE,Int.reduceEq,lt_t h2,h1,ad,vK,oK,e1,e2,ne_eq,not_false_eq_true]
        rw [wrpS (by omega)],by simp [hI]⟩)
    (fun a _ => by
      rw [rnd_eq]
      rcases a with ⟨_ | ⟨y,t⟩,m⟩ <;> simp only [go_sem,Nat.reduceAdd,Nat.reduceSub,Nat.reduceMul,Nat.reduceDiv,Nat.reduceMod,Nat.reduceLeDiff,Nat.reduceLT,Nat.reduceBEq,Int.reduceToNat,Int.reduceLT,Int.reduceLE,Int.reduceEq,lt_f (Nat.le_refl _),vK,oK])
  rw [cast_0] at h
  simp only [List.map_nil,vK,oK] at h
  rw [h]
  generalize hA : (l.foldl (fun (a : List Int × Int) r => (a.1 ++ [ad r.lo (a.2.tmod r.ex)],wrp .i64 (a.2.tdiv r.ex))) ([],k)).1 = A
  have e:=pt_fold l [] k
  rw [hA,List.nil_append] at e
  rw [← e]
  rcases A with _ | ⟨y,t⟩ <;> simp only [go_sem,Nat.reduceAdd,Nat.reduceSub,Nat.reduceMul,Nat.reduceDiv,Nat.reduceMod,Nat.reduceLeDiff,Nat.reduceLT,Nat.reduceBEq,Int.reduceToNat,Int.reduceLT,Int.reduceLE,Int.reduceEq,vK,oK,slD]
end Go.Vm.P4Z

/- Chapter 04,functions: the reference's values. -/
set_option maxRecDepth 100000
set_option maxHeartbeats 2000000
namespace Go.Vm.P4Z
open Go Go.Vm Go.Vm.P4
theorem okQCheckKind (n : Nat) (k : Int) : callP (level E (n+2)) 42 [.int .i64 k] = some (.int .i64 (ckKind k)):=by
  rw [p42]
  by_cases h : k < 0
  · have e : ¬ (0 ≤ k ∧ k < 11):=by omega
    simp only [go_sem,Nat.reduceAdd,Nat.reduceSub,Nat.reduceMul,Nat.reduceDiv,Nat.reduceMod,Nat.reduceLeDiff,Nat.reduceLT,Nat.reduceBEq,Int.reduceToNat,Int.reduceLT,Int.reduceLE,Int.reduceEq,h,okQWhen,ckKind,e]
  · by_cases h2 : k ≥ 11
    · have e : ¬ (0 ≤ k ∧ k < 11):=by omega
      simp only [go_sem,Nat.reduceAdd,Nat.reduceSub,Nat.reduceMul,Nat.reduceDiv,Nat.reduceMod,Nat.reduceLeDiff,Nat.reduceLT,Nat.reduceBEq,Int.reduceToNat,Int.reduceLT,Int.reduceLE,Int.reduceEq,h,h2,okQWhen,ckKind,e]
    · have e : 0 ≤ k ∧ k < 11:=by omega
      simp only [go_sem,Nat.reduceAdd,Nat.reduceSub,Nat.reduceMul,Nat.reduceDiv,Nat.reduceMod,Nat.reduceLeDiff,Nat.reduceLT,Nat.reduceBEq,Int.reduceToNat,Int.reduceLT,Int.reduceLE,Int.reduceEq,h,h2,okQWhen,ckKind,e,and_self,Bool.false_eq_true]
theorem okQWidth (n : Nat) (k : Int) (hk : ckKind k = 0) : callP (level E (n+1)) 104 [.int .i64 k] = some (.int .i64 (wdL.getD k.toNat 0)):=by
  have hk' : 0 ≤ k ∧ k < 11:=by unfold ckKind at hk; split at hk; assumption; omega
  rw [p104]
  have hc : k = 0 ∨ k = 1 ∨ k = 2 ∨ k = 3 ∨ k = 4 ∨ k = 5 ∨ k = 6 ∨ k = 7 ∨ k = 8 ∨ k = 9 ∨ k = 10:=by omega
  rcases hc with rfl | rfl | rfl | rfl | rfl | rfl | rfl | rfl | rfl | rfl | rfl <;> simp only [go_sem,Nat.reduceAdd,Nat.reduceSub,Nat.reduceMul,Nat.reduceDiv,Nat.reduceMod,Nat.reduceLeDiff,Nat.reduceLT,Nat.reduceBEq,Int.reduceToNat,Int.reduceLT,Int.reduceLE,Int.reduceEq] <;> rfl
def mskF (w : Nat) : Int:=(List.range w).foldl (fun a _ => wrp .u64 (wrp .u64 (2 * a) + 1)) 0
theorem okQMask (n : Nat) (w : Nat) (hw : w < 1000000) : callP (level E (n+1)) 103 [.int .i64 w] = some (.int .u64 (mskF w)):=by
  rw [p103]
  simp only [go_sem,Nat.reduceAdd,Nat.reduceSub,Nat.reduceMul,Nat.reduceDiv,Nat.reduceMod,Nat.reduceLeDiff,Nat.reduceLT,Nat.reduceBEq,Int.reduceToNat,Int.reduceLT,Int.reduceLE,Int.reduceEq]
  have h:=loop_fold (f:=aCode (level E (n)) ⟨0,false⟩ b103_0) (h:=head ⟨0,false⟩ [1,0,1,1,0]) (Φ:=outC ⟨0,false⟩ [0,0,1,0,0]) (List.range w) (fun (a : Int) i => ⟨[.imm (.int .i64 w),.junk,.imm (.int .u64 a),.imm (.int .i64 i),.junk],[],none⟩) (fun _ _ => True)
    (fun a x => wrp .u64 (wrp .u64 (2 * a) + 1)) (fun a => some (.exit 0,⟨[.junk,.junk,.imm (.int .u64 a),.junk,.junk],[],none⟩)) 0 trivial
    (fun a i x _ h2 h1 => ⟨by
      rw [List.length_range] at h2
      rw [rnd_eq]
      simp only [go_sem,Nat.reduceAdd,Nat.reduceSub,Nat.reduceMul,Nat.reduceDiv,Nat.reduceMod,Nat.reduceLeDiff,Nat.reduceLT,Nat.reduceBEq,Int.reduceToNat,Int.reduceLT,Int.reduceLE,Int.reduceEq,lt_t h2]
      rw [wrpS (by omega)],trivial⟩)
    (fun _ _ => by
      rw [rnd_eq]
      rw [List.length_range]
      simp only [go_sem,Nat.reduceAdd,Nat.reduceSub,Nat.reduceMul,Nat.reduceDiv,Nat.reduceMod,Nat.reduceLeDiff,Nat.reduceLT,Nat.reduceBEq,Int.reduceToNat,Int.reduceLT,Int.reduceLE,Int.reduceEq,lt_f (Nat.le_refl _)])
  rw [cast_0] at h
  rw [h]
  simp only [go_sem,Nat.reduceAdd,Nat.reduceSub,Nat.reduceMul,Nat.reduceDiv,Nat.reduceMod,Nat.reduceLeDiff,Nat.reduceLT,Nat.reduceBEq,Int.reduceToNat,Int.reduceLT,Int.reduceLE,Int.reduceEq,mskF]
theorem msk : mskF 1 = 1 ∧ mskF 8 = 255 ∧ mskF 16 = 65535 ∧ mskF 32 = 4294967295 ∧ mskF 64 = 18446744073709551615:=by decide +kernel
theorem okQPart (n : Nat) (v : Int) (h0 : 0 ≤ v) (h1 : v < 18446744073709551616) : callP (level E (n+1)) 105 [.int .u64 v] = some (.bool (decide (v / 8388608 % 256 ≠ 255) && decide (v ≠ 2147483648))):=by
  rw [p105]
  have d1 : 0 ≤ v / 8388608:=Int.ediv_nonneg h0 (by decide)
  have d2 : v / 8388608 ≤ v:=Int.ediv_le_self _ h0
  have e1 : v.tdiv 8388608 = v / 8388608:=Int.tdiv_eq_ediv_of_nonneg h0
  have e2 : wrp .u64 (v / 8388608) = v / 8388608:=wrpU d1 (by omega)
  have e3 : (v / 8388608).tmod 256 = v / 8388608 % 256:=Int.tmod_eq_emod_of_nonneg d1
  have n1 : (8388608 : Int) ≠ 0:=by decide
  have n2 : (256 : Int) ≠ 0:=by decide
  by_cases h : v / 8388608 % 256 = 255
  · simp only [go_sem,Nat.reduceAdd,Nat.reduceSub,Nat.reduceMul,Nat.reduceDiv,Nat.reduceMod,Nat.reduceLeDiff,Nat.reduceLT,Nat.reduceBEq,Int.reduceToNat,Int.reduceLT,Int.reduceLE,Int.reduceEq,n1,n2,e1,e2,e3,h,ne_eq,not_true_eq_false,not_false_eq_true,Bool.false_and]
  · by_cases h' : v = 2147483648
    · subst h'
      simp only [go_sem,Nat.reduceAdd,Nat.reduceSub,Nat.reduceMul,Nat.reduceDiv,Nat.reduceMod,Nat.reduceLeDiff,Nat.reduceLT,Nat.reduceBEq,Int.reduceToNat,Int.reduceLT,Int.reduceLE,Int.reduceEq,n1,n2,e1,e2,e3,h,ne_eq,not_true_eq_false,not_false_eq_true,Bool.and_false]
    · simp only [go_sem,Nat.reduceAdd,Nat.reduceSub,Nat.reduceMul,Nat.reduceDiv,Nat.reduceMod,Nat.reduceLeDiff,Nat.reduceLT,Nat.reduceBEq,Int.reduceToNat,Int.reduceLT,Int.reduceLE,Int.reduceEq,n1,n2,e1,e2,e3,h,h',ne_eq,not_true_eq_false,not_false_eq_true,Bool.and_true]
theorem part_rf {v : Int} (h0 : 0 ≤ v) (h1 : v < 4294967296) : (decide (v / 8388608 % 256 ≠ 255) && decide (v ≠ 2147483648)) = rfOk v:=by
  unfold rfOk
  rw [Int.emod_eq_of_lt h0 h1]
theorem okQCheckValue (n : Nat) (k v : Int) (h0 : 0 ≤ v) (h1 : v < 18446744073709551616) : callP (level E (n+3)) 44 [.agg [.int .i64 k,.int .u64 v]] = some (.int .i64 (ckVal k v)):=by
  rw [p44]
  have i1:=okQCheckKind n k
  by_cases hk : ckKind k = 0
  · have hk' : 0 ≤ k ∧ k < 11:=by unfold ckKind at hk; split at hk; assumption; omega
    have w1:=okQWidth (n+1) k hk
    obtain ⟨m1,m8,m16,m32,m64⟩:=msk
    have q1:=okQMask (n+1) 1 (by decide)
    have q8:=okQMask (n+1) 8 (by decide)
    have q16:=okQMask (n+1) 16 (by decide)
    have q32:=okQMask (n+1) 32 (by decide)
    have q64:=okQMask (n+1) 64 (by decide)
    rw [m1] at q1; rw [m8] at q8; rw [m16] at q16; rw [m32] at q32; rw [m64] at q64
    have c8 : ((8 : Nat) : Int) = 8:=rfl
    have c1 : ((1 : Nat) : Int) = 1:=rfl
    have c16 : ((16 : Nat) : Int) = 16:=rfl
    have c32 : ((32 : Nat) : Int) = 32:=rfl
    have c64 : ((64 : Nat) : Int) = 64:=rfl
    rw [c1] at q1; rw [c8] at q8; rw [c16] at q16; rw [c32] at q32; rw [c64] at q64
    have n1 : (4294967296 : Int) ≠ 0:=by decide
    have hc : k = 0 ∨ k = 1 ∨ k = 2 ∨ k = 3 ∨ k = 4 ∨ k = 5 ∨ k = 6 ∨ k = 7 ∨ k = 8 ∨ k = 9 ∨ k = 10:=by omega
    rw [hk] at i1
    have key : ∀ w m : Int,callP (level E (n+2)) 104 [.int .i64 k] = some (.int .i64 w) → callP (level E (n+2)) 103 [.int .i64 w] = some (.int .u64 m) → k ≠ 9 → k ≠ 10 → vOk k v = decide (v < m + 1) →
        pdC (fin [RV.v 1] (aCode (level E (n+2)) ⟨0,false⟩ c44 ⟨[.imm (.agg [.int .i64 k,.int .u64 v]),.junk,.junk,.junk,.junk,.junk,.junk,.junk],[],none⟩)) = some (.int .i64 (ckVal k v)):=by
      intro w m a1 a2 k9 k10 hv
      by_cases h : v ≤ m
      · have h' : v < m + 1:=by omega
        simp only [go_sem,Nat.reduceAdd,Nat.reduceSub,Nat.reduceMul,Nat.reduceDiv,Nat.reduceMod,Nat.reduceLeDiff,Nat.reduceLT,Nat.reduceBEq,Int.reduceToNat,Int.reduceLT,Int.reduceLE,Int.reduceEq,i1,a1,a2,h,h',k9,k10,hk,hv,okQWhen,ckVal,ne_eq,not_true_eq_false,Bool.false_eq_true]
      · have h' : ¬ v < m + 1:=by omega
        simp only [go_sem,Nat.reduceAdd,Nat.reduceSub,Nat.reduceMul,Nat.reduceDiv,Nat.reduceMod,Nat.reduceLeDiff,Nat.reduceLT,Nat.reduceBEq,Int.reduceToNat,Int.reduceLT,Int.reduceLE,Int.reduceEq,i1,a1,a2,h,h',k9,k10,hk,hv,okQWhen,ckVal,ne_eq,not_true_eq_false,Bool.false_eq_true]
    rcases hc with rfl | rfl | rfl | rfl | rfl | rfl | rfl | rfl | rfl | rfl | rfl
    · exact key 1 1 w1 q1 (by decide) (by decide) rfl
    · exact key 8 255 w1 q8 (by decide) (by decide) rfl
    · exact key 16 65535 w1 q16 (by decide) (by decide) rfl
    · exact key 32 4294967295 w1 q32 (by decide) (by decide) rfl
    · exact key 64 18446744073709551615 w1 q64 (by decide) (by decide) rfl
    · exact key 8 255 w1 q8 (by decide) (by decide) rfl
    · exact key 16 65535 w1 q16 (by decide) (by decide) rfl
    · exact key 32 4294967295 w1 q32 (by decide) (by decide) rfl
    · exact key 64 18446744073709551615 w1 q64 (by decide) (by decide) rfl
    · rw [show wdL.getD (9 : Int).toNat 0 = 32 from rfl] at w1
      have hv : vOk 9 v = (decide (v < 4294967296) && rfOk v):=rfl
      have pq:=okQPart (n+1) v h0 h1
      by_cases h : v ≤ 4294967295
      · have h' : v < 4294967296:=by omega
        rw [part_rf h0 h'] at pq
        cases hr : rfOk v
        · rw [hr] at pq
          simp only [go_sem,Nat.reduceAdd,Nat.reduceSub,Nat.reduceMul,Nat.reduceDiv,Nat.reduceMod,Nat.reduceLeDiff,Nat.reduceLT,Nat.reduceBEq,Int.reduceToNat,Int.reduceLT,Int.reduceLE,Int.reduceEq,i1,w1,q32,pq,h,h',hk,hv,hr,okQWhen,ckVal,ne_eq,not_true_eq_false,Bool.false_eq_true]
        · rw [hr] at pq
          simp only [go_sem,Nat.reduceAdd,Nat.reduceSub,Nat.reduceMul,Nat.reduceDiv,Nat.reduceMod,Nat.reduceLeDiff,Nat.reduceLT,Nat.reduceBEq,Int.reduceToNat,Int.reduceLT,Int.reduceLE,Int.reduceEq,i1,w1,q32,pq,h,h',hk,hv,hr,okQWhen,ckVal,ne_eq,not_true_eq_false,Bool.false_eq_true]
      · have h' : ¬ v < 4294967296:=by omega
        simp only [go_sem,Nat.reduceAdd,Nat.reduceSub,Nat.reduceMul,Nat.reduceDiv,Nat.reduceMod,Nat.reduceLeDiff,Nat.reduceLT,Nat.reduceBEq,Int.reduceToNat,Int.reduceLT,Int.reduceLE,Int.reduceEq,i1,w1,q32,h,h',hk,hv,okQWhen,ckVal,ne_eq,not_true_eq_false,Bool.false_eq_true]
    · rw [show wdL.getD (10 : Int).toNat 0 = 64 from rfl] at w1
      have hv : vOk 10 v = (rfOk (v % 4294967296) && rfOk (v / 4294967296)):=rfl
      have d1 : 0 ≤ v / 4294967296:=Int.ediv_nonneg h0 (by decide)
      have d2 : v / 4294967296 < 4294967296:=by omega
      have e1 : v.tdiv 4294967296 = v / 4294967296:=Int.tdiv_eq_ediv_of_nonneg h0
      have e2 : wrp .u64 (v / 4294967296) = v / 4294967296:=wrpU d1 (by omega)
      have e3 : v.tmod 4294967296 = v % 4294967296:=Int.tmod_eq_emod_of_nonneg h0
      have pq:=okQPart (n+1) (v % 4294967296) (by omega) (by omega)
      have pr:=okQPart (n+1) (v / 4294967296) d1 (by omega)
      rw [part_rf (by omega) (by omega)] at pq pr
      have h : v ≤ 18446744073709551615:=by omega
      cases hr : rfOk (v % 4294967296)
      · rw [hr] at pq
        simp only [go_sem,Nat.reduceAdd,Nat.reduceSub,Nat.reduceMul,Nat.reduceDiv,Nat.reduceMod,Nat.reduceLeDiff,Nat.reduceLT,Nat.reduceBEq,Int.reduceToNat,Int.reduceLT,Int.reduceLE,Int.reduceEq,n1,e3,i1,w1,q64,pq,h,hk,hv,hr,okQWhen,ckVal,ne_eq,not_true_eq_false,not_false_eq_true,Bool.false_eq_true]
      · rw [hr] at pq
        cases hr2 : rfOk (v / 4294967296)
        · rw [hr2] at pr
          simp only [go_sem,Nat.reduceAdd,Nat.reduceSub,Nat.reduceMul,Nat.reduceDiv,Nat.reduceMod,Nat.reduceLeDiff,Nat.reduceLT,Nat.reduceBEq,Int.reduceToNat,Int.reduceLT,Int.reduceLE,Int.reduceEq,n1,e1,e2,e3,i1,w1,q64,pq,pr,h,hk,hv,hr,hr2,okQWhen,ckVal,ne_eq,not_true_eq_false,not_false_eq_true,Bool.false_eq_true]
        · rw [hr2] at pr
          simp only [go_sem,Nat.reduceAdd,Nat.reduceSub,Nat.reduceMul,Nat.reduceDiv,Nat.reduceMod,Nat.reduceLeDiff,Nat.reduceLT,Nat.reduceBEq,Int.reduceToNat,Int.reduceLT,Int.reduceLE,Int.reduceEq,n1,e1,e2,e3,i1,w1,q64,pq,pr,h,hk,hv,hr,hr2,okQWhen,ckVal,ne_eq,not_true_eq_false,not_false_eq_true,Bool.false_eq_true]
  · simp only [go_sem,Nat.reduceAdd,Nat.reduceSub,Nat.reduceMul,Nat.reduceDiv,Nat.reduceMod,Nat.reduceLeDiff,Nat.reduceLT,Nat.reduceBEq,Int.reduceToNat,Int.reduceLT,Int.reduceLE,Int.reduceEq,i1,hk,ckVal,ne_eq,not_false_eq_true]
    rcases ckKind01 k with h | h
    · exact absurd h hk
    · rw [h]
end Go.Vm.P4Z

/- Chapter 04,plain law: points and indices. -/
set_option maxRecDepth 100000
set_option maxHeartbeats 1000000
namespace Go.Vm.P4Z
open Go Go.Vm Go.Vm.P4
def Okr (l : Bx) : Prop:=∀ r ∈ l,ckRange r = 0
theorem Okr.tl {r : Rg} {l : Bx} (h : Okr (r :: l)) : Okr l:=fun x hx => h x (List.mem_cons_of_mem _ hx)
theorem ad_lo {r : Rg} {x : Int} (h : ckRange r = 0) (h0 : 0 ≤ x) (h1 : x ≤ 64) : ad r.lo x = r.lo + x:=by
  have:=ckRange0 h
  exact wrp_ok (by omega)
theorem ptW_dig : ∀ (l : Bx) (n : Int),Okr l → (∀ r ∈ l,0 < r.ex) → 0 ≤ n → n < 4611686018427387904 → ptW l n = digits l n
  | [],n,_,_,_,_ => rfl
  | r :: l,n,h,hx,hn,hb => by
    have hr:=ckRange0 (h r (by simp))
    have hr0:=hx r (by simp)
    have m0:=Int.emod_nonneg n (show r.ex ≠ 0 by omega)
    have m1:=Int.emod_lt_of_pos n hr0
    have e1 : n.tmod r.ex = n % r.ex:=Int.tmod_eq_emod_of_nonneg hn
    have e2 : n.tdiv r.ex = n / r.ex:=Int.tdiv_eq_ediv_of_nonneg hn
    have d0 : 0 ≤ n / r.ex:=Int.ediv_nonneg hn (by omega)
    have d1 : n / r.ex ≤ n:=Int.ediv_le_self _ hn
    rw [ptW,digits,e1,e2,ad_lo (h r (by simp)) m0 (by omega),wrp_ok (by omega),ptW_dig l _ h.tl (fun x hx' => hx x (List.mem_cons_of_mem _ hx')) d0 (by omega)]
def InB : Bx → List Int → Prop
  | r :: l,x :: p => r.lo ≤ x ∧ x < r.lo + r.ex ∧ InB l p
  | [],[] => True
  | _,_ => False
theorem digits_in : ∀ (l : Bx) (n : Int),(∀ r ∈ l,0 < r.ex) → InB l (digits l n)
  | [],_,_ => True.intro
  | r :: l,n,hx => by
    have hr0:=hx r (by simp)
    have m0:=Int.emod_nonneg n (show r.ex ≠ 0 by omega)
    have m1:=Int.emod_lt_of_pos n hr0
    exact ⟨by omega,by omega,digits_in l _ (fun x hx' => hx x (List.mem_cons_of_mem _ hx'))⟩
theorem nextW_P : ∀ (l : Bx) (p q : List Int),Okr l → InB l p → nextW l (p ++ q) = nextP l p ++ q
  | [],[],q,_,_ => by cases q <;> rfl
  | [],_ :: _,_,_,h => h.elim
  | _ :: _,[],_,_,h => h.elim
  | r :: l,x :: p,q,h,hi => by
    have hr:=ckRange0 (h r (by simp))
    obtain ⟨h1,h2,h3⟩:=hi
    have e1 : ad x 1 = x + 1:=wrp_ok (by omega)
    have e2 : ad r.lo r.ex = r.lo + r.ex:=wrp_ok (by omega)
    rw [List.cons_append,nextW,nextP,e1,e2]
    by_cases hc : x + 1 < r.lo + r.ex
    · rw [if_pos hc,if_pos hc]; rfl
    · rw [if_neg hc,if_neg hc,nextW_P l p q h.tl h3]; rfl
theorem plc_dig (l : Bx) (h : Okr l) (h3 : l.length ≤ 3) (hx : ∀ r ∈ l,0 < r.ex) : ∀ i : Nat,plc l i = digits l i ++ List.replicate (3 - l.length) 0
  | 0 => by
    rw [plc,plc0,show ((0 : Nat) : Int) = 0 from rfl,digits_zero,lows]
    rcases l with _ | ⟨r,_ | ⟨s,_ | ⟨t,_ | ⟨u,l⟩⟩⟩⟩
    · rfl
    · rfl
    · rfl
    · rfl
    · simp at h3
  | i + 1 => by
    rw [plc,plc_dig l h h3 hx i,nextW_P l _ _ h (digits_in l _ hx),next_digits l _ hx (by omega)]
    rfl
theorem plc_take (l : Bx) (h : Okr l) (h3 : l.length ≤ 3) (hx : ∀ r ∈ l,0 < r.ex) (i : Nat) : (plc l i).take l.length = digits l i:=by
  rw [plc_dig l h h3 hx i,List.take_append_of_le_length (by rw [digits_len]; exact Nat.le_refl _),List.take_of_length_le (by rw [digits_len]; exact Nat.le_refl _)]
theorem many_cons1 (r : Rg) : many [r] = ml 1 r.ex:=rfl
theorem many_cons2 (r s : Rg) : many [r,s] = ml (ml 1 r.ex) s.ex:=rfl
theorem many_cons3 (r s t : Rg) : many [r,s,t] = ml (ml (ml 1 r.ex) s.ex) t.ex:=rfl
theorem ex_pos {l : Bx} (h : Okr l) (hm : many l ≠ 0) : ∀ r ∈ l,0 < r.ex:=by
  intro r hr
  have h1:=(ckRange0 (h r hr)).2.2.1
  rcases Int.lt_or_eq_of_le h1 with h2 | h2
  · exact h2
  · exfalso
    apply hm
    have key : ∀ (l : Bx) (n : Int),r ∈ l → l.foldl (fun n r => ml n r.ex) n = 0:=by
      intro l
      have zero : ∀ l : Bx,l.foldl (fun n r => ml n r.ex) 0 = 0:=by
        intro l
        induction l with
        | nil => rfl
        | cons x l ih => rw [List.foldl_cons,show ml 0 x.ex = 0 from by rw [ml,Int.zero_mul]; decide]; exact ih
      induction l with
      | nil => intro n h; cases h
      | cons x l ih =>
        intro n hm
        rw [List.foldl_cons]
        rcases List.mem_cons.1 hm with rfl | hm
        · rw [← h2,show ml n 0 = 0 from by rw [ml,Int.mul_zero]; decide]; exact zero l
        · exact ih _ hm
    exact key l 1 hr
end Go.Vm.P4Z

/- Chapter 04,functions: the reference's images: elements,copies,what is checked. -/
set_option maxRecDepth 100000
set_option maxHeartbeats 4000000
namespace Go.Vm.P4Z
open Go Go.Vm Go.Vm.P4
theorem okRElement (n : Nat) (m : Im) (c : Bool) (p : List Int) (h3 : m.bx.length ≤ 3) (hs : m.bx.length ≤ m.st.length) (hp : m.bx.length ≤ p.length) : callP (level E (n+1)) 74 [enIm m,slD c 1 (p.map ic)] = some (.int .i64 (elt m.bx p m.st 0)):=by
  rw [p74]
  simp only [go_sem,Nat.reduceAdd,Nat.reduceSub,Nat.reduceMul,Nat.reduceDiv,Nat.reduceMod,Nat.reduceLeDiff,Nat.reduceLT,Nat.reduceBEq,Int.reduceToNat,Int.reduceLT,Int.reduceLE,Int.reduceEq,enIm]
  have h:=loop_fold (f:=aCode (level E (n)) ⟨0,false⟩ b74_0) (h:=head ⟨0,false⟩ [0,1,0,1,1,1,0]) (Φ:=outC ⟨0,false⟩ [0,0,0,0,1,0,0]) m.bx (fun (a : List Int × List Int × Int) i => ⟨[.junk,.imm (slD c 1 (p.map ic)),.junk,.ptr 0 0,.imm (.int .i64 a.2.2),.imm (.int .i64 i),.junk],[.box [.imm (.int .i64 m.kd),.imm (enB m.bb m.bx),.imm (slD m.tb 1 (m.st.map ic)),.imm (slD m.db 1 (m.dt.map ub))]],none⟩) (fun a i => p.drop i = a.1 ∧ m.st.drop i = a.2.1)
    (fun a r => (a.1.tail,a.2.1.tail,ad a.2.2 (ml (sb (a.1.headD 0) r.lo) (a.2.1.headD 0)))) (fun a => some (.exit 0,⟨[.junk,.junk,.junk,.junk,.imm (.int .i64 a.2.2),.junk,.junk],[],none⟩)) (p,m.st,0) ⟨rfl,rfl⟩
    (fun a i r hI h2 h1 => by
      rcases a with ⟨_ | ⟨x,t⟩,_ | ⟨y,u⟩,k⟩
      · have:=drop_n hI.1; omega
      · have:=drop_n hI.1; omega
      · have:=drop_n hI.2; omega
      obtain ⟨q1,q2,q3⟩:=drop_c hI.1
      obtain ⟨u1,u2,u3⟩:=drop_c hI.2
      refine ⟨?_,q3,u3⟩
      rw [rnd_eq]
      simp only [go_sem,Nat.reduceAdd,Nat.reduceSub,Nat.reduceMul,Nat.reduceDiv,Nat.reduceMod,Nat.reduceLeDiff,Nat.reduceLT,Nat.reduceBEq,Int.reduceToNat,Int.reduceLT,Int.reduceLE,Int.reduceEq,lt_t h2,h1,q1,u1,enB]
      rw [wrpS (by omega)]
      rfl)
    (fun _ _ => by
      rw [rnd_eq]
      simp only [go_sem,Nat.reduceAdd,Nat.reduceSub,Nat.reduceMul,Nat.reduceDiv,Nat.reduceMod,Nat.reduceLeDiff,Nat.reduceLT,Nat.reduceBEq,Int.reduceToNat,Int.reduceLT,Int.reduceLE,Int.reduceEq,lt_f (Nat.le_refl _),enB])
  rw [cast_0] at h
  simp only [go_sem,Nat.reduceAdd,Nat.reduceSub,Nat.reduceMul,Nat.reduceDiv,Nat.reduceMod,Nat.reduceLeDiff,Nat.reduceLT,Nat.reduceBEq,Int.reduceToNat,Int.reduceLT,Int.reduceLE,Int.reduceEq] at h
  rw [h]
  simp only [go_sem,Nat.reduceAdd,Nat.reduceSub,Nat.reduceMul,Nat.reduceDiv,Nat.reduceMod,Nat.reduceLeDiff,Nat.reduceLT,Nat.reduceBEq,Int.reduceToNat,Int.reduceLT,Int.reduceLE,Int.reduceEq]
  rw [elt_fold m.bx p m.st 0 hp hs]
theorem okRCheckData (n : Nat) (b : Bool) (kd : Int) (l : List Int) (hl : l.length < 1000000) (hv : ∀ v ∈ l,0 ≤ v ∧ v < 18446744073709551616) : callP (level E (n+4)) 73 [.int .i64 kd,slD b 1 (l.map ub)] = some (.int .i64 (fnz (l.map (ckB1 kd)))):=by
  rw [p73]
  simp only [go_sem,Nat.reduceAdd,Nat.reduceSub,Nat.reduceMul,Nat.reduceDiv,Nat.reduceMod,Nat.reduceLeDiff,Nat.reduceLT,Nat.reduceBEq,Int.reduceToNat,Int.reduceLT,Int.reduceLE,Int.reduceEq]
  have h:=loop_run (f:=aCode (level E (n+3)) ⟨0,false⟩ b73_0) (h:=head ⟨0,false⟩ [1,1,0,1,0,0]) (Φ:=outC ⟨0,false⟩ [0,0,1,0,0,0]) l (fun (_ : Unit) i => ⟨[.imm (.int .i64 kd),.imm (slD b 1 (l.map ub)),.junk,.imm (.int .i64 i),.junk,.junk],[],none⟩) (fun _ _ => True)
    (fun _ x => if ckB1 kd x = 0 then .inl () else .inr (some (.ret,⟨[.junk,.junk,.imm (.int .i64 1),.junk,.junk,.junk],[],none⟩))) (fun _ => some (.exit 0,⟨[.junk,.junk,.junk,.junk,.junk,.junk],[],none⟩)) () trivial
    (fun _ i x _ h2 h1 => ⟨by
      obtain ⟨q1,q2⟩:=hv x (List.mem_of_getElem? h1)
      have hc:=okQCheckValue n kd x q1 q2
      rw [rnd_eq]
      by_cases h0 : ckVal kd x = 0
      · simp only [go_sem,Nat.reduceAdd,Nat.reduceSub,Nat.reduceMul,Nat.reduceDiv,Nat.reduceMod,Nat.reduceLeDiff,Nat.reduceLT,Nat.reduceBEq,Int.reduceToNat,Int.reduceLT,Int.reduceLE,Int.reduceEq,lt_t h2,h1,hc,h0,ckB1,ne_eq,not_true_eq_false]
        rw [wrpS (by omega)]
      · simp only [go_sem,Nat.reduceAdd,Nat.reduceSub,Nat.reduceMul,Nat.reduceDiv,Nat.reduceMod,Nat.reduceLeDiff,Nat.reduceLT,Nat.reduceBEq,Int.reduceToNat,Int.reduceLT,Int.reduceLE,Int.reduceEq,lt_t h2,h1,hc,h0,ckB1,ne_eq,not_false_eq_true,show ¬ (1 : Int) = 0 by decide],fun _ _ => trivial⟩)
    (fun _ _ => by
      rw [rnd_eq]
      simp only [go_sem,Nat.reduceAdd,Nat.reduceSub,Nat.reduceMul,Nat.reduceDiv,Nat.reduceMod,Nat.reduceLeDiff,Nat.reduceLT,Nat.reduceBEq,Int.reduceToNat,Int.reduceLT,Int.reduceLE,Int.reduceEq,lt_f (Nat.le_refl _)])
  rw [cast_0] at h
  rw [h]
  clear h hl hv
  induction l with
  | nil => simp only [go_sem,Nat.reduceAdd,Nat.reduceSub,Nat.reduceMul,Nat.reduceDiv,Nat.reduceMod,Nat.reduceLeDiff,Nat.reduceLT,Nat.reduceBEq,Int.reduceToNat,Int.reduceLT,Int.reduceLE,Int.reduceEq,runL_nil,fnz]
  | cons x r ih =>
    by_cases h0 : ckVal kd x = 0
    · have e : ckB1 kd x = 0:=by rw [ckB1,if_pos h0]
      simp only [runL_cons,List.map_cons,e,if_true,fnz]; exact ih
    · have e : ckB1 kd x = 1:=by rw [ckB1,if_neg h0]
      simp only [go_sem,Nat.reduceAdd,Nat.reduceSub,Nat.reduceMul,Nat.reduceDiv,Nat.reduceMod,Nat.reduceLeDiff,Nat.reduceLT,Nat.reduceBEq,Int.reduceToNat,Int.reduceLT,Int.reduceLE,Int.reduceEq,runL_cons,e,fnz,show ¬ (1 : Int) = 0 by decide]
theorem okRStrides (n : Nat) (b : Bool) (l : Bx) (hl : l.length < 1000000) : callP (level E (n+1)) 106 [enB b l] = some (slD true 1 ((strides 1 l).map ic)):=by
  rw [p106]
  simp only [go_sem,Nat.reduceAdd,Nat.reduceSub,Nat.reduceMul,Nat.reduceDiv,Nat.reduceMod,Nat.reduceLeDiff,Nat.reduceLT,Nat.reduceBEq,Int.reduceToNat,Int.reduceLT,Int.reduceLE,Int.reduceEq]
  have h:=loop_fold (f:=aCode (level E (n)) ⟨0,false⟩ b106_0) (h:=head ⟨0,false⟩ [1,0,1,1,1,0]) (Φ:=outC ⟨0,false⟩ [0,0,1,0,0,0]) l (fun (a : List Int × Int) i => ⟨[.imm (slD b 2 (l.map enR)),.junk,vK 0 1 (a.1.map ic),.imm (.int .i64 a.2),.imm (.int .i64 i),.junk],oK 1 (a.1.map ic),none⟩) (fun a i => a.1.length = i)
    (fun a x => (a.1 ++ [a.2],ml a.2 x.ex)) (fun a => some (.exit 0,⟨[.junk,.junk,vK 0 1 (a.1.map ic),.junk,.junk,.junk],oK 1 (a.1.map ic),none⟩)) ([],1) rfl
    (fun a i x hI h2 h1 => ⟨by
      rw [rnd_eq]
      have e1 : (a.1.length + 1) * 9 ≤ 70368744177664:=by omega
      rcases a with ⟨_ | ⟨y,t⟩,m⟩
      · simp only [go_sem,Nat.reduceAdd,Nat.reduceSub,Nat.reduceMul,Nat.reduceDiv,Nat.reduceMod,Nat.reduceLeDiff,Nat.reduceLT,Nat.reduceBEq,Int.reduceToNat,Int.reduceLT,Int.reduceLE,Int.reduceEq,lt_t h2,h1,ml,vK,oK]
        rw [wrpS (by omega)]
      · simp only [List.length_cons] at e1
        simp only [go_sem,Nat.reduceAdd,Nat.reduceSub,Nat.reduceMul,Nat.reduceDiv,Nat.reduceMod,Nat.reduceLeDiff,Nat.reduceLT,Nat.reduceBEq,Int.reduceToNat,Int.reduceLT,Int.reduceLE,Int.reduceEq,lt_t h2,h1,ml,vK,oK,e1]
        rw [wrpS (by omega)],by simp [hI]⟩)
    (fun a _ => by
      rw [rnd_eq]
      rcases a with ⟨_ | ⟨y,t⟩,m⟩ <;> simp only [go_sem,Nat.reduceAdd,Nat.reduceSub,Nat.reduceMul,Nat.reduceDiv,Nat.reduceMod,Nat.reduceLeDiff,Nat.reduceLT,Nat.reduceBEq,Int.reduceToNat,Int.reduceLT,Int.reduceLE,Int.reduceEq,lt_f (Nat.le_refl _),vK,oK])
  rw [cast_0] at h
  simp only [List.map_nil,vK,oK] at h
  rw [h]
  generalize hA : (l.foldl (fun (a : List Int × Int) (x : Rg) => (a.1 ++ [a.2],ml a.2 x.ex)) ([],1)).1 = A
  have e:=strides_fold l [] 1
  rw [hA,List.nil_append] at e
  rw [← e]
  rcases A with _ | ⟨y,t⟩ <;> simp only [go_sem,Nat.reduceAdd,Nat.reduceSub,Nat.reduceMul,Nat.reduceDiv,Nat.reduceMod,Nat.reduceLeDiff,Nat.reduceLT,Nat.reduceBEq,Int.reduceToNat,Int.reduceLT,Int.reduceLE,Int.reduceEq,vK,oK,slD]
theorem okOwnInts (n : Nat) (b : Bool) (l : List Int) (hl : l.length < 1000000) : callP (level E (n+1)) 62 [slD b 1 (l.map ic)] = some (slD true 1 (l.map ic)):=by
  rw [p62]
  rcases l with _ | ⟨x,t⟩
  · cases b <;> simp only [go_sem,Nat.reduceAdd,Nat.reduceSub,Nat.reduceMul,Nat.reduceDiv,Nat.reduceMod,Nat.reduceLeDiff,Nat.reduceLT,Nat.reduceBEq,Int.reduceToNat,Int.reduceLT,Int.reduceLE,Int.reduceEq,slD] <;> rfl
  · have e : (t.length + 1) * 9 ≤ 70368744177664:=by simp at hl; omega
    have e0 : slD b 1 ((x :: t).map ic) = .sl 1 ((x :: t).map ic):=by cases b <;> rfl
    rw [e0]
    simp only [go_sem,Nat.reduceAdd,Nat.reduceSub,Nat.reduceMul,Nat.reduceDiv,Nat.reduceMod,Nat.reduceLeDiff,Nat.reduceLT,Nat.reduceBEq,Int.reduceToNat,Int.reduceLT,Int.reduceLE,Int.reduceEq,e] <;> rfl
theorem okOwnBits (n : Nat) (b : Bool) (l : List Int) (hl : l.length < 1000000) : callP (level E (n+1)) 38 [slD b 1 (l.map ub)] = some (slD true 1 (l.map ub)):=by
  rw [p38]
  rcases l with _ | ⟨x,t⟩
  · cases b <;> simp only [go_sem,Nat.reduceAdd,Nat.reduceSub,Nat.reduceMul,Nat.reduceDiv,Nat.reduceMod,Nat.reduceLeDiff,Nat.reduceLT,Nat.reduceBEq,Int.reduceToNat,Int.reduceLT,Int.reduceLE,Int.reduceEq,slD] <;> rfl
  · have e : (t.length + 1) * 9 ≤ 70368744177664:=by simp at hl; omega
    have e0 : slD b 1 ((x :: t).map ub) = .sl 1 ((x :: t).map ub):=by cases b <;> rfl
    rw [e0]
    simp only [go_sem,Nat.reduceAdd,Nat.reduceSub,Nat.reduceMul,Nat.reduceDiv,Nat.reduceMod,Nat.reduceLeDiff,Nat.reduceLT,Nat.reduceBEq,Int.reduceToNat,Int.reduceLT,Int.reduceLE,Int.reduceEq,e] <;> rfl
def Im.own (m : Im) : Im:={ m with bb:=true,tb:=true,db:=true }
theorem okOwnBitsI (n : Nat) (b : Bool) (l : List Int) (hl : l.length < 1000000) : callI (level E (n+1)) 38 [slD b 1 (l.map ub)] = some (vK 0 1 (l.map ub),oK 1 (l.map ub)):=by
  rw [i38]
  rcases l with _ | ⟨x,t⟩
  · cases b <;> simp only [go_sem,Nat.reduceAdd,Nat.reduceSub,Nat.reduceMul,Nat.reduceDiv,Nat.reduceMod,Nat.reduceLeDiff,Nat.reduceLT,Nat.reduceBEq,Int.reduceToNat,Int.reduceLT,Int.reduceLE,Int.reduceEq,slD,vK,oK] <;> rfl
  · have e : (t.length + 1) * 9 ≤ 70368744177664:=by simp at hl; omega
    have e0 : slD b 1 ((x :: t).map ub) = .sl 1 ((x :: t).map ub):=by cases b <;> rfl
    rw [e0]
    simp only [go_sem,Nat.reduceAdd,Nat.reduceSub,Nat.reduceMul,Nat.reduceDiv,Nat.reduceMod,Nat.reduceLeDiff,Nat.reduceLT,Nat.reduceBEq,Int.reduceToNat,Int.reduceLT,Int.reduceLE,Int.reduceEq,e,vK,oK] <;> rfl
theorem okOwnImage (n : Nat) (m : Im) (hx : m.bx.length < 1000000) (hs : m.st.length < 1000000) (hd : m.dt.length < 1000000) : callP (level E (n+2)) 10 [enIm m] = some (enIm m.own):=by
  rw [p10]
  have b1:=okOwnBox n m.bb m.bx hx
  have i1:=okOwnInts n m.tb m.st hs
  have u1:=okOwnBitsI n m.db m.dt hd
  rcases hq : m.dt with _ | ⟨x,t⟩
  · rw [hq] at u1
    simp only [go_sem,Nat.reduceAdd,Nat.reduceSub,Nat.reduceMul,Nat.reduceDiv,Nat.reduceMod,Nat.reduceLeDiff,Nat.reduceLT,Nat.reduceBEq,Int.reduceToNat,Int.reduceLT,Int.reduceLE,Int.reduceEq,vK,oK] at u1
    simp only [go_sem,Nat.reduceAdd,Nat.reduceSub,Nat.reduceMul,Nat.reduceDiv,Nat.reduceMod,Nat.reduceLeDiff,Nat.reduceLT,Nat.reduceBEq,Int.reduceToNat,Int.reduceLT,Int.reduceLE,Int.reduceEq,enIm,b1,i1,u1,hq,vK,oK,Im.own]
    rfl
  · rw [hq] at u1
    simp only [go_sem,Nat.reduceAdd,Nat.reduceSub,Nat.reduceMul,Nat.reduceDiv,Nat.reduceMod,Nat.reduceLeDiff,Nat.reduceLT,Nat.reduceBEq,Int.reduceToNat,Int.reduceLT,Int.reduceLE,Int.reduceEq,vK,oK] at u1
    simp only [go_sem,Nat.reduceAdd,Nat.reduceSub,Nat.reduceMul,Nat.reduceDiv,Nat.reduceMod,Nat.reduceLeDiff,Nat.reduceLT,Nat.reduceBEq,Int.reduceToNat,Int.reduceLT,Int.reduceLE,Int.reduceEq,enIm,b1,i1,u1,hq,vK,oK,Im.own]
    rfl
theorem okSameImage (n : Nat) (m o : Im) (h1 : o.kd = m.kd) (h2 : o.bx = m.bx) (h3 : o.st = m.st) (h4 : o.dt = m.dt) (hx : m.bx.length < 1000000) (hs : m.st.length < 1000000) (hd : m.dt.length < 1000000) : callP (level E (n+2)) 18 [enIm m,enIm o] = some (.bool true):=by
  rw [p18]
  have b1:=okSameBox n m.bb o.bb m.bx (by omega)
  have i1:=okSameInts n m.tb o.tb m.st (by omega)
  have u1:=okSameBits n m.db o.db m.dt (by omega)
  simp only [go_sem,Nat.reduceAdd,Nat.reduceSub,Nat.reduceMul,Nat.reduceDiv,Nat.reduceMod,Nat.reduceLeDiff,Nat.reduceLT,Nat.reduceBEq,Int.reduceToNat,Int.reduceLT,Int.reduceLE,Int.reduceEq,enIm,h1,h2,h3,h4,b1,i1,u1]
def shortI (m : Im) : Bool:=decide (m.bx.length ≤ 4) && decide (m.st.length ≤ 5) && decide ((m.bx.take 4).foldl (fun n r => ml n (max 0 (min r.ex 200))) 1 ≤ 100) && decide (m.dt.length ≤ 200)
theorem okShortImage (n : Nat) (m : Im) : callP (level E (n+1)) 7 [enIm m] = some (.bool (shortI m)):=by
  rw [p7]
  simp only [go_sem,Nat.reduceAdd,Nat.reduceSub,Nat.reduceMul,Nat.reduceDiv,Nat.reduceMod,Nat.reduceLeDiff,Nat.reduceLT,Nat.reduceBEq,Int.reduceToNat,Int.reduceLT,Int.reduceLE,Int.reduceEq,enIm]
  have h:=loop_fold (f:=aCode (level E (n)) ⟨0,false⟩ b7_0) (h:=head ⟨0,false⟩ [0,0,1,1,1,0]) (Φ:=outC ⟨0,false⟩ [0,0,1,1,0,0]) (m.bx.take 4) (fun (a : Int) i => ⟨[.junk,.junk,.imm (.ptr [.int .i64 m.kd,enB m.bb m.bx,slD m.tb 1 (m.st.map ic),slD m.db 1 (m.dt.map ub)]),.imm (.int .i64 a),.imm (.int .i64 i),.junk],[],none⟩) (fun _ _ => True)
    (fun a x => ml a (max 0 (min x.ex 200))) (fun a => some (.exit 0,⟨[.junk,.junk,.imm (.ptr [.int .i64 m.kd,enB m.bb m.bx,slD m.tb 1 (m.st.map ic),slD m.db 1 (m.dt.map ub)]),.imm (.int .i64 a),.junk,.junk],[],none⟩)) 1 trivial
    (fun a i x _ h2 h1 => ⟨by
      rw [List.length_take] at h2
      rw [List.getElem?_take_of_lt (by omega)] at h1
      have h4 : (i : Int) < 4:=by omega
      rw [rnd_eq]
      simp only [go_sem,Nat.reduceAdd,Nat.reduceSub,Nat.reduceMul,Nat.reduceDiv,Nat.reduceMod,Nat.reduceLeDiff,Nat.reduceLT,Nat.reduceBEq,Int.reduceToNat,Int.reduceLT,Int.reduceLE,Int.reduceEq,lt_t (show i < m.bx.length by omega),h1,h4,ml,enB]
      rw [wrpS (by omega)],trivial⟩)
    (fun a _ => by
      rw [rnd_eq]
      rw [List.length_take]
      by_cases h5 : m.bx.length ≤ 4
      · rw [Nat.min_eq_right h5]
        simp only [go_sem,Nat.reduceAdd,Nat.reduceSub,Nat.reduceMul,Nat.reduceDiv,Nat.reduceMod,Nat.reduceLeDiff,Nat.reduceLT,Nat.reduceBEq,Int.reduceToNat,Int.reduceLT,Int.reduceLE,Int.reduceEq,lt_f (Nat.le_refl _),enB]
      · rw [Nat.min_eq_left (by omega)]
        have h6 : (4 : Int) < m.bx.length:=by omega
        have h7 : ¬ (4 : Int) < 4:=by omega
        simp only [go_sem,Nat.reduceAdd,Nat.reduceSub,Nat.reduceMul,Nat.reduceDiv,Nat.reduceMod,Nat.reduceLeDiff,Nat.reduceLT,Nat.reduceBEq,Int.reduceToNat,Int.reduceLT,Int.reduceLE,Int.reduceEq,h6,h7,enB])
  rw [cast_0] at h
  try simp only [go_sem,Nat.reduceAdd,Nat.reduceSub,Nat.reduceMul,Nat.reduceDiv,Nat.reduceMod,Nat.reduceLeDiff,Nat.reduceLT,Nat.reduceBEq,Int.reduceToNat,Int.reduceLT,Int.reduceLE,Int.reduceEq] at h
  rw [h,shortI]
  clear h
  generalize (m.bx.take 4).foldl (fun n r => ml n (max 0 (min r.ex 200))) 1 = F
  by_cases h5 : (m.bx.length : Int) ≤ 4
  · have h6 : m.bx.length ≤ 4:=by omega
    by_cases h7 : (m.st.length : Int) ≤ 5
    · have h8 : m.st.length ≤ 5:=by omega
      by_cases h9 : F ≤ 100
      · by_cases h10 : (m.dt.length : Int) ≤ 200
        · have h11 : m.dt.length ≤ 200:=by omega
          simp only [go_sem,Nat.reduceAdd,Nat.reduceSub,Nat.reduceMul,Nat.reduceDiv,Nat.reduceMod,Nat.reduceLeDiff,Nat.reduceLT,Nat.reduceBEq,Int.reduceToNat,Int.reduceLT,Int.reduceLE,Int.reduceEq,h5,h6,h7,h8,h9,h10,h11]
        · have h11 : ¬ m.dt.length ≤ 200:=by omega
          simp only [go_sem,Nat.reduceAdd,Nat.reduceSub,Nat.reduceMul,Nat.reduceDiv,Nat.reduceMod,Nat.reduceLeDiff,Nat.reduceLT,Nat.reduceBEq,Int.reduceToNat,Int.reduceLT,Int.reduceLE,Int.reduceEq,h5,h6,h7,h8,h9,h10,h11]
      · simp only [go_sem,Nat.reduceAdd,Nat.reduceSub,Nat.reduceMul,Nat.reduceDiv,Nat.reduceMod,Nat.reduceLeDiff,Nat.reduceLT,Nat.reduceBEq,Int.reduceToNat,Int.reduceLT,Int.reduceLE,Int.reduceEq,h5,h6,h7,h8,h9,Bool.false_and]
    · have h8 : ¬ m.st.length ≤ 5:=by omega
      simp only [go_sem,Nat.reduceAdd,Nat.reduceSub,Nat.reduceMul,Nat.reduceDiv,Nat.reduceMod,Nat.reduceLeDiff,Nat.reduceLT,Nat.reduceBEq,Int.reduceToNat,Int.reduceLT,Int.reduceLE,Int.reduceEq,h5,h6,h7,h8,Bool.and_false,Bool.false_and]
  · have h6 : ¬ m.bx.length ≤ 4:=by omega
    simp only [go_sem,Nat.reduceAdd,Nat.reduceSub,Nat.reduceMul,Nat.reduceDiv,Nat.reduceMod,Nat.reduceLeDiff,Nat.reduceLT,Nat.reduceBEq,Int.reduceToNat,Int.reduceLT,Int.reduceLE,Int.reduceEq,h5,h6,Bool.false_and]
theorem okRBits (n : Nat) (m : Im) (c : Bool) (p : List Int) (h3 : m.bx.length ≤ 3) (hs : m.bx.length ≤ m.st.length) (hp : m.bx.length ≤ p.length) (k : Nat) (v : Int) (he : elt m.bx p m.st 0 = k) (hv : m.dt[k]? = some v) :
    callP (level E (n+2)) 48 [enIm m,slD c 1 (p.map ic)] = some (.int .u64 v):=by
  rw [p48]
  have h1:=okRElement n m c p h3 hs hp
  rw [he] at h1
  simp only [enIm] at h1
  simp only [go_sem,Nat.reduceAdd,Nat.reduceSub,Nat.reduceMul,Nat.reduceDiv,Nat.reduceMod,Nat.reduceLeDiff,Nat.reduceLT,Nat.reduceBEq,Int.reduceToNat,Int.reduceLT,Int.reduceLE,Int.reduceEq,enIm,h1,hv]
theorem okRMake (n : Nat) (kd : Int) (b c : Bool) (l : Bx) (dt : List Int) (hl : l.length < 1000000) (hd : dt.length < 1000000) : callP (level E (n+2)) 45 [.int .i64 kd,enB b l,slD c 1 (dt.map ub)] = some (enIm ⟨kd,true,l,true,strides 1 l,true,dt⟩):=by
  rw [p45]
  have b1:=okOwnBox n b l hl
  have s1:=okRStrides n b l hl
  have u1:=okOwnBits n c dt hd
  simp only [go_sem,Nat.reduceAdd,Nat.reduceSub,Nat.reduceMul,Nat.reduceDiv,Nat.reduceMod,Nat.reduceLeDiff,Nat.reduceLT,Nat.reduceBEq,Int.reduceToNat,Int.reduceLT,Int.reduceLE,Int.reduceEq,enIm,b1,s1,u1]
end Go.Vm.P4Z

/- Chapter 04,functions: the reference's check of an image. -/
set_option maxRecDepth 100000
set_option maxHeartbeats 4000000
namespace Go.Vm.P4Z
open Go Go.Vm Go.Vm.P4
theorem ia_refN {id sz lw k i : Nat} (h : i < k) : aIaddr none sz (.ref id sz lw k) (i : Int) = some (.ptr id ((lw + i) * sz)):=by
  rw [ia_ref (by omega) (by omega)]; rfl
theorem elt_app : ∀ (l : Bx) (p q s : List Int) (n : Int),l.length ≤ p.length → l.length ≤ s.length → elt l (p ++ q) s n = elt l p s n
  | [],p,q,s,n,_,_ => by cases p <;> cases q <;> cases s <;> rfl
  | r :: l,[],_,_,_,h,_ => by simp at h
  | r :: l,_ :: _,_,[],_,_,h => by simp at h
  | r :: l,x :: p,q,y :: s,n,h1,h2 => by
    rw [List.cons_append,elt,elt,elt_app l p q s _ (by simpa using h1) (by simpa using h2)]
def Oks (s : List Int) : Prop:=∀ x ∈ s,0 ≤ x ∧ x ≤ 4096
theorem elt_nn : ∀ (l : Bx) (p s : List Int) (n : Int),Okr l → InB l p → Oks s → l.length ≤ s.length → 0 ≤ n → n + l.length * 258048 ≤ 1000000000 → 0 ≤ elt l p s n
  | [],[],s,n,_,_,_,_,hn,_ => by cases s <;> simpa [elt] using hn
  | [],_ :: _,_,_,_,h,_,_,_,_ => h.elim
  | _ :: _,[],_,_,_,h,_,_,_,_ => h.elim
  | r :: l,x :: p,[],n,_,_,_,h,_,_ => by simp at h
  | r :: l,x :: p,y :: s,n,h,hi,hs,hl,hn,hb => by
    have hr:=ckRange0 (h r (by simp))
    obtain ⟨a1,a2,a3⟩:=hi
    obtain ⟨b1,b2⟩:=hs y (by simp)
    have e1 : sb x r.lo = x - r.lo:=wrp_ok (by omega)
    have m0 : 0 ≤ (x - r.lo) * y:=Int.mul_nonneg (by omega) b1
    have m1 : (x - r.lo) * y ≤ 63 * 4096:=Int.mul_le_mul (by omega) b2 b1 (by omega)
    have e2 : ml (x - r.lo) y = (x - r.lo) * y:=wrp_ok (by omega)
    simp only [List.length_cons] at hb
    have e3 : ad n ((x - r.lo) * y) = n + (x - r.lo) * y:=wrp_ok (by omega)
    rw [elt,e1,e2,e3]
    exact elt_nn l p s _ h.tl a3 (fun z hz => hs z (List.mem_cons_of_mem _ hz)) (by simpa using hl) (by omega) (by omega)
def tkA (N : Nat) (a : List Int) : List (List D):=(List.range N).map fun (j : Nat) => [D.bool (decide ((j : Int) ∈ a))]
theorem tkA_get {N j : Nat} {a : List Int} (h : j < N) : (tkA N a)[j]? = some [D.bool (decide ((j : Int) ∈ a))]:=by
  simp [tkA,h]
theorem tkA_len (N : Nat) (a : List Int) : (tkA N a).length = N:=by simp [tkA]
theorem tkA_nil (N : Nat) : tkA N [] = List.replicate N [D.bool false]:=by
  apply List.ext_getElem?
  intro j
  by_cases h : j < N
  · rw [tkA_get h]; simp [h]
  · rw [List.getElem?_eq_none (by rw [tkA_len]; omega),List.getElem?_eq_none (by simp; omega)]
theorem tkA_set (N k : Nat) (a : List Int) (h : k < N) : (tkA N a).set k [D.bool true] = tkA N (a ++ [(k : Int)]):=by
  apply List.ext_getElem?
  intro j
  by_cases hj : j < N
  · rw [List.getElem?_set,tkA_get hj,tkA_get hj]
    by_cases e : k = j
    · subst e; simp [tkA_len,h]
    · have e' : ¬ (j : Int) = (k : Int):=by omega
      simp [e,e']
  · rw [List.getElem?_eq_none (by simp [tkA_len]; omega),List.getElem?_eq_none (by rw [tkA_len]; omega)]
def ckI (m : Im) : Int:=ckIm (ckB1 m.kd) m
theorem okRCheckSt (n : Nat) (cs : List AV) (kd : Int) (bx : D) (b db : Bool) (st : List Int) (dt : D) (hl : st.length < 1000000) :
    outC ⟨0,false⟩ [0,1,1,0,0,0,0,0,0,0,0,0,0,0,0,0] (rnd (aCode (level E n) ⟨0,false⟩ b13_0) (head ⟨0,false⟩ [0,0,1,0,1,0,0,0,0,0,0,0,0,0,0,0])
      ⟨[.junk,.junk,.ptr 0 0,.junk,.imm (.int .i64 0),.junk,.junk,.junk,.junk,.junk,.junk,.junk,.junk,.junk,.junk,.junk],[.box [.imm (.int .i64 kd),.imm bx,.imm (slD b 1 (st.map ic)),.imm dt]],none⟩) =
    if st.any (fun x => !(decide (x ≥ 0) && decide (x ≤ 4096))) then some (.ret,⟨[.junk,.imm (.int .i64 3),.ptr 0 0,.junk,.junk,.junk,.junk,.junk,.junk,.junk,.junk,.junk,.junk,.junk,.junk,.junk],[.box [.imm (.int .i64 kd),.imm bx,.imm (slD b 1 (st.map ic)),.imm dt]],none⟩)
    else some (.exit 0,⟨[.junk,.junk,.ptr 0 0,.junk,.junk,.junk,.junk,.junk,.junk,.junk,.junk,.junk,.junk,.junk,.junk,.junk],[.box [.imm (.int .i64 kd),.imm bx,.imm (slD b 1 (st.map ic)),.imm dt]],none⟩):=by
  have h:=loop_run (f:=aCode (level E (n)) ⟨0,false⟩ b13_0) (h:=head ⟨0,false⟩ [0,0,1,0,1,0,0,0,0,0,0,0,0,0,0,0]) (Φ:=outC ⟨0,false⟩ [0,1,1,0,0,0,0,0,0,0,0,0,0,0,0,0]) st (fun (_ : Unit) i => ⟨[.junk,.junk,.ptr 0 0,.junk,.imm (.int .i64 i),.junk,.junk,.junk,.junk,.junk,.junk,.junk,.junk,.junk,.junk,.junk],[.box [.imm (.int .i64 kd),.imm bx,.imm (slD b 1 (st.map ic)),.imm dt]],none⟩) (fun _ _ => True)
    (fun _ x => if (!(decide (x ≥ 0) && decide (x ≤ 4096))) = true then .inr (some (.ret,⟨[.junk,.imm (.int .i64 3),.ptr 0 0,.junk,.junk,.junk,.junk,.junk,.junk,.junk,.junk,.junk,.junk,.junk,.junk,.junk],[.box [.imm (.int .i64 kd),.imm bx,.imm (slD b 1 (st.map ic)),.imm dt]],none⟩)) else .inl ()) (fun _ => some (.exit 0,⟨[.junk,.junk,.ptr 0 0,.junk,.junk,.junk,.junk,.junk,.junk,.junk,.junk,.junk,.junk,.junk,.junk,.junk],[.box [.imm (.int .i64 kd),.imm bx,.imm (slD b 1 (st.map ic)),.imm dt]],none⟩)) () trivial
    (fun _ i x _ h2 h1 => ⟨by
      rw [rnd_eq]
      by_cases k1 : x < 0
      · have k2 : decide (x ≥ 0) = false:=decide_eq_false (by omega)
        simp only [go_sem,Nat.reduceAdd,Nat.reduceSub,Nat.reduceMul,Nat.reduceDiv,Nat.reduceMod,Nat.reduceLeDiff,Nat.reduceLT,Nat.reduceBEq,Int.reduceToNat,Int.reduceLT,Int.reduceLE,Int.reduceEq,lt_t h2,h1,k1,k2,Bool.false_and,Bool.not_false]
      · have k2 : decide (x ≥ 0) = true:=decide_eq_true (by omega)
        by_cases k3 : x > 4096
        · have k4 : decide (x ≤ 4096) = false:=decide_eq_false (by omega)
          simp only [go_sem,Nat.reduceAdd,Nat.reduceSub,Nat.reduceMul,Nat.reduceDiv,Nat.reduceMod,Nat.reduceLeDiff,Nat.reduceLT,Nat.reduceBEq,Int.reduceToNat,Int.reduceLT,Int.reduceLE,Int.reduceEq,lt_t h2,h1,k1,k2,k3,k4,Bool.and_false,Bool.not_false]
        · have k4 : decide (x ≤ 4096) = true:=decide_eq_true (by omega)
          simp only [go_sem,Nat.reduceAdd,Nat.reduceSub,Nat.reduceMul,Nat.reduceDiv,Nat.reduceMod,Nat.reduceLeDiff,Nat.reduceLT,Nat.reduceBEq,Int.reduceToNat,Int.reduceLT,Int.reduceLE,Int.reduceEq,lt_t h2,h1,k1,k2,k3,k4,Bool.and_true,Bool.not_true,Bool.false_eq_true]
          rw [wrpS (by omega)],fun _ _ => trivial⟩)
    (fun _ _ => by
      rw [rnd_eq]
      simp only [go_sem,Nat.reduceAdd,Nat.reduceSub,Nat.reduceMul,Nat.reduceDiv,Nat.reduceMod,Nat.reduceLeDiff,Nat.reduceLT,Nat.reduceBEq,Int.reduceToNat,Int.reduceLT,Int.reduceLE,Int.reduceEq,lt_f (Nat.le_refl _)])
  rw [cast_0] at h
  rw [h]
  have e : ∀ l : List Int,runL (γ:=Option (AExit × S)) (fun (_ : Unit) x => if (!(decide (x ≥ 0) && decide (x ≤ 4096))) = true then .inr (some (.ret,⟨[.junk,.imm (.int .i64 3),.ptr 0 0,.junk,.junk,.junk,.junk,.junk,.junk,.junk,.junk,.junk,.junk,.junk,.junk,.junk],[.box [.imm (.int .i64 kd),.imm bx,.imm (slD b 1 (st.map ic)),.imm dt]],none⟩)) else .inl ()) (fun _ => some (.exit 0,⟨[.junk,.junk,.ptr 0 0,.junk,.junk,.junk,.junk,.junk,.junk,.junk,.junk,.junk,.junk,.junk,.junk,.junk],[.box [.imm (.int .i64 kd),.imm bx,.imm (slD b 1 (st.map ic)),.imm dt]],none⟩)) () l =
      if l.any (fun x => !(decide (x ≥ 0) && decide (x ≤ 4096))) then some (.ret,⟨[.junk,.imm (.int .i64 3),.ptr 0 0,.junk,.junk,.junk,.junk,.junk,.junk,.junk,.junk,.junk,.junk,.junk,.junk,.junk],[.box [.imm (.int .i64 kd),.imm bx,.imm (slD b 1 (st.map ic)),.imm dt]],none⟩)
      else some (.exit 0,⟨[.junk,.junk,.ptr 0 0,.junk,.junk,.junk,.junk,.junk,.junk,.junk,.junk,.junk,.junk,.junk,.junk,.junk],[.box [.imm (.int .i64 kd),.imm bx,.imm (slD b 1 (st.map ic)),.imm dt]],none⟩):=by
    intro l
    induction l with
    | nil => simp [runL_nil]
    | cons x r ih =>
      rw [runL_cons,List.any_cons]
      cases hx : (!(decide (x ≥ 0) && decide (x ≤ 4096)))
      · simp only [Bool.false_eq_true,if_false,Bool.false_or]; exact ih
      · simp only [if_true,Bool.true_or]
  exact e st
theorem okRCheckPts (n : Nat) (m : Im) (hm : ckBox m.bx = 0) (hs : m.bx.length = m.st.length) (ho : Oks m.st) (hd : m.dt.length < 1000000) (N : Nat) (hN : many m.bx = N) :
    outC ⟨0,false⟩ [0,1,0,0,0,0,0,0,0,0,0,0,0,0,0,0] (rnd (aCode (level E (n+1)) ⟨0,false⟩ b13_1) (head ⟨0,false⟩ [0,0,1,0,0,0,1,1,0,0,0,0,0,0,0,0])
      ⟨[.junk,.junk,.ptr 0 0,.junk,.junk,.junk,.ref 1 1 0 m.dt.length,.imm (.int .i64 0),.junk,.junk,.junk,.junk,.junk,.junk,.junk,.junk],[.box [.imm (.int .i64 m.kd),.imm (enB m.bb m.bx),.imm (slD m.tb 1 (m.st.map ic)),.imm (slD m.db 1 (m.dt.map ub))],.arr 1 (tkA m.dt.length [])],none⟩) =
    if ckPts m [] (List.range N) = 0 then some (.exit 2,⟨[.junk,.junk,.junk,.junk,.junk,.junk,.junk,.junk,.junk,.junk,.junk,.junk,.junk,.junk,.junk,.junk],[],none⟩) else some (.ret,⟨[.junk,.imm (.int .i64 (ckPts m [] (List.range N))),.junk,.junk,.junk,.junk,.junk,.junk,.junk,.junk,.junk,.junk,.junk,.junk,.junk,.junk],[],none⟩):=by
  obtain ⟨h1,h3,hr,h4⟩:=ckBox0 hm
  have hN2 : N ≤ 4096:=by omega
  have pr:=okRProduct n m.bb m.bx (by omega)
  have el : ∀ i,i < N → elt m.bx (ptW m.bx (i : Nat)) m.st 0 = elAt m i ∧ 0 ≤ elAt m i:=by
    intro i hi
    have hx:=ex_pos hr (by omega : many m.bx ≠ 0)
    have e1 : ptW m.bx (i : Nat) = digits m.bx i:=ptW_dig m.bx i hr hx (by omega) (by omega)
    have e2:=plc_dig m.bx hr h3 hx i
    have e3 : elAt m i = elt m.bx (digits m.bx i) m.st 0:=by
      rw [elAt,e2,elt_app _ _ _ _ _ (by rw [digits_len]; exact Nat.le_refl _) (by omega)]
    rw [e1,e3]
    refine ⟨rfl,elt_nn _ _ _ _ hr (digits_in _ _ hx) ho (by omega) (by omega) (by omega)⟩
  have h:=loop_run (f:=aCode (level E (n+1)) ⟨0,false⟩ b13_1) (h:=head ⟨0,false⟩ [0,0,1,0,0,0,1,1,0,0,0,0,0,0,0,0]) (Φ:=outC ⟨0,false⟩ [0,1,0,0,0,0,0,0,0,0,0,0,0,0,0,0]) (List.range N) (fun (a : List Int) i => ⟨[.junk,.junk,.ptr 0 0,.junk,.junk,.junk,.ref 1 1 0 m.dt.length,.imm (.int .i64 i),.junk,.junk,.junk,.junk,.junk,.junk,.junk,.junk],[.box [.imm (.int .i64 m.kd),.imm (enB m.bb m.bx),.imm (slD m.tb 1 (m.st.map ic)),.imm (slD m.db 1 (m.dt.map ub))],.arr 1 (tkA m.dt.length a)],none⟩) (fun _ _ => True)
    (fun a i => if (m.dt.length : Int) ≤ elAt m i then .inr (some (.ret,⟨[.junk,.imm (.int .i64 14),.junk,.junk,.junk,.junk,.junk,.junk,.junk,.junk,.junk,.junk,.junk,.junk,.junk,.junk],[],none⟩)) else if elAt m i ∈ a then .inr (some (.ret,⟨[.junk,.imm (.int .i64 26),.junk,.junk,.junk,.junk,.junk,.junk,.junk,.junk,.junk,.junk,.junk,.junk,.junk,.junk],[],none⟩)) else .inl (a ++ [elAt m i])) (fun _ => some (.exit 2,⟨[.junk,.junk,.junk,.junk,.junk,.junk,.junk,.junk,.junk,.junk,.junk,.junk,.junk,.junk,.junk,.junk],[],none⟩)) [] trivial
    (fun a i j _ h2 h5 => ⟨by
      have:=getRange h5
      subst this
      rw [List.length_range] at h2
      have hx:=ex_pos hr (by omega : many m.bx ≠ 0)
      have rp:=okRPoint n m.bb m.bx j (by omega) (fun r hr' => by have:=hx r hr'; omega)
      obtain ⟨e1,e2⟩:=el j h2
      have re:=okRElement n m true (ptW m.bx j) h3 (by omega) (by rw [ptW_dig m.bx j hr hx (by omega) (by omega),digits_len]; exact Nat.le_refl _)
      rw [e1] at re
      have hlt : (j : Int) < many m.bx:=by omega
      rw [rnd_eq]
      simp only [enIm] at re
      by_cases k1 : (m.dt.length : Int) ≤ elAt m j
      · have k1' : elAt m j ≥ (m.dt.length : Int):=k1
        simp only [go_sem,Nat.reduceAdd,Nat.reduceSub,Nat.reduceMul,Nat.reduceDiv,Nat.reduceMod,Nat.reduceLeDiff,Nat.reduceLT,Nat.reduceBEq,Int.reduceToNat,Int.reduceLT,Int.reduceLE,Int.reduceEq,pr,hlt,rp,re,k1,k1',enB]
      · have k1' : ¬ elAt m j ≥ (m.dt.length : Int):=k1
        obtain ⟨k,hk⟩ : ∃ k : Nat,elAt m j = k:=⟨(elAt m j).toNat,by omega⟩
        have hk2 : k < m.dt.length:=by omega
        rw [hk] at re k1 k1' ⊢
        have tg:=tkA_get (a:=a) hk2
        by_cases k2 : (k : Int) ∈ a
        · simp only [go_sem,Nat.reduceAdd,Nat.reduceSub,Nat.reduceMul,Nat.reduceDiv,Nat.reduceMod,Nat.reduceLeDiff,Nat.reduceLT,Nat.reduceBEq,Int.reduceToNat,Int.reduceLT,Int.reduceLE,Int.reduceEq,pr,hlt,rp,re,k1,k1',enB,tg,k2,tkA_len,hk2,ia_refN,Nat.zero_add,Nat.mul_one,Nat.mod_one,Nat.div_one]
        · simp only [go_sem,Nat.reduceAdd,Nat.reduceSub,Nat.reduceMul,Nat.reduceDiv,Nat.reduceMod,Nat.reduceLeDiff,Nat.reduceLT,Nat.reduceBEq,Int.reduceToNat,Int.reduceLT,Int.reduceLE,Int.reduceEq,pr,hlt,rp,re,k1,k1',enB,tg,k2,tkA_len,hk2,ia_refN,Nat.zero_add,Nat.mul_one,Nat.mod_one,Nat.div_one,tkA_set _ _ _ hk2]
          rw [wrpS (by omega)],fun _ _ => trivial⟩)
    (fun a _ => by
      rw [rnd_eq]
      rw [List.length_range]
      have hlt : ¬ (N : Int) < many m.bx:=by omega
      simp only [go_sem,Nat.reduceAdd,Nat.reduceSub,Nat.reduceMul,Nat.reduceDiv,Nat.reduceMod,Nat.reduceLeDiff,Nat.reduceLT,Nat.reduceBEq,Int.reduceToNat,Int.reduceLT,Int.reduceLE,Int.reduceEq,pr,hlt,enB])
  rw [cast_0] at h
  rw [h]
  have e : ∀ (l : List Nat) (a : List Int),runL (γ:=Option (AExit × S)) (fun (a : List Int) i => if (m.dt.length : Int) ≤ elAt m i then .inr (some (.ret,⟨[.junk,.imm (.int .i64 14),.junk,.junk,.junk,.junk,.junk,.junk,.junk,.junk,.junk,.junk,.junk,.junk,.junk,.junk],[],none⟩)) else if elAt m i ∈ a then .inr (some (.ret,⟨[.junk,.imm (.int .i64 26),.junk,.junk,.junk,.junk,.junk,.junk,.junk,.junk,.junk,.junk,.junk,.junk,.junk,.junk],[],none⟩)) else .inl (a ++ [elAt m i])) (fun _ => some (.exit 2,⟨[.junk,.junk,.junk,.junk,.junk,.junk,.junk,.junk,.junk,.junk,.junk,.junk,.junk,.junk,.junk,.junk],[],none⟩)) a l =
      if ckPts m a l = 0 then some (.exit 2,⟨[.junk,.junk,.junk,.junk,.junk,.junk,.junk,.junk,.junk,.junk,.junk,.junk,.junk,.junk,.junk,.junk],[],none⟩) else some (.ret,⟨[.junk,.imm (.int .i64 (ckPts m a l)),.junk,.junk,.junk,.junk,.junk,.junk,.junk,.junk,.junk,.junk,.junk,.junk,.junk,.junk],[],none⟩):=by
    intro l
    induction l with
    | nil => intro a; simp [runL_nil,ckPts]
    | cons i r ih =>
      intro a
      rw [runL_cons,ckPts]
      by_cases k1 : (m.dt.length : Int) ≤ elAt m i
      · simp only [k1,if_true,show ¬ (14 : Int) = 0 by decide,if_false]
      · by_cases k2 : elAt m i ∈ a
        · simp only [k1,k2,if_true,if_false,show ¬ (26 : Int) = 0 by decide]
        · simp only [k1,k2,if_false]; exact ih _
  exact e _ _
def Ok64 (l : List Int) : Prop:=∀ v ∈ l,0 ≤ v ∧ v < 18446744073709551616
theorem any_oks {s : List Int} (h : s.any (fun x => !(decide (x ≥ 0) && decide (x ≤ 4096))) = false) : Oks s:=by
  intro x hx
  have:=List.any_eq_false.1 h x hx
  simp at this
  exact this
theorem okRCheck (n : Nat) (m : Im) (hx : m.bx.length < 1000000) (hs : m.st.length < 1000000) (hd : m.dt.length < 1000000) (hv : Ok64 m.dt) : callP (level E (n+5)) 13 [enIm m] = some (.int .i64 (ckI m)):=by
  rw [p13]
  have k1:=okQCheckKind (n+2) m.kd
  have b1:=okRCheckBox (n+2) m.bb m.bx hx
  have w1 : callP (level E (n+4)) 32 [.bool (decide (¬ (m.st.length : Int) = m.bx.length)),.int .i64 2] = some (.int .i64 (if m.st.length = m.bx.length then 0 else 2)):=by
    rw [okQWhen (n+3)]
    by_cases h : m.st.length = m.bx.length
    · simp [h]
    · have : ¬ (m.st.length : Int) = m.bx.length:=by omega
      simp [h,this]
  have f1 : callP (level E (n+4)) 29 [.sl 1 [[.int .i64 (ckKind m.kd)],[.int .i64 (ckBox m.bx)],[.int .i64 (if m.st.length = m.bx.length then 0 else 2)]]] = some (.int .i64 (ckA m)) :=
    okQFirstL (n+3) _ [ckKind m.kd,ckBox m.bx,if m.st.length = m.bx.length then 0 else 2] rfl (by simp)
  have s1:=okRCheckSt (n+4) [] m.kd (enB m.bb m.bx) m.tb m.db m.st (slD m.db 1 (m.dt.map ub)) hs
  have d1:=okRCheckData n m.db m.kd m.dt hd hv
  have w2 : callP (level E (n+4)) 32 [.bool (decide ((m.dt.length : Int) > 4096)),.int .i64 5] = some (.int .i64 (if 4096 < m.dt.length then 5 else 0)):=by
    rw [okQWhen (n+3)]
    by_cases h : 4096 < m.dt.length
    · have : (4096 : Int) < m.dt.length:=by omega
      simp [h,this]
    · have : ¬ (4096 : Int) < m.dt.length:=by omega
      simp [h,this]
  have f2:=okQFirstL (n+3) [[.int .i64 (if 4096 < m.dt.length then 5 else 0)],[.int .i64 (fnz (m.dt.map (ckB1 m.kd)))]] [if 4096 < m.dt.length then 5 else 0,fnz (m.dt.map (ckB1 m.kd))] rfl (by simp)
  by_cases hA : ckA m = 0
  · obtain ⟨a1,a2,a3⟩:=ckA0 hA
    cases hst : m.st.any (fun x => !(decide (x ≥ 0) && decide (x ≤ 4096)))
    · rw [hst] at s1
      have ho:=any_oks hst
      by_cases h5 : 4096 < m.dt.length
      · have hB : ckB m = 5:=by rw [ckB,hst,if_pos h5]; rfl
        rw [if_pos h5] at w2 f2
        simp only [fnz_cons,show ¬ (5 : Int) = 0 by decide,if_false] at f2
        simp only [Bool.false_eq_true,if_false] at s1
        simp only [go_sem,Nat.reduceAdd,Nat.reduceSub,Nat.reduceMul,Nat.reduceDiv,Nat.reduceMod,Nat.reduceLeDiff,Nat.reduceLT,Nat.reduceBEq,Int.reduceToNat,Int.reduceLT,Int.reduceLE,Int.reduceEq,enIm,k1,b1,w1,f1,hA,s1,d1,w2,f2,ckI,ckIm,hB,ne_eq,not_true_eq_false,show ¬ (5 : Int) = 0 by decide,not_false_eq_true]
      · have hB : ckB m = 0:=by rw [ckB,hst,if_neg h5]; rfl
        rw [if_neg h5] at w2 f2
        have hf : fnz [0,fnz (m.dt.map (ckB1 m.kd))] = fnz (m.dt.map (ckB1 m.kd)):=by
          simp only [fnz_cons,if_true]
          by_cases h0 : fnz (m.dt.map (ckB1 m.kd)) = 0
          · rw [if_pos h0,h0]; rfl
          · rw [if_neg h0]
        rw [hf] at f2
        simp only [Bool.false_eq_true,if_false] at s1
        by_cases h0 : fnz (m.dt.map (ckB1 m.kd)) = 0
        · obtain ⟨N,hN,hN2⟩:=many_nat a2
          have p1:=okRCheckPts (n+3) m a2 a3.symm ho hd N hN
          rw [tkA_nil] at p1
          have hNt : (many m.bx).toNat = N:=by omega
          have e0 : (1 : Int) * (m.dt.length : Int) ≤ 70368744177664:=by omega
          have e2 : (m.dt.length : Int) ≤ 70368744177664:=by omega
          have e3 : (0 : Int) ≤ (m.dt.length : Int):=by omega
          rw [h0] at d1 f2
          by_cases hp : ckPts m [] (List.range N) = 0
          · rw [if_pos hp] at p1
            simp only [go_sem,Nat.reduceAdd,Nat.reduceSub,Nat.reduceMul,Nat.reduceDiv,Nat.reduceMod,Nat.reduceLeDiff,Nat.reduceLT,Nat.reduceBEq,Int.reduceToNat,Int.reduceLT,Int.reduceLE,Int.reduceEq,enIm,k1,b1,w1,f1,hA,s1,d1,w2,f2,ckI,ckIm,hB,h0,e0,e2,e3,hNt,hp,ne_eq,not_true_eq_false]
            rw [p1]
            simp only [go_sem,Nat.reduceAdd,Nat.reduceSub,Nat.reduceMul,Nat.reduceDiv,Nat.reduceMod,Nat.reduceLeDiff,Nat.reduceLT,Nat.reduceBEq,Int.reduceToNat,Int.reduceLT,Int.reduceLE,Int.reduceEq]
          · rw [if_neg hp] at p1
            simp only [go_sem,Nat.reduceAdd,Nat.reduceSub,Nat.reduceMul,Nat.reduceDiv,Nat.reduceMod,Nat.reduceLeDiff,Nat.reduceLT,Nat.reduceBEq,Int.reduceToNat,Int.reduceLT,Int.reduceLE,Int.reduceEq,enIm,k1,b1,w1,f1,hA,s1,d1,w2,f2,ckI,ckIm,hB,h0,e0,e2,e3,hNt,hp,ne_eq,not_true_eq_false]
            rw [p1]
            simp only [go_sem,Nat.reduceAdd,Nat.reduceSub,Nat.reduceMul,Nat.reduceDiv,Nat.reduceMod,Nat.reduceLeDiff,Nat.reduceLT,Nat.reduceBEq,Int.reduceToNat,Int.reduceLT,Int.reduceLE,Int.reduceEq]
        · simp only [go_sem,Nat.reduceAdd,Nat.reduceSub,Nat.reduceMul,Nat.reduceDiv,Nat.reduceMod,Nat.reduceLeDiff,Nat.reduceLT,Nat.reduceBEq,Int.reduceToNat,Int.reduceLT,Int.reduceLE,Int.reduceEq,enIm,k1,b1,w1,f1,hA,s1,d1,w2,f2,ckI,ckIm,hB,h0,ne_eq,not_true_eq_false,not_false_eq_true]
    · rw [hst] at s1
      have hB : ckB m = 3:=by rw [ckB,hst,if_pos rfl,fnz_cons,if_neg (by decide)]
      simp only [if_true] at s1
      simp only [go_sem,Nat.reduceAdd,Nat.reduceSub,Nat.reduceMul,Nat.reduceDiv,Nat.reduceMod,Nat.reduceLeDiff,Nat.reduceLT,Nat.reduceBEq,Int.reduceToNat,Int.reduceLT,Int.reduceLE,Int.reduceEq,enIm,k1,b1,w1,f1,hA,s1,ckI,ckIm,hB,ne_eq,not_true_eq_false,show ¬ (3 : Int) = 0 by decide]
  · simp only [go_sem,Nat.reduceAdd,Nat.reduceSub,Nat.reduceMul,Nat.reduceDiv,Nat.reduceMod,Nat.reduceLeDiff,Nat.reduceLT,Nat.reduceBEq,Int.reduceToNat,Int.reduceLT,Int.reduceLE,Int.reduceEq,enIm,k1,b1,w1,f1,hA,ckI,ckIm,ne_eq,not_false_eq_true]
end Go.Vm.P4Z

/- Chapter 04,plain law: right images: where their elements lie. -/
set_option maxRecDepth 100000
set_option maxHeartbeats 1000000
namespace Go.Vm.P4Z
open Go Go.Vm Go.Vm.P4
def hornE : Bx → List Int → Int
  | r :: b,x :: p => hornE b p * r.ex + (x - r.lo)
  | _,_ => 0
def prodE : Bx → Int
  | [] => 1
  | r :: b => prodE b * r.ex
theorem horn_bd : ∀ (l : Bx) (p : List Int),(∀ r ∈ l,0 < r.ex) → InB l p → 0 ≤ hornE l p ∧ hornE l p < prodE l
  | [],[],_,_ => by simp [hornE,prodE]
  | [],_ :: _,_,h => h.elim
  | _ :: _,[],_,h => h.elim
  | r :: l,x :: p,hx,⟨h1,h2,h3⟩ => by
    have hr:=hx r (by simp)
    obtain ⟨i1,i2⟩:=horn_bd l p (fun y hy => hx y (List.mem_cons_of_mem _ hy)) h3
    have m0 : 0 ≤ hornE l p * r.ex:=Int.mul_nonneg i1 (by omega)
    have m1 : (hornE l p + 1) * r.ex ≤ prodE l * r.ex:=Int.mul_le_mul_of_nonneg_right (by omega) (by omega)
    rw [Int.add_mul,Int.one_mul] at m1
    rw [hornE,prodE]
    constructor <;> omega
theorem digits_horn : ∀ (l : Bx) (p : List Int),(∀ r ∈ l,0 < r.ex) → InB l p → digits l (hornE l p) = p
  | [],[],_,_ => rfl
  | [],_ :: _,_,h => h.elim
  | _ :: _,[],_,h => h.elim
  | r :: l,x :: p,hx,⟨h1,h2,h3⟩ => by
    have hr:=hx r (by simp)
    have ih:=digits_horn l p (fun y hy => hx y (List.mem_cons_of_mem _ hy)) h3
    have e:=(Int.ediv_emod_unique (a:=hornE l p * r.ex + (x - r.lo)) (b:=r.ex) (r:=x - r.lo) (q:=hornE l p) hr).2 ⟨by rw [Int.mul_comm]; omega,by omega,by omega⟩
    rw [hornE,digits,e.1,e.2,ih]
    congr 1; omega
theorem many_prod {l : Bx} (h : Okr l) (h3 : l.length ≤ 3) : many l = prodE l:=by
  rcases l with _ | ⟨r,_ | ⟨s,_ | ⟨t,_ | ⟨u,l⟩⟩⟩⟩
  · rfl
  · have hr:=ckRange0 (h r (by simp))
    obtain ⟨e1,e2,e3⟩:=ml_ok (a:=1) (m:=1) (by omega) (by omega) hr.2.2.1 hr.2.2.2.1 (by omega)
    rw [many_cons1,e1]; rfl
  · have hr:=ckRange0 (h r (by simp))
    have hs:=ckRange0 (h s (by simp))
    obtain ⟨e1,e2,e3⟩:=ml_ok (a:=1) (m:=1) (by omega) (by omega) hr.2.2.1 hr.2.2.2.1 (by omega)
    obtain ⟨f1,f2,f3⟩:=ml_ok (m:=64) e2 (by omega) hs.2.2.1 hs.2.2.2.1 (by omega)
    rw [many_cons2,e1,f1]
    simp only [prodE,Int.one_mul]
    rw [Int.mul_comm]
  · have hr:=ckRange0 (h r (by simp))
    have hs:=ckRange0 (h s (by simp))
    have ht:=ckRange0 (h t (by simp))
    obtain ⟨e1,e2,e3⟩:=ml_ok (a:=1) (m:=1) (by omega) (by omega) hr.2.2.1 hr.2.2.2.1 (by omega)
    obtain ⟨f1,f2,f3⟩:=ml_ok (m:=64) e2 (by omega) hs.2.2.1 hs.2.2.2.1 (by omega)
    obtain ⟨g1,g2,g3⟩:=ml_ok (m:=4096) f2 (by omega) ht.2.2.1 ht.2.2.2.1 (by omega)
    rw [many_cons3,e1,f1,g1]
    simp only [prodE,Int.one_mul]
    rw [Int.mul_comm r.ex s.ex,Int.mul_comm (s.ex * r.ex) t.ex,← Int.mul_assoc]
  · simp at h3
theorem ckPts0 (m : Im) : ∀ (r : List Nat) (T : List Int),ckPts m T r = 0 → (∀ i ∈ r,elAt m i < m.dt.length ∧ elAt m i ∉ T) ∧ (r.map (elAt m)).Nodup
  | [],_,_ => ⟨fun i hi => (nomatch hi),List.nodup_nil⟩
  | i :: r,T,h => by
    unfold ckPts at h
    by_cases h1 : (m.dt.length : Int) ≤ elAt m i
    · rw [if_pos h1] at h; omega
    · rw [if_neg h1] at h
      by_cases h2 : elAt m i ∈ T
      · rw [if_pos h2] at h; omega
      · rw [if_neg h2] at h
        obtain ⟨i1,i2⟩:=ckPts0 m r _ h
        refine ⟨fun j hj => ?_,?_⟩
        · rcases List.mem_cons.1 hj with rfl | hj
          · exact ⟨by omega,h2⟩
          · obtain ⟨j1,j2⟩:=i1 j hj
            exact ⟨j1,fun hc => j2 (List.mem_append_left _ hc)⟩
        · rw [List.map_cons,List.nodup_cons]
          refine ⟨fun hc => ?_,i2⟩
          obtain ⟨j,hj,hje⟩:=List.mem_map.1 hc
          obtain ⟨_,j2⟩:=i1 j hj
          exact j2 (by rw [hje]; simp)
structure Good (m : Im) (N : Nat) : Prop where
  kd : ckKind m.kd = 0
  bx : ckBox m.bx = 0
  stl : m.st.length = m.bx.length
  st : Oks m.st
  many : many m.bx = N
  small : N ≤ 4096
  dtl : m.dt.length ≤ 4096
  dt : fnz (m.dt.map (ckB1 m.kd)) = 0
  pts : ckPts m [] (List.range N) = 0
theorem good_of {m : Im} (h : ckI m = 0) : ∃ N,Good m N:=by
  unfold ckI ckIm at h
  by_cases hA : ckA m = 0
  · rw [if_pos hA] at h
    by_cases hB : ckB m = 0
    · rw [if_pos hB] at h
      by_cases hD : fnz (m.dt.map (ckB1 m.kd)) = 0
      · rw [if_pos hD] at h
        obtain ⟨a1,a2,a3⟩:=ckA0 hA
        obtain ⟨N,hN,hN2⟩:=many_nat a2
        have hs:=fz0 _ hB (if m.st.any (fun x => !(decide (x ≥ 0) && decide (x ≤ 4096))) then 3 else 0) (by simp)
        have hl:=fz0 _ hB (if 4096 < m.dt.length then 5 else 0) (by simp)
        refine ⟨N,a1,a2,a3,any_oks ?_,hN,hN2,?_,hD,?_⟩
        · cases hc : m.st.any (fun x => !(decide (x ≥ 0) && decide (x ≤ 4096)))
          · rfl
          · rw [hc] at hs; exact absurd hs (by decide)
        · split at hl
          · omega
          · omega
        · have : (Go.Vm.P4.many m.bx).toNat = N:=by omega
          rwa [this] at h
      · rw [if_neg hD] at h; exact absurd h hD
    · rw [if_neg hB] at h; exact absurd h hB
  · rw [if_neg hA] at h; exact absurd h hA
namespace Good
variable {m : Im} {N : Nat} (G : Good m N)
include G
theorem okr : Okr m.bx:=(ckBox0 G.bx).2.2.1
theorem len3 : m.bx.length ≤ 3:=(ckBox0 G.bx).2.1
theorem pos (h : N ≠ 0) : ∀ r ∈ m.bx,0 < r.ex:=ex_pos G.okr (by have:=G.many; omega)
theorem elIdx {p : List Int} (hp : InB m.bx p) : (∀ r ∈ m.bx,0 < r.ex) ∧ ∃ i : Nat,i < N ∧ digits m.bx i = p ∧ elAt m i = elt m.bx p m.st 0:=by
  have hx : ∀ r ∈ m.bx,0 < r.ex:=by
    have key : ∀ (l : Bx) (p : List Int),InB l p → ∀ r ∈ l,0 < r.ex:=by
      intro l
      induction l with
      | nil => intro p _ r hr; cases hr
      | cons y l ih =>
        intro p hp r hr
        rcases p with _ | ⟨x,p⟩
        · exact hp.elim
        obtain ⟨h1,h2,h3⟩:=hp
        rcases List.mem_cons.1 hr with rfl | hr
        · omega
        · exact ih p h3 r hr
    exact key _ _ hp
  obtain ⟨h1,h2⟩:=horn_bd m.bx p hx hp
  have h3:=digits_horn m.bx p hx hp
  have h4:=many_prod G.okr G.len3
  have h5:=G.many
  refine ⟨hx,(hornE m.bx p).toNat,by omega,?_,?_⟩
  · rw [show (((hornE m.bx p).toNat : Nat) : Int) = hornE m.bx p by omega]; exact h3
  · have e2:=plc_dig m.bx G.okr G.len3 hx (hornE m.bx p).toNat
    rw [show (((hornE m.bx p).toNat : Nat) : Int) = hornE m.bx p by omega,h3] at e2
    have hl : p.length = m.bx.length:=by rw [← h3,digits_len]
    rw [elAt,e2,elt_app _ _ _ _ _ (by omega) (by have:=G.stl; omega)]
theorem nn {p : List Int} (hp : InB m.bx p) : 0 ≤ elt m.bx p m.st 0 :=
  elt_nn _ _ _ _ G.okr hp G.st (by have:=G.stl; omega) (by omega) (by have:=G.len3; omega)
end Good
def atI (m : Im) (p : List Int) : Int:=(m.dt[(elt m.bx p m.st 0).toNat]?).getD 0
theorem Good.at {m : Im} {N : Nat} (G : Good m N) {p : List Int} (hp : InB m.bx p) : ∃ k : Nat,elt m.bx p m.st 0 = k ∧ k < m.dt.length ∧ m.dt[k]? = some (atI m p):=by
  obtain ⟨hx,i,h1,h2,h3⟩:=G.elIdx hp
  have h4:=((ckPts0 m _ _ G.pts).1 i (by simpa using h1)).1
  have h5:=G.nn hp
  refine ⟨(elt m.bx p m.st 0).toNat,by omega,by omega,?_⟩
  rw [atI,List.getElem?_eq_getElem (show (elt m.bx p m.st 0).toNat < m.dt.length by omega)]; rfl
theorem Good.inj {m : Im} {N : Nat} (G : Good m N) {p q : List Int} (hp : InB m.bx p) (hq : InB m.bx q) (h : elt m.bx p m.st 0 = elt m.bx q m.st 0) : p = q:=by
  obtain ⟨_,i,i1,i2,i3⟩:=G.elIdx hp
  obtain ⟨_,j,j1,j2,j3⟩:=G.elIdx hq
  have nd:=(ckPts0 m _ _ G.pts).2
  have e : i = j:=by
    have h1 : ((List.range N).map (elAt m))[i]? = some (elAt m i):=by simp [i1]
    have h2 : ((List.range N).map (elAt m))[j]? = some (elAt m j):=by simp [j1]
    have h3 : ((List.range N).map (elAt m))[i]? = ((List.range N).map (elAt m))[j]?:=by rw [h1,h2,i3,j3,h]
    exact (List.getElem?_inj (by simpa using i1) nd).1 h3
  rw [← i2,← j2,e]
theorem in_pad {l : Bx} {p : List Int} (h : InB l p) : p.length = l.length:=by
  induction l generalizing p with
  | nil => cases p with | nil => rfl | cons x p => exact h.elim
  | cons r l ih => cases p with | nil => exact h.elim | cons x p => simp [ih h.2.2]
theorem Good.atP {m : Im} {N : Nat} (G : Good m N) {p q : List Int} (hp : InB m.bx p) : ∃ k : Nat,elt m.bx (p ++ q) m.st 0 = k ∧ k < m.dt.length ∧ m.dt[k]? = some (atI m p):=by
  obtain ⟨k,h1,h2⟩:=G.at hp
  exact ⟨k,by rw [elt_app _ _ _ _ _ (by rw [in_pad hp]; exact Nat.le_refl _) (by have:=G.stl; omega)]; exact h1,h2⟩
end Go.Vm.P4Z

/- Chapter 04,functions: Check and Edge,whatever the image. -/
set_option maxRecDepth 100000
set_option maxHeartbeats 4000000
namespace Go.Vm.P4Z
open Go Go.Vm Go.Vm.P4
theorem okCheckI (n : Nat) (m : Im) (hx : m.bx.length < 1000000) (hs : m.st.length < 1000000) (hd : m.dt.length < 1000000) (hv : Ok64 m.dt) : callP (level E (n+9)) 50 [enIm m] = some (.int .i64 (ckI m)) :=
  okCheck n m (ckB1 m.kd) hx hs hd (fun v hv' => okCheckG (n+1) m.kd v (hv v hv').1 (hv v hv').2)
def inn (rule : Nat) (r : Rg) (c : Int) : Int:=match rule with
  | 0 => min (max c r.lo) (r.lo + r.ex - 1)
  | 1 => r.lo + (c - r.lo) % r.ex
  | _ => r.lo + min ((c - r.lo) % (2 * r.ex)) (2 * r.ex - 1 - (c - r.lo) % (2 * r.ex))
end Go.Vm.P4Z

/- Chapter 04: what the laws' arguments hold: images,values,points with values. -/
set_option maxRecDepth 100000
namespace Go.Vm.P4Z
open Go Go.Vm Go.Vm.P4 Go.Proofs Go.ChangeShapes
section
variable {H : Type} {enc : TypeId × Value → H} {W : World} {sp : Nat → Bool} {held : Bool}
theorem cellsU : Tryz.prog.cellsOf 35 = 1:=by kernel_rfl
theorem cellsBits : Tryz.prog.cellsOf 25 = 1:=by kernel_rfl
theorem cellsImage : Tryz.prog.cellsOf 27 = 4:=by kernel_rfl
theorem u64_range {k : Int} (h : (Lit.int .u64 k).wf = true) : 0 ≤ k ∧ k < 18446744073709551616:=by
  simp [Lit.wf] at h
  have e1 : IntKind.u64.min = 0:=by decide
  have e2 : IntKind.u64.max = 18446744073709551615:=by decide
  rw [e1,e2] at h
  omega
theorem rd_u64 {n : Nat} {cs : List Value} {x : DataW H × List MemPlace} (h : DataW.trod enc Tryz.prog W 0 sp held n 35 cs = some x) : ∃ a : { v : Int // 0 ≤ v ∧ v < 18446744073709551616 },(ub a.1).length = 1 ∧ Holds W (ub a.1) cs:=by
  obtain ⟨k,rfl,_,hw⟩:=DataW.trod_int Tryz.underlying35 h
  exact ⟨⟨k,u64_range hw⟩,rfl,holds_one rfl (.int _ _)⟩
theorem rd_bits {n : Nat} {cs : List Value} {x : DataW H × List MemPlace} (h : DataW.trod enc Tryz.prog W 0 sp held n 25 cs = some x) : ∃ (b : Bool) (l : List Int),Ok64 l ∧ Holds W [slD b 1 (l.map ub)] cs:=by
  obtain ⟨b,l,hl⟩:=rd_slice (en:=fun a : { v : Int // 0 ≤ v ∧ v < 18446744073709551616 } => ub a.1) Tryz.underlying25 cellsU (by decide) (fun _ _ _ h => rd_u64 h) h
  refine ⟨b,l.map (·.1),fun v hv => ?_,?_⟩
  · obtain ⟨a,_,rfl⟩:=List.mem_map.1 hv
    exact a.2
  · rw [List.map_map]; exact hl
theorem rd_image {n : Nat} {cs : List Value} {x : DataW H × List MemPlace} (h : DataW.trod enc Tryz.prog W 0 sp held n 27 cs = some x) : ∃ m : Im,Ok64 m.dt ∧ Holds W [.int .i64 m.kd,enB m.bb m.bx,slD m.tb 1 (m.st.map ic),slD m.db 1 (m.dt.map ub)] cs:=by
  obtain ⟨xs,n',_,_,hl,hn,hf⟩:=DataW.trod_struct Tryz.underlying27 h
  rw [cellsImage] at hl
  obtain ⟨a,b,c,d,rfl⟩:=four_of hl
  have f0:=(hf 0 _ rfl).trans (List.getElem?_eq_getElem (show 0 < xs.length by rw [hn]; decide))
  have f1:=(hf 1 _ rfl).trans (List.getElem?_eq_getElem (show 1 < xs.length by rw [hn]; decide))
  have f2:=(hf 2 _ rfl).trans (List.getElem?_eq_getElem (show 2 < xs.length by rw [hn]; decide))
  have f3:=(hf 3 _ rfl).trans (List.getElem?_eq_getElem (show 3 < xs.length by rw [hn]; decide))
  simp only [List.getElem_toArray,List.getElem_cons_zero,List.getElem_cons_succ,cells3,cellsBox,cellsInts,cellsBits,List.drop_zero,List.drop_succ_cons,List.take_succ_cons,List.take_zero,List.take_nil] at f0 f1 f2 f3
  obtain ⟨p,e1,_,_⟩:=DataW.trod_int Tryz.underlying3 f0
  simp only [List.cons.injEq,and_true] at e1
  subst e1
  obtain ⟨b1,l1,h1⟩:=rd_box f1
  obtain ⟨b2,l2,h2⟩:=rd_ints f2
  obtain ⟨b3,l3,h64,h3⟩:=rd_bits f3
  exact ⟨⟨p,b1,l1,b2,l2,b3,l3⟩,h64,holds_app (a:=[.int .i64 p]) (x:=[.int .i64 p]) (holds_one rfl (.int _ _)) (holds_app (x:=[b]) h1 (holds_app (x:=[c]) h2 h3))⟩
theorem arg_image {r : Reach} {b0 : Nat} {v : Value} {d : DataW H} {p : List MemPlace} (hv : Value.okWide Tryz.prog W r b0 27 v) (h : DataW.Trod enc Tryz.prog W 0 sp held 27 v d p) : ∃ m : Im,Ok64 m.dt ∧ RepD (Old W) W (enIm m) v:=by
  obtain ⟨n,h⟩:=h
  obtain ⟨vs,rfl,_⟩:=WideShapes.okWide_struct Tryz.underlying27 hv
  obtain ⟨m,h1,hc⟩:=rd_image h
  exact ⟨m,h1,Go.Vm.P4.ds_agg hc⟩
end
end Go.Vm.P4Z

/- Chapter 04,plain law: parts of an image: points of boxes within boxes,points with two coordinates exchanged,points of planes. -/
set_option maxRecDepth 100000
set_option maxHeartbeats 1000000
namespace Go.Vm.P4Z
open Go Go.Vm Go.Vm.P4
end Go.Vm.P4Z

/- Chapter 04,functions: Dense,Crop,Slice,Transpose,whatever the image. -/
set_option maxRecDepth 100000
set_option maxHeartbeats 4000000
namespace Go.Vm.P4Z
open Go Go.Vm Go.Vm.P4
instance rgDec : DecidableEq Rg:=fun a b => decidable_of_iff (a.lo = b.lo ∧ a.ex = b.ex) (by rcases a with ⟨_,_⟩; rcases b with ⟨_,_⟩; simp)
def im0 : Im:=⟨0,true,[],true,[],true,[]⟩
end Go.Vm.P4Z

/- Chapter 04,functions: Make,At,Set. -/
set_option maxRecDepth 100000
set_option maxHeartbeats 4000000
namespace Go.Vm.P4Z
open Go Go.Vm Go.Vm.P4
end Go.Vm.P4Z

/- Chapter 04,functions: Encode and Digest,whatever the image. -/
set_option maxRecDepth 100000
set_option maxHeartbeats 4000000
namespace Go.Vm.P4Z
open Go Go.Vm Go.Vm.P4
def szN (k : Int) : Nat:=(szL.getD k.toNat 0).toNat
theorem kinds11 {k : Int} (hk : ckKind k = 0) : k = 0 ∨ k = 1 ∨ k = 2 ∨ k = 3 ∨ k = 4 ∨ k = 5 ∨ k = 6 ∨ k = 7 ∨ k = 8 ∨ k = 9 ∨ k = 10:=by
  have hk' : 0 ≤ k ∧ k < 11:=by unfold ckKind at hk; split at hk; assumption; omega
  omega
theorem szN_in {k : Int} (hk : ckKind k = 0) : szL.getD k.toNat 0 = szN k ∧ (szN k = 1 ∨ szN k = 2 ∨ szN k = 4 ∨ szN k = 8):=by
  rcases kinds11 hk with rfl | rfl | rfl | rfl | rfl | rfl | rfl | rfl | rfl | rfl | rfl <;> decide
theorem leB_len : ∀ (k : Nat) (v : Int),(leB k v).length = k
  | 0,_ => rfl
  | k + 1,v => by simp only [leB,List.length_cons,leB_len k]
theorem okLittleN (n : Nat) (k : Nat) (hk : k = 1 ∨ k = 2 ∨ k = 4 ∨ k = 8) (es : List (List D)) (v : Int) (h : es.length < 1000000) : callS (level E (n+1)) 112 [.ref 0 1 0 es.length,.imm (.int .u64 v),.imm (.int .i64 k)] [.arr 1 es] = some (.ref 1 1 0 (es ++ (leB k v).map u8).length,[.dead,.arr 1 (es ++ (leB k v).map u8)]):=by
  have e : (es ++ (leB k v).map u8).length = es.length + k:=by rw [List.length_append,List.length_map,leB_len]
  rw [e]
  rcases hk with rfl | rfl | rfl | rfl
  · exact okLittle1 n es v h
  · exact okLittle2 n es v h
  · exact okLittle4 n es v h
  · exact okLittle8 n es v h
theorem byRoundG (n : Nat) (m : Im) (acc acc' : List (List D)) (i : Nat) (v z : Int) (hv : callP (level E (n+1)) 84 [enIm m,enP (plc m.bx i)] = some (.int .u64 v)) (hz : callP (level E (n+1)) 71 [.int .i64 m.kd] = some (.int .i64 z))
    (hl : callS (level E (n+1)) 112 [.ref 0 1 0 acc.length,.imm (.int .u64 v),.imm (.int .i64 z)] [.arr 1 acc] = some (.ref 1 1 0 acc'.length,[.dead,.arr 1 acc'])) :
    (level E (n+2)).round (BySt m acc) [.int .i64 (i : Int),enP (plc m.bx i)] = some (BySt m acc',true):=by
  obtain ⟨x,y,z',hp⟩ : ∃ x y z,plc m.bx i = [x,y,z]:=by
    match hh : plc m.bx i,plc_len m.bx i with
    | [x,y,z],_ => exact ⟨x,y,z,rfl⟩
  rw [hp] at hv ⊢
  simp only [enIm,enP,List.map_cons,List.map_nil] at hv
  unfold BySt
  rw [round_go rfl]
  simp only [go_sem,Nat.reduceAdd,Nat.reduceSub,Nat.reduceMul,Nat.reduceDiv,Nat.reduceMod,Nat.reduceLeDiff,Nat.reduceLT,Nat.reduceBEq,Int.reduceToNat,Int.reduceLT,Int.reduceLE,Int.reduceEq,ByV,cellsIm,enP,hv,hz,hl,enIm]
  done
def byF (m : Im) (N : Nat) (F : List Int → Int) : List Int:=[wrp .u8 m.kd,wrp .u8 m.bx.length] ++ m.bx.flatMap rgB ++ (List.range N).flatMap (fun i => leB (szN m.kd) (F (plc m.bx i)))
def byI (m : Im) : List Int:=[wrp .u8 m.kd,wrp .u8 m.bx.length] ++ m.bx.flatMap rgB ++ (List.range (many m.bx).toNat).flatMap (fun (i : Nat) => leB (szN m.kd) (atI m (digits m.bx i)))
theorem okBytesG (n : Nat) (m : Im) (hk : ckKind m.kd = 0) (h1 : m.bx.length ≤ 3) (hs : m.bx.length ≤ m.st.length) (N : Nat) (hN : many m.bx = N) (hN2 : N < 100000) (F : List Int → Int) (hF : Lies m m.bx N F) :
    callP (level E (n+8)) 61 [enIm m] = some (.sl 1 ((byF m N F).map u8)):=by
  obtain ⟨z1,z2⟩:=szN_in hk
  rw [p61]
  have b1:=byLoop (n+6) m h1 [[.int .u8 (wrp .u8 m.kd)],[.int .u8 (wrp .u8 m.bx.length)]] rfl
  have a1:=okAll (n+6) m.bb m.bx
  have h:=okAll1 (n+5) m.bb m.bx h1 N hN (by omega) (BySt m) (fun a i => a.length ≤ 2 + 6 * m.bx.length + 8 * i) (fun a i => .inl (a ++ (leB (szN m.kd) (F (plc m.bx i))).map u8)) ([[.int .u8 (wrp .u8 m.kd)],[.int .u8 (wrp .u8 m.bx.length)]] ++ (m.bx.flatMap rgB).map u8)
    (by
      have e : ∀ l : Bx,(l.flatMap rgB).length = 6 * l.length:=by
        intro l
        induction l with
        | nil => rfl
        | cons x l ih => rw [List.flatMap_cons,List.length_append,ih,rgB_len,List.length_cons]; omega
      simp [e]; omega)
    (fun a i hI hi => ⟨by
      obtain ⟨k,q1,q2⟩:=hF i hi
      exact byRoundG (n+4) m a _ i (F (plc m.bx i)) _ (okViewAt (n+3) m (plc m.bx i) k _ (plc_len _ _) h1 hs q1 q2) (by rw [okSizeG (n+2) m.kd hk,z1]) (okLittleN (n+4) _ z2 a _ (by omega)),fun a' ha => by injection ha with ha; subst ha; simp [leB_len]; omega⟩)
  rw [runL_fold,fold_app] at h
  simp only [go_sem,Nat.reduceAdd,Nat.reduceSub,Nat.reduceMul,Nat.reduceDiv,Nat.reduceMod,Nat.reduceLeDiff,Nat.reduceLT,Nat.reduceBEq,Int.reduceToNat,Int.reduceLT,Int.reduceLE,Int.reduceEq,cellsIm] at b1
  simp only [go_sem,Nat.reduceAdd,Nat.reduceSub,Nat.reduceMul,Nat.reduceDiv,Nat.reduceMod,Nat.reduceLeDiff,Nat.reduceLT,Nat.reduceBEq,Int.reduceToNat,Int.reduceLT,Int.reduceLE,Int.reduceEq,enIm,b1,a1]
  simp only [go_sem,Nat.reduceAdd,Nat.reduceSub,Nat.reduceMul,Nat.reduceDiv,Nat.reduceMod,Nat.reduceLeDiff,Nat.reduceLT,Nat.reduceBEq,Int.reduceToNat,Int.reduceLT,Int.reduceLE,Int.reduceEq,BySt,ByV,cellsIm] at h
  rw [h]
  simp only [go_sem,Nat.reduceAdd,Nat.reduceSub,Nat.reduceMul,Nat.reduceDiv,Nat.reduceMod,Nat.reduceLeDiff,Nat.reduceLT,Nat.reduceBEq,Int.reduceToNat,Int.reduceLT,Int.reduceLE,Int.reduceEq]
  simp [byF,List.map_flatMap,u8]
theorem lies_of {m : Im} {N : Nat} (G : Good m N) : Lies m m.bx N (fun q => atI m (q.take m.bx.length)) ∧ byF m N (fun q => atI m (q.take m.bx.length)) = byI m:=by
  have hx : N ≠ 0 → ∀ r ∈ m.bx,0 < r.ex:=G.pos
  refine ⟨fun i hi => ?_,?_⟩
  · have hx:=hx (by omega)
    have e2:=plc_dig m.bx G.okr G.len3 hx i
    obtain ⟨k,k1,k2,k3⟩:=G.atP (q:=List.replicate (3 - m.bx.length) 0) (digits_in m.bx i hx)
    rw [← e2] at k1
    exact ⟨k,k1,by show m.dt[k]? = some (atI m ((plc m.bx i).take m.bx.length)); rw [plc_take m.bx G.okr G.len3 hx]; exact k3⟩
  · have e : (many m.bx).toNat = N:=by have:=G.many; omega
    unfold byF byI
    rw [e]
    congr 1
    rw [List.flatMap_def,List.flatMap_def]
    refine congrArg List.flatten (List.map_congr_left fun i hi => ?_)
    rw [List.mem_range] at hi
    show leB _ (atI m ((plc m.bx i).take m.bx.length)) = _
    rw [plc_take m.bx G.okr G.len3 (hx (by omega))]
theorem okBytesI (n : Nat) (m : Im) (N : Nat) (G : Good m N) : callP (level E (n+8)) 61 [enIm m] = some (.sl 1 ((byI m).map u8)):=by
  obtain ⟨g1,g2⟩:=lies_of G
  rw [okBytesG n m G.kd G.len3 (by have:=G.stl; omega) N G.many (by have:=G.small; omega) _ g1,g2]
theorem okEncodeG (n : Nat) (m : Im) (hx : m.bx.length < 1000000) (hs : m.st.length < 1000000) (hd : m.dt.length < 1000000) (hv : Ok64 m.dt) :
    callP (level E (n+10)) 9 [enIm m] = some (.tup [if ckI m = 0 then .sl 1 ((byI m).map u8) else .nil,.int .i64 (ckI m)]):=by
  rw [p9]
  have c1:=okCheckI n m hx hs hd hv
  by_cases h : ckI m = 0
  · obtain ⟨N,G⟩:=good_of h
    have b1:=okBytesI (n+1) m N G
    rw [h] at c1
    rw [if_pos h,h]
    simp only [enIm] at c1 b1
    simp only [go_sem,Nat.reduceAdd,Nat.reduceSub,Nat.reduceMul,Nat.reduceDiv,Nat.reduceMod,Nat.reduceLeDiff,Nat.reduceLT,Nat.reduceBEq,Int.reduceToNat,Int.reduceLT,Int.reduceLE,Int.reduceEq,enIm,c1,b1,ne_eq,not_true_eq_false]
  · rw [if_neg h]
    simp only [enIm] at c1
    simp only [go_sem,Nat.reduceAdd,Nat.reduceSub,Nat.reduceMul,Nat.reduceDiv,Nat.reduceMod,Nat.reduceLeDiff,Nat.reduceLT,Nat.reduceBEq,Int.reduceToNat,Int.reduceLT,Int.reduceLE,Int.reduceEq,enIm,c1,h,ne_eq,not_false_eq_true]
def dgS (h b : Int) : Int:=wrp .u64 (wrp .u64 (BitVec.ofInt 64 h ^^^ BitVec.ofInt 64 (wrp .u64 b)).toNat * 1099511628211)
def dgI (l : List Int) : Int:=l.foldl dgS 14695981039346656037
theorem dgLoop (n : Nat) (l : List Int) (hl : l.length < 1000000) (cs : List D) :
    outC ⟨0,false⟩ [0,0,0,0,0,1,0,0,0,0,0,0] (rnd (aCode (level E (n+1)) ⟨0,false⟩ b11_0) (head ⟨0,false⟩ [0,0,0,0,0,1,0,0,1,1,1,0])
      ⟨[.junk,.junk,.junk,.junk,.junk,.imm (.int .u64 14695981039346656037),.junk,.junk,.imm (.sl 1 (l.map u8)),.imm (.int .i64 l.length),.imm (.int .i64 0),.junk],[],none⟩) =
    some (.exit 0,⟨[.junk,.junk,.junk,.junk,.junk,.imm (.int .u64 (dgI l)),.junk,.junk,.junk,.junk,.junk,.junk],[],none⟩):=by
  have h:=loop_fold (f:=aCode (level E (n+1)) ⟨0,false⟩ b11_0) (h:=head ⟨0,false⟩ [0,0,0,0,0,1,0,0,1,1,1,0]) (Φ:=outC ⟨0,false⟩ [0,0,0,0,0,1,0,0,0,0,0,0]) l (fun (a : Int) i => ⟨[.junk,.junk,.junk,.junk,.junk,.imm (.int .u64 a),.junk,.junk,.imm (.sl 1 (l.map u8)),.imm (.int .i64 l.length),.imm (.int .i64 i),.junk],[],none⟩) (fun _ _ => True)
    dgS (fun a => some (.exit 0,⟨[.junk,.junk,.junk,.junk,.junk,.imm (.int .u64 a),.junk,.junk,.junk,.junk,.junk,.junk],[],none⟩)) 14695981039346656037 trivial
    (fun a i x _ h2 h1 => by
      refine ⟨?_,trivial⟩
      rw [rnd_eq]
      simp only [go_sem,Nat.reduceAdd,Nat.reduceSub,Nat.reduceMul,Nat.reduceDiv,Nat.reduceMod,Nat.reduceLeDiff,Nat.reduceLT,Nat.reduceBEq,Int.reduceToNat,Int.reduceLT,Int.reduceLE,Int.reduceEq,lt_t h2,h1,dgS]
      rw [wrpS (by omega)]
      rfl)
    (fun a _ => by
      rw [rnd_eq]
      simp only [go_sem,Nat.reduceAdd,Nat.reduceSub,Nat.reduceMul,Nat.reduceDiv,Nat.reduceMod,Nat.reduceLeDiff,Nat.reduceLT,Nat.reduceBEq,Int.reduceToNat,Int.reduceLT,Int.reduceLE,Int.reduceEq,lt_f (Nat.le_refl _)])
  rw [cast_0] at h
  rw [h]
  rfl
theorem okDigestG (n : Nat) (m : Im) (hx : m.bx.length < 1000000) (hs : m.st.length < 1000000) (hd : m.dt.length < 1000000) (hv : Ok64 m.dt) :
    callP (level E (n+10)) 11 [enIm m] = some (.tup [.int .u64 (if ckI m = 0 then dgI (byI m) else 0),.int .i64 (ckI m)]):=by
  rw [p11]
  have c1:=okCheckI n m hx hs hd hv
  by_cases h : ckI m = 0
  · obtain ⟨N,G⟩:=good_of h
    have b1:=okBytesI (n+1) m N G
    have d1:=dgLoop (n+8) (byI m) (by
      have e : ∀ l : Bx,(l.flatMap rgB).length = 6 * l.length:=by
        intro l
        induction l with
        | nil => rfl
        | cons x l ih => rw [List.flatMap_cons,List.length_append,ih,rgB_len,List.length_cons]; omega
      have e2 : ∀ l : List Nat,(l.flatMap (fun (i : Nat) => leB (szN m.kd) (atI m (digits m.bx i)))).length ≤ 8 * l.length:=by
        intro l
        induction l with
        | nil => simp
        | cons x l ih =>
          have:=(szN_in G.kd).2
          rw [List.flatMap_cons,List.length_append,leB_len,List.length_cons]; omega
      have e3:=e2 (List.range (many m.bx).toNat)
      rw [List.length_range] at e3
      have:=G.many
      have:=G.small
      have:=G.len3
      simp only [byI,List.length_append,e,List.length_cons,List.length_nil]
      omega) []
    rw [h] at c1
    rw [if_pos h,h]
    simp only [enIm] at c1 b1
    simp only [go_sem,Nat.reduceAdd,Nat.reduceSub,Nat.reduceMul,Nat.reduceDiv,Nat.reduceMod,Nat.reduceLeDiff,Nat.reduceLT,Nat.reduceBEq,Int.reduceToNat,Int.reduceLT,Int.reduceLE,Int.reduceEq,enIm,c1,b1,ne_eq,not_true_eq_false]
    rw [d1]
    simp only [go_sem,Nat.reduceAdd,Nat.reduceSub,Nat.reduceMul,Nat.reduceDiv,Nat.reduceMod,Nat.reduceLeDiff,Nat.reduceLT,Nat.reduceBEq,Int.reduceToNat,Int.reduceLT,Int.reduceLE,Int.reduceEq]
  · rw [if_neg h]
    simp only [enIm] at c1
    simp only [go_sem,Nat.reduceAdd,Nat.reduceSub,Nat.reduceMul,Nat.reduceDiv,Nat.reduceMod,Nat.reduceLeDiff,Nat.reduceLT,Nat.reduceBEq,Int.reduceToNat,Int.reduceLT,Int.reduceLE,Int.reduceEq,enIm,c1,h,ne_eq,not_false_eq_true]
end Go.Vm.P4Z

/- Chapter 04,plain: the bytes of numbers. -/
set_option maxRecDepth 100000
namespace Go.Vm.P4Z
open Go Go.Vm Go.Vm.P4
theorem wrp_u8 (v : Int) : wrp .u8 v = v % 256:=by
  have e1 : (2 ^ IntKind.u8.bits : Int) = 256:=by decide
  show IntKind.u8.wrap v = _
  simp only [IntKind.wrap,e1,show IntKind.u8.signed = false from rfl,Bool.false_and,Bool.false_eq_true,if_false]
theorem wrp_u32 (v : Int) : wrp .u32 v = v % 4294967296:=by
  have e1 : (2 ^ IntKind.u32.bits : Int) = 4294967296:=by decide
  show IntKind.u32.wrap v = _
  simp only [IntKind.wrap,e1,show IntKind.u32.signed = false from rfl,Bool.false_and,Bool.false_eq_true,if_false]
theorem wrp_u64 (v : Int) : wrp .u64 v = v % 18446744073709551616:=by
  have e1 : (2 ^ IntKind.u64.bits : Int) = 18446744073709551616:=by decide
  show IntKind.u64.wrap v = _
  simp only [IntKind.wrap,e1,show IntKind.u64.signed = false from rfl,Bool.false_and,Bool.false_eq_true,if_false]
theorem wrp_i32 (v : Int) : wrp .i32 v = (v + 2147483648) % 4294967296 - 2147483648:=by
  have e1 : (2 ^ IntKind.i32.bits : Int) = 4294967296:=by decide
  have e2 : (2 ^ (IntKind.i32.bits - 1) : Int) = 2147483648:=by decide
  show IntKind.i32.wrap v = _
  simp only [IntKind.wrap,e1,e2,show IntKind.i32.signed = true from rfl,Bool.true_and,decide_eq_true_eq]
  split <;> omega
theorem fd256 (v : Int) : v.fdiv 256 = v / 256:=Int.fdiv_eq_ediv_of_nonneg v (by decide)
theorem leB_0 (v : Int) : leB 0 v = []:=rfl
theorem leB_s (k : Nat) (v : Int) : leB (k + 1) v = v % 256 :: leB k (v / 256):=by rw [leB,wrp_u8,fd256]
theorem leB_lo (v : Int) (h1 : -1048576 ≤ v) (h2 : v ≤ 1048576) : leB 4 (wrp .u64 v) = leB 4 (wrp .u64 (wrp .u32 (wrp .i32 v))):=by
  have e : wrp .i32 v = v:=by rw [wrp_i32]; omega
  rw [e,wrp_u32,wrp_u64,wrp_u64]
  simp only [leB_s,leB_0,List.cons.injEq,and_true]
  omega
def leV : List Int → Int
  | [] => 0
  | b :: l => b + 256 * leV l
def By (l : List Int) : Prop:=∀ b ∈ l,0 ≤ b ∧ b < 256
theorem leV_bd : ∀ (l : List Int),By l → 0 ≤ leV l ∧ leV l < 256 ^ l.length
  | [],_ => by simp [leV]
  | b :: l,h => by
    have h1:=h b (List.mem_cons_self)
    have h2:=leV_bd l (fun x hx => h x (List.mem_cons_of_mem _ hx))
    simp only [leV,List.length_cons]
    rw [Int.pow_succ]
    omega
theorem leV_app : ∀ (l r : List Int),leV (l ++ r) = leV l + 256 ^ l.length * leV r
  | [],r => by simp [leV]
  | b :: l,r => by
    simp only [leV,List.cons_append,leV_app l r,List.length_cons]
    rw [Int.pow_succ,Int.mul_add,← Int.mul_assoc,Int.mul_comm 256 (256 ^ l.length)]
    omega
theorem By.take {l : List Int} (h : By l) (k : Nat) : By (l.take k):=fun x hx => h x (List.mem_of_mem_take hx)
theorem By.drop {l : List Int} (h : By l) (k : Nat) : By (l.drop k):=fun x hx => h x (List.mem_of_mem_drop hx)
theorem or_add {v b : Int} (s : Nat) (h0 : 0 ≤ v) (h1 : v < 2 ^ s) (b0 : 0 ≤ b) (b1 : b < 256) (hs : s ≤ 56) : wrp .u64 ((BitVec.ofInt 64 v ||| BitVec.ofInt 64 (b * 2 ^ s)).toNat : Nat) = v + b * 2 ^ s:=by
  have p : (2 : Int) ^ s ≤ 2 ^ 56:=by
    have:=Nat.pow_le_pow_right (show 0 < 2 by decide) hs
    exact_mod_cast this
  have q : (0 : Int) < 2 ^ s:=Int.pow_pos (by decide)
  have p56 : (2 : Int) ^ 56 = 72057594037927936:=by decide
  rw [p56] at p
  obtain ⟨a,rfl⟩ : ∃ a : Nat,v = a:=⟨v.toNat,by omega⟩
  obtain ⟨c,rfl⟩ : ∃ c : Nat,b = c:=⟨b.toNat,by omega⟩
  have e2 : ((2 ^ s : Nat) : Int) = 2 ^ s:=by simp
  have ha : a < 2 ^ s:=by omega
  have hc : (c : Int) * 2 ^ s = ((c * 2 ^ s : Nat) : Int):=by rw [Int.natCast_mul,e2]
  have hb : c * 2 ^ s ≤ 255 * 2 ^ s:=Nat.mul_le_mul_right _ (by omega)
  have hp : 2 ^ s ≤ 72057594037927936:=by omega
  rw [hc,BitVec.ofInt_natCast,BitVec.ofInt_natCast,BitVec.toNat_or,BitVec.toNat_ofNat,BitVec.toNat_ofNat,Nat.mod_eq_of_lt (by omega),Nat.mod_eq_of_lt (by omega)]
  have e : a ||| c * 2 ^ s = c * 2 ^ s + a:=by
    rw [Nat.or_comm,← Nat.shiftLeft_eq,Nat.shiftLeft_add_eq_or_of_lt ha]
  rw [e,wrpU (by omega) (by omega)]
  omega
end Go.Vm.P4Z

/- Chapter 04: what the laws' arguments hold: bytes. -/
set_option maxRecDepth 100000
namespace Go.Vm.P4Z
open Go Go.Vm Go.Vm.P4 Go.Proofs Go.ChangeShapes
section
variable {H : Type} {enc : TypeId × Value → H} {W : World} {sp : Nat → Bool} {held : Bool}
theorem cellsU8 : Tryz.prog.cellsOf 5 = 1:=by kernel_rfl
theorem u8_range {k : Int} (h : (Lit.int .u8 k).wf = true) : 0 ≤ k ∧ k < 256:=by
  simp [Lit.wf] at h
  have e1 : IntKind.u8.min = 0:=by decide
  have e2 : IntKind.u8.max = 255:=by decide
  rw [e1,e2] at h
  omega
theorem rd_u8 {n : Nat} {cs : List Value} {x : DataW H × List MemPlace} (h : DataW.trod enc Tryz.prog W 0 sp held n 5 cs = some x) : ∃ a : { v : Int // 0 ≤ v ∧ v < 256 },(u8 a.1).length = 1 ∧ Holds W (u8 a.1) cs:=by
  obtain ⟨k,rfl,_,hw⟩:=DataW.trod_int Tryz.underlying5 h
  exact ⟨⟨k,u8_range hw⟩,rfl,holds_one rfl (.int _ _)⟩
theorem rd_bytes {n : Nat} {cs : List Value} {x : DataW H × List MemPlace} (h : DataW.trod enc Tryz.prog W 0 sp held n 28 cs = some x) : ∃ (b : Bool) (l : List Int),By l ∧ Holds W [slD b 1 (l.map u8)] cs:=by
  obtain ⟨b,l,hl⟩:=rd_slice (en:=fun a : { v : Int // 0 ≤ v ∧ v < 256 } => u8 a.1) Tryz.underlying28 cellsU8 (by decide) (fun _ _ _ h => rd_u8 h) h
  refine ⟨b,l.map (·.1),fun v hv => ?_,?_⟩
  · obtain ⟨a,_,rfl⟩:=List.mem_map.1 hv
    exact a.2
  · rw [List.map_map]; exact hl
theorem arg_bytes {r : Reach} {b0 : Nat} {v : Value} {d : DataW H} {p : List MemPlace} (hv : Value.okWide Tryz.prog W r b0 28 v) (h : DataW.Trod enc Tryz.prog W 0 sp held 28 v d p) : ∃ (b : Bool) (l : List Int),By l ∧ RepD (Old W) W (slD b 1 (l.map u8)) v:=by
  obtain ⟨n,h⟩:=h
  obtain ⟨a,len,cap,rfl⟩:=WideShapes.okWide_slice Tryz.underlying28 hv
  obtain ⟨b,l,h1,hc⟩:=rd_bytes h
  exact ⟨b,l,h1,ds_one hc⟩
end
end Go.Vm.P4Z

/- Chapter 04,functions: Slice and Transpose,whatever the image. -/
set_option maxRecDepth 100000
set_option maxHeartbeats 8000000
namespace Go.Vm.P4Z
open Go Go.Vm Go.Vm.P4
end Go.Vm.P4Z

/- Chapter 04,functions: Slice and Transpose,in one. -/
set_option maxRecDepth 100000
set_option maxHeartbeats 8000000
namespace Go.Vm.P4Z
open Go Go.Vm Go.Vm.P4
end Go.Vm.P4Z

/- Chapter 04,functions: the reference's Edge. -/
set_option maxRecDepth 100000
set_option maxHeartbeats 4000000
namespace Go.Vm.P4Z
open Go Go.Vm Go.Vm.P4
end Go.Vm.P4Z

/- Chapter 04,functions: the reference's parts of images. -/
set_option maxRecDepth 100000
set_option maxHeartbeats 4000000
namespace Go.Vm.P4Z
open Go Go.Vm Go.Vm.P4
abbrev boxI (m : Im) : AO:=.box [.imm (.int .i64 m.kd),.imm (enB m.bb m.bx),.imm (slD m.tb 1 (m.st.map ic)),.imm (slD m.db 1 (m.dt.map ub))]
end Go.Vm.P4Z

/- Chapter 04,functions: the reference's Set and Same. -/
set_option maxRecDepth 100000
set_option maxHeartbeats 4000000
namespace Go.Vm.P4Z
open Go Go.Vm Go.Vm.P4
theorem zip_run {α γ : Type} [DecidableEq α] (T F : γ) : ∀ l o : List α,l.length = o.length → runL (γ:=γ) (fun (_ : Unit) (x : α × α) => if x.1 = x.2 then .inl () else .inr F) (fun _ => T) () (List.zip l o) = if l = o then T else F
  | [],[],_ => rfl
  | [],_ :: _,h => by simp at h
  | _ :: _,[],h => by simp at h
  | x :: l,y :: o,h => by
    rw [List.zip_cons_cons,runL_cons]
    by_cases q : x = y
    · subst q
      simp only [if_true,zip_run T F l o (by simpa using h),List.cons.injEq,true_and]
    · simp only [q,if_false,List.cons.injEq,false_and]
end Go.Vm.P4Z

/- Chapter 04,functions: the reference's Encode and Digest. -/
set_option maxRecDepth 100000
set_option maxHeartbeats 4000000
namespace Go.Vm.P4Z
open Go Go.Vm Go.Vm.P4
theorem nb_fold : ∀ (k : Nat) (acc : List Int) (v : Int),(List.range k).foldl (fun (a : List Int × Int) _ => (a.1 ++ [a.2 % 256],a.2 / 256)) (acc,v) = (acc ++ leB k v,(((List.range k).foldl (fun (a : List Int × Int) _ => (a.1 ++ [a.2 % 256],a.2 / 256)) (acc,v)).2)):=by
  have key : ∀ (l : List Nat) (acc : List Int) (v : Int),(l.foldl (fun (a : List Int × Int) _ => (a.1 ++ [a.2 % 256],a.2 / 256)) (acc,v)).1 = acc ++ leB l.length v:=by
    intro l
    induction l with
    | nil => intro acc v; simp [leB]
    | cons x l ih => intro acc v; rw [List.foldl_cons,ih,List.length_cons,leB_s]; simp
  intro k acc v
  have h:=key (List.range k) acc v
  rw [List.length_range] at h
  exact Prod.ext h rfl
theorem okRNumber (n : Nat) (k : Nat) (v : Int) (hk : k < 1000) (h0 : 0 ≤ v) (h1 : v < 18446744073709551616) : callP (level E (n+1)) 78 [.int .u64 v,.int .i64 k] = some (slD true 1 ((leB k v).map u8)):=by
  rw [p78]
  simp only [go_sem,Nat.reduceAdd,Nat.reduceSub,Nat.reduceMul,Nat.reduceDiv,Nat.reduceMod,Nat.reduceLeDiff,Nat.reduceLT,Nat.reduceBEq,Int.reduceToNat,Int.reduceLT,Int.reduceLE,Int.reduceEq]
  have h:=loop_fold (f:=aCode (level E (n)) ⟨0,false⟩ b78_0) (h:=head ⟨0,false⟩ [1,1,0,1,1,0]) (Φ:=outC ⟨0,false⟩ [0,0,0,1,0,0]) (List.range k) (fun (a : List Int × Int) i => ⟨[.imm (.int .u64 a.2),.imm (.int .i64 k),.junk,vK 0 1 (a.1.map u8),.imm (.int .i64 i),.junk],oK 1 (a.1.map u8),none⟩) (fun a i => a.1.length = i ∧ 0 ≤ a.2 ∧ a.2 < 18446744073709551616)
    (fun a _ => (a.1 ++ [a.2 % 256],a.2 / 256)) (fun a => some (.exit 0,⟨[.junk,.junk,.junk,vK 0 1 (a.1.map u8),.junk,.junk],oK 1 (a.1.map u8),none⟩)) ([],v) ⟨rfl,h0,h1⟩
    (fun a i x hI h2 h1 => ⟨by
      have:=getRange h1
      subst this
      rw [List.length_range] at h2
      rw [rnd_eq]
      obtain ⟨i1,i2,i3⟩:=hI
      have e1 : (a.1.length + 1) * 2 ≤ 70368744177664:=by omega
      rcases a with ⟨l,m⟩
      dsimp only at i1 i2 i3 e1 ⊢
      have e3 : m.tmod 256 = m % 256:=Int.tmod_eq_emod_of_nonneg i2
      have e4 : wrp .u64 (m.tdiv 256) = m / 256:=by rw [Int.tdiv_eq_ediv_of_nonneg i2,wrpU (Int.ediv_nonneg i2 (by decide)) (by omega)]
      have e5 : wrp .u8 (m % 256) = m % 256:=by rw [wrp_u8]; omega
      rcases l with _ | ⟨y,t⟩
      · simp only [go_sem,Nat.reduceAdd,Nat.reduceSub,Nat.reduceMul,Nat.reduceDiv,Nat.reduceMod,Nat.reduceLeDiff,Nat.reduceLT,Nat.reduceBEq,Int.reduceToNat,Int.reduceLT,Int.reduceLE,Int.reduceEq,lt_t h2,vK,oK,e3,e4,e5,ne_eq,not_false_eq_true]
        rw [wrpS (by omega)]
      · simp only [List.length_cons] at e1
        simp only [go_sem,Nat.reduceAdd,Nat.reduceSub,Nat.reduceMul,Nat.reduceDiv,Nat.reduceMod,Nat.reduceLeDiff,Nat.reduceLT,Nat.reduceBEq,Int.reduceToNat,Int.reduceLT,Int.reduceLE,Int.reduceEq,lt_t h2,vK,oK,e1,e3,e4,e5,ne_eq,not_false_eq_true]
        rw [wrpS (by omega)],by
        obtain ⟨i1,i2,i3⟩:=hI
        exact ⟨by simp [i1],Int.ediv_nonneg i2 (by decide),by dsimp only; omega⟩⟩)
    (fun a _ => by
      rw [rnd_eq]
      rw [List.length_range]
      rcases a with ⟨_ | ⟨y,t⟩,m⟩ <;> simp only [go_sem,Nat.reduceAdd,Nat.reduceSub,Nat.reduceMul,Nat.reduceDiv,Nat.reduceMod,Nat.reduceLeDiff,Nat.reduceLT,Nat.reduceBEq,Int.reduceToNat,Int.reduceLT,Int.reduceLE,Int.reduceEq,lt_f (Nat.le_refl _),vK,oK])
  rw [cast_0] at h
  simp only [List.map_nil,vK,oK] at h
  rw [h,nb_fold k [] v,List.nil_append]
  generalize leB k v = A
  rcases A with _ | ⟨y,t⟩ <;> simp only [go_sem,Nat.reduceAdd,Nat.reduceSub,Nat.reduceMul,Nat.reduceDiv,Nat.reduceMod,Nat.reduceLeDiff,Nat.reduceLT,Nat.reduceBEq,Int.reduceToNat,Int.reduceLT,Int.reduceLE,Int.reduceEq,vK,oK,slD]
theorem okRBytes (n : Nat) (k : Int) (hk : ckKind k = 0) : callP (level E (n+2)) 77 [.int .i64 k] = some (.int .i64 (szN k)):=by
  rw [p77]
  have w:=okQWidth n k hk
  have e : wrp .i64 ((wrp .i64 (wdL.getD k.toNat 0 + 7)).tdiv 8) = (szN k : Int):=by
    rcases kinds11 hk with rfl | rfl | rfl | rfl | rfl | rfl | rfl | rfl | rfl | rfl | rfl <;> decide
  simp only [go_sem,Nat.reduceAdd,Nat.reduceSub,Nat.reduceMul,Nat.reduceDiv,Nat.reduceMod,Nat.reduceLeDiff,Nat.reduceLT,Nat.reduceBEq,Int.reduceToNat,Int.reduceLT,Int.reduceLE,Int.reduceEq,w,e,ne_eq,not_false_eq_true]
theorem okRDigest (n : Nat) (b : Bool) (l : List Int) (hl : l.length < 1000000) : callP (level E (n+1)) 16 [slD b 1 (l.map u8)] = some (.int .u64 (dgI l)):=by
  rw [p16]
  simp only [go_sem,Nat.reduceAdd,Nat.reduceSub,Nat.reduceMul,Nat.reduceDiv,Nat.reduceMod,Nat.reduceLeDiff,Nat.reduceLT,Nat.reduceBEq,Int.reduceToNat,Int.reduceLT,Int.reduceLE,Int.reduceEq]
  have h:=loop_fold (f:=aCode (level E (n)) ⟨0,false⟩ b16_0) (h:=head ⟨0,false⟩ [1,0,1,1,0]) (Φ:=outC ⟨0,false⟩ [0,0,1,0,0]) l (fun (a : Int) i => ⟨[.imm (slD b 1 (l.map u8)),.junk,.imm (.int .u64 a),.imm (.int .i64 i),.junk],[],none⟩) (fun _ _ => True)
    dgS (fun a => some (.exit 0,⟨[.junk,.junk,.imm (.int .u64 a),.junk,.junk],[],none⟩)) 14695981039346656037 trivial
    (fun a i x _ h2 h1 => by
      refine ⟨?_,trivial⟩
      rw [rnd_eq]
      simp only [go_sem,Nat.reduceAdd,Nat.reduceSub,Nat.reduceMul,Nat.reduceDiv,Nat.reduceMod,Nat.reduceLeDiff,Nat.reduceLT,Nat.reduceBEq,Int.reduceToNat,Int.reduceLT,Int.reduceLE,Int.reduceEq,lt_t h2,h1,dgS]
      rw [wrpS (by omega)]
      rfl)
    (fun a _ => by
      rw [rnd_eq]
      simp only [go_sem,Nat.reduceAdd,Nat.reduceSub,Nat.reduceMul,Nat.reduceDiv,Nat.reduceMod,Nat.reduceLeDiff,Nat.reduceLT,Nat.reduceBEq,Int.reduceToNat,Int.reduceLT,Int.reduceLE,Int.reduceEq,lt_f (Nat.le_refl _)])
  rw [cast_0] at h
  rw [h]
  simp only [go_sem,Nat.reduceAdd,Nat.reduceSub,Nat.reduceMul,Nat.reduceDiv,Nat.reduceMod,Nat.reduceLeDiff,Nat.reduceLT,Nat.reduceBEq,Int.reduceToNat,Int.reduceLT,Int.reduceLE,Int.reduceEq,dgI]
theorem okSameBytesG (n : Nat) (b c : Bool) (l o : List Int) (hl : l.length < 1000000000) (ho : o.length < 1000000000) : callP (level E (n+1)) 17 [slD b 1 (l.map u8),slD c 1 (o.map u8)] = some (.bool (decide (l = o))):=by
  by_cases hlo : l.length = o.length
  · have h:=loop_run (f:=aCode (level E (n)) ⟨0,false⟩ b17_0) (h:=head ⟨0,false⟩ [1,1,0,1,0,0,0]) (Φ:=outC ⟨0,false⟩ [0,0,1,0,0,0,0]) (List.zip l o) (fun (_ : Unit) i => ⟨[.imm (slD b 1 (l.map u8)),.imm (slD c 1 (o.map u8)),.junk,.imm (.int .i64 i),.junk,.junk,.junk],[],none⟩) (fun _ _ => True)
      (fun _ x => if x.1 = x.2 then .inl () else .inr (some (.ret,⟨[.junk,.junk,.imm (.bool false),.junk,.junk,.junk,.junk],[],none⟩))) (fun _ => some (.exit 0,⟨[.junk,.junk,.junk,.junk,.junk,.junk,.junk],[],none⟩)) () trivial
      (fun _ i x _ h2 h1 => ⟨by
        rw [List.length_zip] at h2
        have hil : i < l.length:=by omega
        have g1 : l[i]? = some x.1:=by
          rw [List.getElem?_zip_eq_some] at h1; exact h1.1
        have g2 : o[i]? = some x.2:=by
          rw [List.getElem?_zip_eq_some] at h1; exact h1.2
        rw [rnd_eq]
        rcases x with ⟨a1,b1⟩
        dsimp only at g1 g2 ⊢
        by_cases q1 : a1 = b1
        · subst q1
          simp only [go_sem,Nat.reduceAdd,Nat.reduceSub,Nat.reduceMul,Nat.reduceDiv,Nat.reduceMod,Nat.reduceLeDiff,Nat.reduceLT,Nat.reduceBEq,Int.reduceToNat,Int.reduceLT,Int.reduceLE,Int.reduceEq,lt_t hil,g1,g2,ne_eq,not_true_eq_false]
          rw [wrpS (by omega)]
        · simp only [go_sem,Nat.reduceAdd,Nat.reduceSub,Nat.reduceMul,Nat.reduceDiv,Nat.reduceMod,Nat.reduceLeDiff,Nat.reduceLT,Nat.reduceBEq,Int.reduceToNat,Int.reduceLT,Int.reduceLE,Int.reduceEq,lt_t hil,g1,g2,q1,ne_eq,not_false_eq_true],fun _ _ => trivial⟩)
      (fun _ _ => by
        rw [rnd_eq]
        rw [List.length_zip,← hlo,Nat.min_self]
        simp only [go_sem,Nat.reduceAdd,Nat.reduceSub,Nat.reduceMul,Nat.reduceDiv,Nat.reduceMod,Nat.reduceLeDiff,Nat.reduceLT,Nat.reduceBEq,Int.reduceToNat,Int.reduceLT,Int.reduceLE,Int.reduceEq,lt_f (Nat.le_refl _)])
    rw [cast_0,zip_run _ _ l o hlo] at h
    have hz : (l.length : Int) = o.length:=by omega
    rw [p17]
    simp only [go_sem,Nat.reduceAdd,Nat.reduceSub,Nat.reduceMul,Nat.reduceDiv,Nat.reduceMod,Nat.reduceLeDiff,Nat.reduceLT,Nat.reduceBEq,Int.reduceToNat,Int.reduceLT,Int.reduceLE,Int.reduceEq,hz,ne_eq,not_true_eq_false]
    by_cases q : l = o
    · rw [if_pos q] at h
      rw [h]
      simp only [go_sem,Nat.reduceAdd,Nat.reduceSub,Nat.reduceMul,Nat.reduceDiv,Nat.reduceMod,Nat.reduceLeDiff,Nat.reduceLT,Nat.reduceBEq,Int.reduceToNat,Int.reduceLT,Int.reduceLE,Int.reduceEq,q]
    · rw [if_neg q] at h
      rw [h]
      simp only [go_sem,Nat.reduceAdd,Nat.reduceSub,Nat.reduceMul,Nat.reduceDiv,Nat.reduceMod,Nat.reduceLeDiff,Nat.reduceLT,Nat.reduceBEq,Int.reduceToNat,Int.reduceLT,Int.reduceLE,Int.reduceEq,q]
  · have hz : ¬ (l.length : Int) = o.length:=by omega
    have q : ¬ l = o:=fun h => hlo (by rw [h])
    rw [p17]
    simp only [go_sem,Nat.reduceAdd,Nat.reduceSub,Nat.reduceMul,Nat.reduceDiv,Nat.reduceMod,Nat.reduceLeDiff,Nat.reduceLT,Nat.reduceBEq,Int.reduceToNat,Int.reduceLT,Int.reduceLE,Int.reduceEq,hz,q,ne_eq,not_false_eq_true]
theorem okRRead (n : Nat) (b : Bool) (l : List Int) (at' k : Nat) (hk : k ≤ 8) (ha : at' + k ≤ l.length) (hl : l.length < 1000000) (hb : By l) : callP (level E (n+1)) 76 [slD b 1 (l.map u8),.int .i64 at',.int .i64 k] = some (.int .u64 (leV ((l.drop at').take k))):=by
  have key : ∀ (j : Nat) (w : List Int),j + w.length = k → (l.drop at').take k = (l.drop at').take j ++ w →
      outC ⟨0,false⟩ [0,0,0,0,1,0,0] (rnd (aCode (level E n) ⟨0,false⟩ b76_0) (head ⟨0,false⟩ [1,1,0,0,1,1,0])
        ⟨[.imm (slD b 1 (l.map u8)),.imm (.int .i64 at'),.junk,.junk,.imm (.int .u64 (leV w)),.imm (.int .i64 ((j : Int) - 1)),.junk],[],none⟩) = some (.exit 0,⟨[.junk,.junk,.junk,.junk,.imm (.int .u64 (leV ((l.drop at').take k))),.junk,.junk],[],none⟩):=by
    intro j
    induction j with
    | zero =>
      intro w h1 h2
      rw [List.take_zero,List.nil_append] at h2
      rw [rnd_eq,h2]
      have c5 : decide (0 ≤ (0 : Int) - 1) = false:=by decide
      simp only [go_sem,Nat.reduceAdd,Nat.reduceSub,Nat.reduceMul,Nat.reduceDiv,Nat.reduceMod,Nat.reduceLeDiff,Nat.reduceLT,Nat.reduceBEq,Int.reduceToNat,Int.reduceLT,Int.reduceLE,Int.reduceEq,c5]
    | succ j ih =>
      intro w h1 h2
      have hj : at' + j < l.length:=by omega
      have g:=List.getElem?_eq_getElem hj
      have e : (l.drop at').take (j + 1) = (l.drop at').take j ++ [l[at' + j]]:=by
        rw [List.take_add_one,List.getElem?_drop,g]; rfl
      have IH:=ih (l[at' + j] :: w) (by simp; omega) (by rw [h2,e]; simp)
      have bb:=hb _ (List.getElem_mem hj)
      have bw : leV w < 256 ^ w.length ∧ 0 ≤ leV w:=by
        have hm : ∀ x ∈ w,x ∈ (l.drop at').take k:=fun x hx => by rw [h2]; exact List.mem_append_right _ hx
        have:=leV_bd w (fun x hx => hb x (List.mem_of_mem_drop (List.mem_of_mem_take (hm x hx))))
        exact ⟨this.2,this.1⟩
      have p7 : (256 : Int) ^ w.length ≤ 256 ^ 7:=by
        have : (256 : Nat) ^ w.length ≤ 256 ^ 7:=Nat.pow_le_pow_right (by decide) (by omega)
        exact_mod_cast this
      have p7' : (256 : Int) ^ 7 = 72057594037927936:=by decide
      rw [p7'] at p7
      have w1 : wrp .u64 (leV w * 256) = leV w * 256:=wrpU (by omega) (by omega)
      have w2 : wrp .u64 l[at' + j] = l[at' + j]:=wrpU (by omega) (by omega)
      have w3 : wrp .u64 (leV w * 256 + l[at' + j]) = leV (l[at' + j] :: w):=by rw [wrpU (by omega) (by omega),leV]; omega
      have c1 : wrp .i64 ((at' : Int) + (((j + 1 : Nat) : Int) - 1)) = ((at' + j : Nat) : Int):=by rw [wrp_ok (by omega)]; omega
      have c2 : wrp .i64 (((j + 1 : Nat) : Int) - 1 - 1) = (j : Int) - 1:=by rw [wrp_ok (by omega)]; omega
      have c3 : decide (((j + 1 : Nat) : Int) - 1 ≥ 0) = true:=decide_eq_true (by omega)
      rw [rnd_eq]
      simp only [go_sem,Nat.reduceAdd,Nat.reduceSub,Nat.reduceMul,Nat.reduceDiv,Nat.reduceMod,Nat.reduceLeDiff,Nat.reduceLT,Nat.reduceBEq,Int.reduceToNat,Int.reduceLT,Int.reduceLE,Int.reduceEq,c1,c2,c3,g,w1,w2,w3]
      exact IH
  have h:=key k [] (by simp) (by simp)
  rw [p76]
  have c0 : wrp .i64 ((k : Int) - 1) = (k : Int) - 1:=wrp_ok (by omega)
  simp only [go_sem,Nat.reduceAdd,Nat.reduceSub,Nat.reduceMul,Nat.reduceDiv,Nat.reduceMod,Nat.reduceLeDiff,Nat.reduceLT,Nat.reduceBEq,Int.reduceToNat,Int.reduceLT,Int.reduceLE,Int.reduceEq,c0]
  rw [leV] at h
  rw [h]
  simp only [go_sem,Nat.reduceAdd,Nat.reduceSub,Nat.reduceMul,Nat.reduceDiv,Nat.reduceMod,Nat.reduceLeDiff,Nat.reduceLT,Nat.reduceBEq,Int.reduceToNat,Int.reduceLT,Int.reduceLE,Int.reduceEq]
end Go.Vm.P4Z

/- Chapter 04,functions: the reference's Encode. -/
set_option maxRecDepth 100000
set_option maxHeartbeats 4000000
namespace Go.Vm.P4Z
open Go Go.Vm Go.Vm.P4
theorem okREncode (n : Nat) (m : Im) (N : Nat) (G : Good m N) (hv : Ok64 m.dt) :
    callP (level E (n+3)) 15 [enIm m] = some (slD false 1 ((byI m).map u8)):=by
  rw [p15]
  simp only [go_sem,Nat.reduceAdd,Nat.reduceSub,Nat.reduceMul,Nat.reduceDiv,Nat.reduceMod,Nat.reduceLeDiff,Nat.reduceLT,Nat.reduceBEq,Int.reduceToNat,Int.reduceLT,Int.reduceLE,Int.reduceEq,enIm]
  have l1:=loop_fold (f:=aCode (level E (n+2)) ⟨0,false⟩ b15_0) (h:=head ⟨0,false⟩ [0,0,1,1,1,0,0,0]) (Φ:=outC ⟨0,false⟩ [0,0,1,1,0,0,0,0]) m.bx (fun (a : List (List D)) i => ⟨[.junk,.junk,.ptr 0 0,.ref 1 1 0 a.length,.imm (.int .i64 i),.junk,.junk,.junk],[boxI m,.arr 1 a],none⟩) (fun a i => a.length = 2 + 6 * i)
    (fun a r => a ++ (rgB r).map u8) (fun a => some (.exit 0,⟨[.junk,.junk,.ptr 0 0,.ref 1 1 0 a.length,.junk,.junk,.junk,.junk],[boxI m,.arr 1 a],none⟩)) [[.int .u8 (wrp .u8 m.kd)],[.int .u8 (wrp .u8 m.bx.length)]] rfl
    (fun a i r hI h2 h1 => ⟨by
      have hr:=G.okr r (List.mem_of_getElem? h1)
      obtain ⟨r1,r2,r3,r4,r5⟩:=ckRange0 hr
      have e4:=leB_lo r.lo r1 r2
      have w4:=okRNumber (n+1) 4 (wrp .u64 (wrp .u32 (wrp .i32 r.lo))) (by decide) (by rw [wrp_u64]; omega) (by rw [wrp_u64]; omega)
      rw [← e4] at w4
      have w2:=okRNumber (n+1) 2 (wrp .u64 r.ex) (by decide) (by rw [wrp_u64]; omega) (by rw [wrp_u64]; omega)
      have:=G.len3
      rw [rnd_eq]
      have e1 : (a.length + 4) * 2 ≤ 70368744177664:=by omega
      have e2 : (a.length + 6) * 2 ≤ 70368744177664:=by omega
      simp only [go_sem,Nat.reduceAdd,Nat.reduceSub,Nat.reduceMul,Nat.reduceDiv,Nat.reduceMod,Nat.reduceLeDiff,Nat.reduceLT,Nat.reduceBEq,Int.reduceToNat,Int.reduceLT,Int.reduceLE,Int.reduceEq,leB,slD] at w4 w2
      simp only [go_sem,Nat.reduceAdd,Nat.reduceSub,Nat.reduceMul,Nat.reduceDiv,Nat.reduceMod,Nat.reduceLeDiff,Nat.reduceLT,Nat.reduceBEq,Int.reduceToNat,Int.reduceLT,Int.reduceLE,Int.reduceEq,lt_t h2,h1,boxI,enB,w4,w2,e1,e2,rgB,leB]
      rw [wrpS (by omega)]
      simp only [List.append_assoc,List.cons_append,List.nil_append],by simp [hI,rgB_len]; omega⟩)
    (fun a _ => by
      rw [rnd_eq]
      simp only [go_sem,Nat.reduceAdd,Nat.reduceSub,Nat.reduceMul,Nat.reduceDiv,Nat.reduceMod,Nat.reduceLeDiff,Nat.reduceLT,Nat.reduceBEq,Int.reduceToNat,Int.reduceLT,Int.reduceLE,Int.reduceEq,lt_f (Nat.le_refl _),boxI,enB])
  rw [cast_0] at l1
  simp only [boxI,go_sem,Nat.reduceAdd,Nat.reduceSub,Nat.reduceMul,Nat.reduceDiv,Nat.reduceMod,Nat.reduceLeDiff,Nat.reduceLT,Nat.reduceBEq,Int.reduceToNat,Int.reduceLT,Int.reduceLE,Int.reduceEq,enB] at l1
  rw [l1]
  rw [fold_app]
  have e6 : ∀ l : Bx,(l.flatMap (fun r => (rgB r).map u8)).length = 6 * l.length:=by
    intro l
    induction l with
    | nil => rfl
    | cons x l ih => rw [List.flatMap_cons,List.length_append,ih,List.length_map,rgB_len,List.length_cons]; omega
  generalize hA1 : [[D.int .u8 (wrp .u8 m.kd)],[D.int .u8 (wrp .u8 m.bx.length)]] ++ m.bx.flatMap (fun r => (rgB r).map u8) = A1
  have hA2 : A1.length = 2 + 6 * m.bx.length:=by rw [← hA1,List.length_append,e6]; rfl
  have pr:=okRProduct (n+1) m.bb m.bx (by have:=G.len3; omega)
  have sm:=G.small
  have sl3:=G.len3
  have mN:=G.many
  have l2:=loop_fold (f:=aCode (level E (n+2)) ⟨0,false⟩ b15_1) (h:=head ⟨0,false⟩ [0,0,1,1,0,1,0,0]) (Φ:=outC ⟨0,false⟩ [0,0,0,1,0,0,0,0]) (List.range N) (fun (a : List (List D)) i => ⟨[.junk,.junk,.ptr 0 0,.ref 1 1 0 a.length,.junk,.imm (.int .i64 i),.junk,.junk],[boxI m,.arr 1 a],none⟩) (fun a i => a.length ≤ 2 + 6 * m.bx.length + 8 * i)
    (fun a (i : Nat) => a ++ (leB (szN m.kd) (atI m (digits m.bx i))).map u8) (fun a => some (.exit 2,⟨[.junk,.junk,.junk,.ref 0 1 0 a.length,.junk,.junk,.junk,.junk],[.arr 1 a],none⟩)) A1 (by omega)
    (fun a i x hI h2 h1 => ⟨by
      have:=getRange h1
      subst this
      rw [List.length_range] at h2
      have hx:=G.pos (by omega)
      have rp:=okRPoint (n+1) m.bb m.bx x (by omega) (fun r hr => by have:=hx r hr; omega)
      rw [ptW_dig m.bx x G.okr hx (by omega) (by omega)] at rp
      obtain ⟨k,k1,k2,k3⟩:=G.at (digits_in m.bx x hx)
      have rb:=okRBits n m true (digits m.bx x) G.len3 (by have:=G.stl; omega) (by rw [digits_len]; omega) k _ k1 k3
      have bd:=hv _ (List.mem_of_getElem? k3)
      have rs:=okRBytes n m.kd G.kd
      have zk:=(szN_in G.kd).2
      have rn:=okRNumber (n+1) (szN m.kd) (atI m (digits m.bx x)) (by omega) bd.1 bd.2
      obtain ⟨y,t,hW⟩ : ∃ y t,leB (szN m.kd) (atI m (digits m.bx x)) = y :: t:=by
        cases hq : leB (szN m.kd) (atI m (digits m.bx x)) with
        | nil => have:=leB_len (szN m.kd) (atI m (digits m.bx x)); rw [hq] at this; simp at this; omega
        | cons y t => exact ⟨y,t,rfl⟩
      have hT : t.length + 1 ≤ 8:=by
        have:=leB_len (szN m.kd) (atI m (digits m.bx x))
        rw [hW] at this
        simp only [List.length_cons] at this
        omega
      rw [hW] at rn ⊢
      have hlt : (x : Int) < many m.bx:=by omega
      rw [rnd_eq]
      have e1 : (a.length + (t.length + 1)) * 2 ≤ 70368744177664:=by omega
      simp only [enIm,List.map_cons,slD_c,u8] at rb rn
      simp only [go_sem,Nat.reduceAdd,Nat.reduceSub,Nat.reduceMul,Nat.reduceDiv,Nat.reduceMod,Nat.reduceLeDiff,Nat.reduceLT,Nat.reduceBEq,Int.reduceToNat,Int.reduceLT,Int.reduceLE,Int.reduceEq,pr,hlt,rp,rb,rs,rn,e1,enB,boxI]
      rw [wrpS (by omega)],by
      have zk:=(szN_in G.kd).2
      simp [leB_len]; omega⟩)
    (fun a _ => by
      rw [rnd_eq]
      rw [List.length_range]
      have hlt : ¬ (N : Int) < many m.bx:=by omega
      simp only [go_sem,Nat.reduceAdd,Nat.reduceSub,Nat.reduceMul,Nat.reduceDiv,Nat.reduceMod,Nat.reduceLeDiff,Nat.reduceLT,Nat.reduceBEq,Int.reduceToNat,Int.reduceLT,Int.reduceLE,Int.reduceEq,pr,hlt,enB,boxI])
  rw [cast_0] at l2
  simp only [boxI,go_sem,Nat.reduceAdd,Nat.reduceSub,Nat.reduceMul,Nat.reduceDiv,Nat.reduceMod,Nat.reduceLeDiff,Nat.reduceLT,Nat.reduceBEq,Int.reduceToNat,Int.reduceLT,Int.reduceLE,Int.reduceEq,enB] at l2
  simp only [go_sem,Nat.reduceAdd,Nat.reduceSub,Nat.reduceMul,Nat.reduceDiv,Nat.reduceMod,Nat.reduceLeDiff,Nat.reduceLT,Nat.reduceBEq,Int.reduceToNat,Int.reduceLT,Int.reduceLE,Int.reduceEq]
  rw [l2,fold_app,← hA1]
  have e : (many m.bx).toNat = N:=by omega
  simp only [go_sem,Nat.reduceAdd,Nat.reduceSub,Nat.reduceMul,Nat.reduceDiv,Nat.reduceMod,Nat.reduceLeDiff,Nat.reduceLT,Nat.reduceBEq,Int.reduceToNat,Int.reduceLT,Int.reduceLE,Int.reduceEq]
  simp [byI,List.map_flatMap,u8,e,slD]
end Go.Vm.P4Z

/- Chapter 04,functions: a reader of bytes. -/
set_option maxRecDepth 100000
set_option maxHeartbeats 4000000
namespace Go.Vm.P4Z
open Go Go.Vm Go.Vm.P4
theorem bin_shl {k k' : IntKind} {a b : Int} (h : ¬ b < 0) : aBin .shl (.imm (.int k a)) (.imm (.int k' b)) = some (.imm (.int k (wrp k (a * 2 ^ (min b.toNat k.bits))))):=by simp [aBin,shiftI,h]
theorem stk {n : Nat} {x0 x1 : AV} {st : List AO} : callS (level E (n + 1)) 63 [x0,x1] st = psC st.length (fin [.v 2] (aCode (level E n) ⟨st.length,false⟩ c63 ⟨[x0,x1,.junk,.junk,.junk,.junk,.junk,.junk,.junk],st,none⟩)):=callS_go e63 rfl rfl rfl rfl
abbrev rdr (x : D) (t : Bool) : AO:=.box [.imm x,.imm (.bool t)]
theorem okTakeE (n : Nat) (k : Nat) (b t : Bool) (l : List Int) (h : l.length < k) : callS (level E (n+1)) 63 [.ptr 0 0,.imm (.int .i64 k)] [rdr (slD b 1 (l.map u8)) t] = some (.imm (.int .u64 0),[rdr .nil true]):=by
  rw [stk]
  have e : decide ((l.length : Int) < k) = true:=decide_eq_true (by omega)
  simp only [go_sem,Nat.reduceAdd,Nat.reduceSub,Nat.reduceMul,Nat.reduceDiv,Nat.reduceMod,Nat.reduceLeDiff,Nat.reduceLT,Nat.reduceBEq,Int.reduceToNat,Int.reduceLT,Int.reduceLE,Int.reduceEq,rdr,e]
theorem tkLoop (n : Nat) (k : Nat) (hk : k ≤ 8) (b t : Bool) (l : List Int) (h : k ≤ l.length) (hb : By l) : ∀ j i : Nat,i + j = k →
    outC ⟨1,false⟩ [1,1,0,1,0,0,0,0,0] (rnd (aCode (level E n) ⟨1,false⟩ b63_0) (head ⟨1,false⟩ [1,1,0,1,0,0,1,1,0])
      ⟨[.ptr 0 0,.imm (.int .i64 k),.junk,.imm (.int .u64 (leV (l.take i))),.junk,.junk,.imm (.int .i64 k),.imm (.int .i64 i),.junk],[rdr (slD b 1 (l.map u8)) t],none⟩) =
    some (.exit 0,⟨[.ptr 0 0,.imm (.int .i64 k),.junk,.imm (.int .u64 (leV (l.take k))),.junk,.junk,.junk,.junk,.junk],[rdr (slD b 1 (l.map u8)) t],none⟩):=by
  intro j
  induction j with
  | zero =>
    intro i hi
    have : i = k:=by omega
    subst this
    rw [rnd_eq]
    simp only [go_sem,Nat.reduceAdd,Nat.reduceSub,Nat.reduceMul,Nat.reduceDiv,Nat.reduceMod,Nat.reduceLeDiff,Nat.reduceLT,Nat.reduceBEq,Int.reduceToNat,Int.reduceLT,Int.reduceLE,Int.reduceEq,rdr,lt_f (Nat.le_refl _)]
  | succ j ih =>
    intro i hi
    have hil : i < l.length:=by omega
    have g:=List.getElem?_eq_getElem hil
    have bb:=hb _ (List.getElem_mem hil)
    have bd:=leV_bd (l.take i) (hb.take i)
    rw [List.length_take,Nat.min_eq_left (by omega)] at bd
    have p8 : (256 : Int) ^ i = 2 ^ (8 * i):=by rw [Int.pow_mul]; rfl
    rw [p8] at bd
    have ev : leV (l.take (i + 1)) = leV (l.take i) + l[i] * 2 ^ (8 * i):=by
      rw [List.take_add_one,g,Option.toList_some,leV_app,List.length_take,Nat.min_eq_left (by omega),p8]
      simp only [leV,Int.mul_zero,Int.add_zero]
      rw [Int.mul_comm (2 ^ (8 * i))]
    have p7 : (2 : Int) ^ (8 * i) ≤ 2 ^ 56:=by
      have : (2 : Nat) ^ (8 * i) ≤ 2 ^ 56:=Nat.pow_le_pow_right (by decide) (by omega)
      exact_mod_cast this
    have p7' : (2 : Int) ^ 56 = 72057594037927936:=by decide
    rw [p7'] at p7
    have p0 : (0 : Int) < 2 ^ (8 * i):=Int.pow_pos (by decide)
    have hm : l[i] * 2 ^ (8 * i) ≤ 255 * 2 ^ (8 * i):=Int.mul_le_mul_of_nonneg_right (by omega) (by omega)
    have hm0 : 0 ≤ l[i] * 2 ^ (8 * i):=Int.mul_nonneg bb.1 (by omega)
    have w1 : wrp .u64 l[i] = l[i]:=wrpU (by omega) (by omega)
    have w2 : wrp .i64 (8 * (i : Int)) = ((8 * i : Nat) : Int):=by rw [wrp_ok (by omega)]; omega
    have sh : aBin .shl (.imm (.int .u64 l[i])) (.imm (.int .i64 ((8 * i : Nat) : Int))) = some (.imm (.int .u64 (l[i] * 2 ^ (8 * i)))):=by
      rw [bin_shl (by omega),Int.toNat_natCast,Nat.min_eq_left (by show 8 * i ≤ 64; omega),wrpU hm0 (by omega)]
    have w3 : wrp .u64 ((BitVec.ofInt 64 (leV (l.take i)) ||| BitVec.ofInt 64 (l[i] * 2 ^ (8 * i))).toNat : Nat) = leV (l.take (i + 1)):=by
      rw [ev]
      exact or_add (8 * i) bd.1 bd.2 bb.1 bb.2 (by omega)
    have IH:=ih (i + 1) (by omega)
    rw [rnd_eq]
    rw [← w3] at IH
    simp only [go_sem,Nat.reduceAdd,Nat.reduceSub,Nat.reduceMul,Nat.reduceDiv,Nat.reduceMod,Nat.reduceLeDiff,Nat.reduceLT,Nat.reduceBEq,Int.reduceToNat,Int.reduceLT,Int.reduceLE,Int.reduceEq,rdr,lt_t (show i < k by omega),g,w1,w2,sh]
    rw [wrpS (by omega)]
    exact IH
theorem bd_nat {k : Nat} : bdC (some (.imm (.int .i64 (k : Int)))) = some (some k):=by
  rw [bd_int (by omega)]; simp
theorem okTakeS (n : Nat) (k : Nat) (h1 : 1 ≤ k) (hk : k ≤ 8) (b t : Bool) (l : List Int) (h : k ≤ l.length) (hb : By l) : callS (level E (n+1)) 63 [.ptr 0 0,.imm (.int .i64 k)] [rdr (slD b 1 (l.map u8)) t] = some (.imm (.int .u64 (leV (l.take k))),[rdr (slD false 1 ((l.drop k).map u8)) t]):=by
  rw [stk]
  have e : decide ((l.length : Int) < k) = false:=decide_eq_false (by omega)
  have lp:=tkLoop n k hk b t l h hb k 0 (by omega)
  rw [List.take_zero,leV,cast_0] at lp
  rcases l with _ | ⟨x,tl⟩
  · simp at h; omega
  have sl:=sl_slo (st:=[rdr (slD b 1 ((x :: tl).map u8)) t]) (sz:=1) (l:=k) (es:=(x :: tl).map u8) (by rw [List.length_map]; exact h)
  have hd : slD false 1 (((x :: tl).drop k).map u8) = .sl 1 (((x :: tl).map u8).drop k):=by
    rw [slD_f,List.map_drop]
  rw [hd]
  simp only [List.map_cons,slD_c,rdr,u8,List.length_cons] at lp sl e ⊢
  simp only [go_sem,Nat.reduceAdd,Nat.reduceSub,Nat.reduceMul,Nat.reduceDiv,Nat.reduceMod,Nat.reduceLeDiff,Nat.reduceLT,Nat.reduceBEq,Int.reduceToNat,Int.reduceLT,Int.reduceLE,Int.reduceEq,e]
  rw [lp]
  simp only [go_sem,Nat.reduceAdd,Nat.reduceSub,Nat.reduceMul,Nat.reduceDiv,Nat.reduceMod,Nat.reduceLeDiff,Nat.reduceLT,Nat.reduceBEq,Int.reduceToNat,Int.reduceLT,Int.reduceLE,Int.reduceEq,bd_nat,sl]
end Go.Vm.P4Z

/- Chapter 04,functions: Decode. -/
set_option maxRecDepth 100000
set_option maxHeartbeats 4000000
namespace Go.Vm.P4Z
open Go Go.Vm Go.Vm.P4
section
variable {lo : Lower} {env vars : List AV} {st : List AO} {ext : Option Ext}
def rgS (vars : List AV) (st : List AO) (ext : Option Ext) (v : AV) : Option (AV × S):=match v with
  | .imm (.str b) => some (.ptr st.length 0,⟨vars,st ++ [.iter b 0],ext⟩)
  | _ => none
theorem op_rng {x : Opnd} : aOp lo vars env ⟨vars,st,ext⟩ (.range x) = rgS vars st ext (opnd vars env x):=by
  simp only [aOp,rgS]
  cases opnd vars env x with
  | imm d => cases d <;> rfl
  | _ => rfl
theorem rg_str {b : ByteArray} : rgS vars st ext (.imm (.str b)) = some (.ptr st.length 0,⟨vars,st ++ [.iter b 0],ext⟩):=rfl
def nyS (vars : List AV) (st : List AO) (ext : Option Ext) (id : Nat) (o : Option AO) : Option (AV × S):=match o with
  | some (.iter b pos) => if pos < b.size then
      some (.imm (.tup [.bool true,.int .i64 pos,.int .i32 (Utf8.decode b pos).1]),⟨vars,st.set id (.iter b (pos + (Utf8.decode b pos).2)),ext⟩)
    else some (.imm (.tup [.bool false]),⟨vars,st,ext⟩)
  | _ => none
def nxS (vars : List AV) (st : List AO) (ext : Option Ext) (v : AV) : Option (AV × S):=match v with
  | .ptr id 0 => nyS vars st ext id st[id]?
  | _ => none
theorem op_nxt {x : Opnd} : aOp lo vars env ⟨vars,st,ext⟩ (.next x) = nxS vars st ext (opnd vars env x):=by
  simp only [aOp,nxS]
  cases opnd vars env x with
  | ptr id k =>
    rcases k with _ | k
    · rcases st[id]? with _ | o
      · rfl
      · cases o <;> rfl
    · rfl
  | _ => rfl
theorem nx_ptr {id : Nat} : nxS vars st ext (.ptr id 0) = nyS vars st ext id st[id]?:=rfl
theorem nk0 {id : Nat} : nyS vars st ext id (some (.iter ⟨#[107,100]⟩ 0)) = some (.imm (.tup [.bool true,.int .i64 0,.int .i32 107]),⟨vars,st.set id (.iter ⟨#[107,100]⟩ 1),ext⟩):=rfl
theorem nk1 {id : Nat} : nyS vars st ext id (some (.iter ⟨#[107,100]⟩ 1)) = some (.imm (.tup [.bool true,.int .i64 1,.int .i32 100]),⟨vars,st.set id (.iter ⟨#[107,100]⟩ 2),ext⟩):=rfl
theorem nk2 {id : Nat} : nyS vars st ext id (some (.iter ⟨#[107,100]⟩ 2)) = some (.imm (.tup [.bool false]),⟨vars,st,ext⟩):=rfl
end
attribute [go_sem] op_rng rg_str op_nxt nx_ptr nk0 nk1 nk2
def dcHd : List Int → Int
  | [] => 24
  | k :: t => if ckKind k ≠ 0 then ckKind k else match t with
    | [] => 24
    | d :: _ => if 1 ≤ d ∧ d ≤ 3 then 0 else 13
def rgOf (r : List Int) : Rg:=⟨wrp .i32 (leV (r.take 4)),leV ((r.drop 4).take 2)⟩
def rdRs : Nat → List Int → Option (Bx × List Int)
  | 0,r => some ([],r)
  | d + 1,r => if r.length < 6 then none else match rdRs d (r.drop 6) with
    | none => none
    | some (b,r') => some (rgOf r :: b,r')
def rdVs (kd : Int) (k : Nat) : Nat → List Int → Int ⊕ (List Int × List Int)
  | 0,r => .inr ([],r)
  | N + 1,r => if r.length < k then .inl 24 else if ckVal kd (leV (r.take k)) ≠ 0 then .inl 1 else match rdVs kd k N (r.drop k) with
    | .inl e => .inl e
    | .inr (a,r') => .inr (leV (r.take k) :: a,r')
def decV (k : Int) (bx : Bx) (r : List Int) : Im × Int :=
  if ckBox bx ≠ 0 then (im0,ckBox bx) else match rdVs k (szN k) (many bx).toNat r with
    | .inl e => (im0,e)
    | .inr (a,r') => if r'.length > 0 then (im0,2) else (⟨k,true,bx,true,strides 1 bx,true,a⟩,0)
def decT (k : Int) (D : Nat) (r : List Int) : Im × Int:=match rdRs D r with
  | none => (im0,24)
  | some (bx,r) => decV k bx r
def decI (l : List Int) : Im × Int :=
  if dcHd l ≠ 0 then (im0,dcHd l) else decT (l.getD 0 0) (l.getD 1 0).toNat (l.drop 2)
abbrev clT : AV:=.clo 63 [.ptr 2 0] []
abbrev dcB (k : Int) (x y z : AV) : AO:=.box [.ptr 2 0,.imm (.int .i64 k),x,y,z]
theorem By.tl {x : Int} {l : List Int} (h : By (x :: l)) : By l:=fun y hy => h y (List.mem_cons_of_mem _ hy)
theorem leV1 (k : Int) : leV [k] = k:=by simp [leV]
theorem e_im0 : enIm im0 = .agg [.int .i64 0,.nil,.nil,.nil]:=rfl
theorem okDecE (n : Nat) (l : List Int) (hb : By l) (hl : l.length < 1000000) (h : dcHd l ≠ 0) : callP (level E (n+10)) 12 [.sl 1 (l.map u8)] = some (.tup [enIm im0,.int .i64 (dcHd l)]):=by
  rw [p12,e_im0]
  have w0 : wrp .i64 0 = 0:=rfl
  rcases l with _ | ⟨k,t⟩
  · have t1:=okTakeE (n+8) 1 false false [] (by decide)
    have k0:=okCheckKind (n+7) 0
    have f0 : callP (level E (n+9)) 65 [.sl 1 [[.int .i64 24],[.int .i64 (ckKind 0)]]] = some (.int .i64 24):=okFirstL (n+8) _ [24,ckKind 0] rfl (by simp)
    simp only [go_sem,Nat.reduceAdd,Nat.reduceSub,Nat.reduceMul,Nat.reduceDiv,Nat.reduceMod,Nat.reduceLeDiff,Nat.reduceLT,Nat.reduceBEq,Int.reduceToNat,Int.reduceLT,Int.reduceLE,Int.reduceEq,rdr,slD_f] at t1
    simp only [go_sem,Nat.reduceAdd,Nat.reduceSub,Nat.reduceMul,Nat.reduceDiv,Nat.reduceMod,Nat.reduceLeDiff,Nat.reduceLT,Nat.reduceBEq,Int.reduceToNat,Int.reduceLT,Int.reduceLE,Int.reduceEq,t1,okWhen,k0,f0]
    rw [rnd_eq]
    simp only [go_sem,Nat.reduceAdd,Nat.reduceSub,Nat.reduceMul,Nat.reduceDiv,Nat.reduceMod,Nat.reduceLeDiff,Nat.reduceLT,Nat.reduceBEq,Int.reduceToNat,Int.reduceLT,Int.reduceLE,Int.reduceEq,t1,okWhen,w0,k0,f0,ne_eq,not_false_eq_true,dcHd]
    done
  · have hk:=hb k (List.mem_cons_self)
    have t1:=okTakeS (n+8) 1 (by decide) (by decide) false false (k :: t) (by simp) hb
    have k1:=okCheckKind (n+7) k
    have wk : wrp .i64 k = k:=wrp_ok (by omega)
    have hfz : fnz [0,ckKind k] = ckKind k:=by
      simp only [fnz]
      by_cases h : ckKind k = 0 <;> simp [h]
    have f1 : callP (level E (n+9)) 65 [.sl 1 [[.int .i64 0],[.int .i64 (ckKind k)]]] = some (.int .i64 (ckKind k)):=(okFirstL (n+8) _ [0,ckKind k] rfl (by simp)).trans (by rw [hfz])
    simp only [List.take_succ_cons,List.take_zero,List.drop_succ_cons,List.drop_zero,leV1] at t1
    simp only [go_sem,Nat.reduceAdd,Nat.reduceSub,Nat.reduceMul,Nat.reduceDiv,Nat.reduceMod,Nat.reduceLeDiff,Nat.reduceLT,Nat.reduceBEq,Int.reduceToNat,Int.reduceLT,Int.reduceLE,Int.reduceEq,rdr,slD_f] at t1
    simp only [go_sem,Nat.reduceAdd,Nat.reduceSub,Nat.reduceMul,Nat.reduceDiv,Nat.reduceMod,Nat.reduceLeDiff,Nat.reduceLT,Nat.reduceBEq,Int.reduceToNat,Int.reduceLT,Int.reduceLE,Int.reduceEq]
    rw [rnd_eq]
    by_cases hc : ckKind k = 0
    · rw [hc] at f1 k1
      simp only [go_sem,Nat.reduceAdd,Nat.reduceSub,Nat.reduceMul,Nat.reduceDiv,Nat.reduceMod,Nat.reduceLeDiff,Nat.reduceLT,Nat.reduceBEq,Int.reduceToNat,Int.reduceLT,Int.reduceLE,Int.reduceEq,t1,okWhen,wk,k1,f1,ne_eq,not_true_eq_false,Bool.false_eq_true]
      rw [rnd_eq]
      rcases t with _ | ⟨d,t⟩
      · have t2:=okTakeE (n+8) 1 false false [] (by decide)
        have f2 : callP (level E (n+9)) 65 [.sl 1 [[.int .i64 24],[.int .i64 13]]] = some (.int .i64 24):=okFirstL (n+8) _ [24,13] rfl (by simp)
        simp only [go_sem,Nat.reduceAdd,Nat.reduceSub,Nat.reduceMul,Nat.reduceDiv,Nat.reduceMod,Nat.reduceLeDiff,Nat.reduceLT,Nat.reduceBEq,Int.reduceToNat,Int.reduceLT,Int.reduceLE,Int.reduceEq,rdr,slD_f] at t2
        have g0 : decide ((0 : Int) ≥ 1) = false:=by decide
        simp only [go_sem,Nat.reduceAdd,Nat.reduceSub,Nat.reduceMul,Nat.reduceDiv,Nat.reduceMod,Nat.reduceLeDiff,Nat.reduceLT,Nat.reduceBEq,Int.reduceToNat,Int.reduceLT,Int.reduceLE,Int.reduceEq,t2,f2,w0,g0,okWhen,okWithin,dcHd,hc,ne_eq,not_true_eq_false,not_false_eq_true,Bool.not_false]
        done
      · have hd:=hb d (by simp)
        have wd : wrp .i64 d = d:=wrp_ok (by omega)
        have t2:=okTakeS (n+8) 1 (by decide) (by decide) false false (d :: t) (by simp) hb.tl
        simp only [List.take_succ_cons,List.take_zero,List.drop_succ_cons,List.drop_zero,leV1] at t2
        have f2 : callP (level E (n+9)) 65 [.sl 1 [[.int .i64 0],[.int .i64 13]]] = some (.int .i64 13):=okFirstL (n+8) _ [0,13] rfl (by simp)
        have hx : (decide (d ≥ 1) && decide (d ≤ 3)) = false:=by
          cases hq : decide (d ≥ 1) && decide (d ≤ 3)
          · rfl
          · simp only [Bool.and_eq_true,decide_eq_true_eq] at hq
            exact absurd (show dcHd (k :: d :: t) = 0 by simp [dcHd,hc]; omega) h
        have hy : dcHd (k :: d :: t) = 13:=by
          have : ¬ (1 ≤ d ∧ d ≤ 3):=fun hq => by simp [hq.1,hq.2] at hx
          simp [dcHd,hc,this]
        have ww:=okWithin (n+8) d 1 3
        rw [hx] at ww
        rw [hy]
        simp only [go_sem,Nat.reduceAdd,Nat.reduceSub,Nat.reduceMul,Nat.reduceDiv,Nat.reduceMod,Nat.reduceLeDiff,Nat.reduceLT,Nat.reduceBEq,Int.reduceToNat,Int.reduceLT,Int.reduceLE,Int.reduceEq,rdr,slD_f] at t2
        simp only [go_sem,Nat.reduceAdd,Nat.reduceSub,Nat.reduceMul,Nat.reduceDiv,Nat.reduceMod,Nat.reduceLeDiff,Nat.reduceLT,Nat.reduceBEq,Int.reduceToNat,Int.reduceLT,Int.reduceLE,Int.reduceEq,t2,f2,wd,okWhen,ww,hx,ne_eq,not_true_eq_false,not_false_eq_true,Bool.false_eq_true]
        done
    · simp only [go_sem,Nat.reduceAdd,Nat.reduceSub,Nat.reduceMul,Nat.reduceDiv,Nat.reduceMod,Nat.reduceLeDiff,Nat.reduceLT,Nat.reduceBEq,Int.reduceToNat,Int.reduceLT,Int.reduceLE,Int.reduceEq,t1,okWhen,wk,k1,f1,hc,dcHd,ne_eq,not_false_eq_true,Bool.false_eq_true]
      done
end Go.Vm.P4Z

/- Chapter 04,functions: Decode,the ranges and the elements. -/
set_option maxRecDepth 100000
set_option maxHeartbeats 4000000
namespace Go.Vm.P4Z
open Go Go.Vm Go.Vm.P4
abbrev dcZ : AO:=.box [.imm (.int .i64 0),.imm .nil,.imm .nil,.imm .nil]
abbrev rdL (r : List Int) : AO:=rdr (.sl 1 (r.map u8)) false
def torn1 (k : Int) (b : Bx) (lo : Int) : Option (AExit × S) :=
  some (.ret,⟨[.junk,.ptr 0 0,.imm (.int .i64 24),.ptr 1 0,clT,.junk,.junk,.junk,.junk,.junk,.junk,.junk,.junk,.junk,.junk,.junk,.junk,.junk,.junk,.junk,.junk,.junk,.junk,.junk,.junk,.junk,.junk,.junk],[dcZ,dcB k (.ref 3 2 0 (b.length + 1)) (.imm .nil) (.imm .nil),rdr .nil true,.arr 2 (b.map enR ++ [[.int .i64 lo,.int .i64 0]])],none⟩)
theorem wi32 (v : Int) : wrp .i64 (wrp .i32 v) = wrp .i32 v:=by
  rw [wrp_ok]
  rw [wrp_i32]
  omega
theorem By.bd2 {l : List Int} (h : By l) : 0 ≤ leV (l.take 2) ∧ leV (l.take 2) < 65536:=by
  have h1:=leV_bd _ (h.take 2)
  have h2 : (256 : Int) ^ (l.take 2).length ≤ 256 ^ 2:=by
    have : (256 : Nat) ^ (l.take 2).length ≤ 256 ^ 2:=Nat.pow_le_pow_right (by decide) (by rw [List.length_take]; omega)
    exact_mod_cast this
  have : (256 : Int) ^ 2 = 65536:=by decide
  omega
theorem dcL1 (n : Nat) (k : Int) (D : Nat) (hD : D < 10) (r0 : List Int) (hb : By r0) :
    outC ⟨0,false⟩ [0,1,1,1,1,0,0,0,0,0,0,0,0,0,0,0,0,0,0,0,0,0,0,0,0,0,0,0] (rnd (aCode (level E (n+1)) ⟨0,false⟩ b12_1) (head ⟨0,false⟩ [0,1,0,1,1,0,0,0,0,0,0,0,0,0,0,0,0,0,1,1,0,0,0,0,0,0,0,0])
      ⟨[.junk,.ptr 0 0,.junk,.ptr 1 0,clT,.junk,.junk,.junk,.junk,.junk,.junk,.junk,.junk,.junk,.junk,.junk,.junk,.junk,.imm (.int .i64 D),.imm (.int .i64 0),.junk,.junk,.junk,.junk,.junk,.junk,.junk,.junk],[dcZ,dcB k (.imm .nil) (.imm .nil) (.imm .nil),rdL r0],none⟩) =
    runL (fun (a : Bx × List Int) (_ : Nat) => if a.2.length < 6 then .inr (torn1 k a.1 (if a.2.length < 4 then 0 else wrp .i32 (leV (a.2.take 4)))) else .inl (a.1 ++ [rgOf a.2],a.2.drop 6))
      (fun a => some (.exit 2,⟨[.junk,.ptr 0 0,.junk,.ptr 1 0,clT,.junk,.junk,.junk,.junk,.junk,.junk,.junk,.junk,.junk,.junk,.junk,.junk,.junk,.junk,.junk,.junk,.junk,.junk,.junk,.junk,.junk,.junk,.junk],[dcZ,dcB k (vK 3 2 (a.1.map enR)) (.imm .nil) (.imm .nil),rdL a.2] ++ oK 2 (a.1.map enR),none⟩)) ([],r0) (List.range D):=by
  have h:=loop_run (f:=aCode (level E (n+1)) ⟨0,false⟩ b12_1) (h:=head ⟨0,false⟩ [0,1,0,1,1,0,0,0,0,0,0,0,0,0,0,0,0,0,1,1,0,0,0,0,0,0,0,0]) (Φ:=outC ⟨0,false⟩ [0,1,1,1,1,0,0,0,0,0,0,0,0,0,0,0,0,0,0,0,0,0,0,0,0,0,0,0]) (List.range D) (fun (a : Bx × List Int) i => ⟨[.junk,.ptr 0 0,.junk,.ptr 1 0,clT,.junk,.junk,.junk,.junk,.junk,.junk,.junk,.junk,.junk,.junk,.junk,.junk,.junk,.imm (.int .i64 D),.imm (.int .i64 i),.junk,.junk,.junk,.junk,.junk,.junk,.junk,.junk],[dcZ,dcB k (vK 3 2 (a.1.map enR)) (.imm .nil) (.imm .nil),rdL a.2] ++ oK 2 (a.1.map enR),none⟩) (fun a i => a.1.length = i ∧ By a.2)
    (fun (a : Bx × List Int) (_ : Nat) => if a.2.length < 6 then .inr (torn1 k a.1 (if a.2.length < 4 then 0 else wrp .i32 (leV (a.2.take 4)))) else .inl (a.1 ++ [rgOf a.2],a.2.drop 6))
    (fun a => some (.exit 2,⟨[.junk,.ptr 0 0,.junk,.ptr 1 0,clT,.junk,.junk,.junk,.junk,.junk,.junk,.junk,.junk,.junk,.junk,.junk,.junk,.junk,.junk,.junk,.junk,.junk,.junk,.junk,.junk,.junk,.junk,.junk],[dcZ,dcB k (vK 3 2 (a.1.map enR)) (.imm .nil) (.imm .nil),rdL a.2] ++ oK 2 (a.1.map enR),none⟩)) ([],r0) ⟨rfl,hb⟩
    (fun a i x hI h2 h1 => by
      have:=getRange h1
      subst this
      rw [List.length_range] at h2
      obtain ⟨b,r⟩:=a
      obtain ⟨i1,i2⟩:=hI
      dsimp only at i1 i2 ⊢
      have e1 : (b.length + 1) * 17 ≤ 70368744177664:=by omega
      rw [rnd_eq]
      by_cases h6 : r.length < 6
      · refine ⟨?_,fun b' hb' => by rw [if_pos h6] at hb'; cases hb'⟩
        rw [if_pos h6]
        by_cases h4 : r.length < 4
        · have t1:=okTakeE n 4 false false r h4
          have t2:=okTakeE n 2 true true [] (by decide)
          have w0 : wrp .i32 0 = 0:=by decide
          have w1 : wrp .i64 0 = 0:=by decide
          have t2' : callS (level E (n + 1)) 63 [.ptr 0 0,.imm (.int .i64 2)] [rdr .nil true] = some (.imm (.int .u64 0),[rdr .nil true]):=t2
          rw [if_pos h4]
          simp only [go_sem,Nat.reduceAdd,Nat.reduceSub,Nat.reduceMul,Nat.reduceDiv,Nat.reduceMod,Nat.reduceLeDiff,Nat.reduceLT,Nat.reduceBEq,Int.reduceToNat,Int.reduceLT,Int.reduceLE,Int.reduceEq,rdr,slD_f] at t1 t2'
          rcases b with _ | ⟨y,t⟩
          · simp only [go_sem,Nat.reduceAdd,Nat.reduceSub,Nat.reduceMul,Nat.reduceDiv,Nat.reduceMod,Nat.reduceLeDiff,Nat.reduceLT,Nat.reduceBEq,Int.reduceToNat,Int.reduceLT,Int.reduceLE,Int.reduceEq,lt_t h2,vK,oK,t1,t2',w0,w1,torn1,dcZ,dcB,clT,rdL,rdr]
          · simp only [List.length_cons] at e1
            simp only [go_sem,Nat.reduceAdd,Nat.reduceSub,Nat.reduceMul,Nat.reduceDiv,Nat.reduceMod,Nat.reduceLeDiff,Nat.reduceLT,Nat.reduceBEq,Int.reduceToNat,Int.reduceLT,Int.reduceLE,Int.reduceEq,lt_t h2,vK,oK,t1,t2',w0,w1,torn1,e1,dcZ,dcB,clT,rdL,rdr]
        · have t1:=okTakeS n 4 (by decide) (by decide) false false r (by omega) i2
          have t2:=okTakeE n 2 false false (r.drop 4) (by rw [List.length_drop]; omega)
          have w1 : wrp .i64 0 = 0:=by decide
          have w2:=wi32 (leV (r.take 4))
          rw [if_neg h4]
          simp only [go_sem,Nat.reduceAdd,Nat.reduceSub,Nat.reduceMul,Nat.reduceDiv,Nat.reduceMod,Nat.reduceLeDiff,Nat.reduceLT,Nat.reduceBEq,Int.reduceToNat,Int.reduceLT,Int.reduceLE,Int.reduceEq,rdr,slD_f] at t1 t2
          rcases b with _ | ⟨y,t⟩
          · simp only [go_sem,Nat.reduceAdd,Nat.reduceSub,Nat.reduceMul,Nat.reduceDiv,Nat.reduceMod,Nat.reduceLeDiff,Nat.reduceLT,Nat.reduceBEq,Int.reduceToNat,Int.reduceLT,Int.reduceLE,Int.reduceEq,lt_t h2,vK,oK,t1,t2,w2,w1,torn1,dcZ,dcB,clT,rdL,rdr]
          · simp only [List.length_cons] at e1
            simp only [go_sem,Nat.reduceAdd,Nat.reduceSub,Nat.reduceMul,Nat.reduceDiv,Nat.reduceMod,Nat.reduceLeDiff,Nat.reduceLT,Nat.reduceBEq,Int.reduceToNat,Int.reduceLT,Int.reduceLE,Int.reduceEq,lt_t h2,vK,oK,t1,t2,w2,w1,torn1,e1,dcZ,dcB,clT,rdL,rdr]
      · refine ⟨?_,fun b' hb' => by
          rw [if_neg h6] at hb'
          injection hb' with hb'
          subst hb'
          exact ⟨by simp [i1],i2.drop 6⟩⟩
        rw [if_neg h6]
        have t1:=okTakeS n 4 (by decide) (by decide) false false r (by omega) i2
        have t2:=okTakeS n 2 (by decide) (by decide) false false (r.drop 4) (by rw [List.length_drop]; omega) (i2.drop 4)
        have b2:=(i2.drop 4).bd2
        have w1 : wrp .i64 (leV ((r.drop 4).take 2)) = leV ((r.drop 4).take 2):=wrp_ok (by omega)
        have w2:=wi32 (leV (r.take 4))
        rw [List.drop_drop] at t2
        simp only [go_sem,Nat.reduceAdd,Nat.reduceSub,Nat.reduceMul,Nat.reduceDiv,Nat.reduceMod,Nat.reduceLeDiff,Nat.reduceLT,Nat.reduceBEq,Int.reduceToNat,Int.reduceLT,Int.reduceLE,Int.reduceEq,rdr,slD_f] at t1 t2
        rcases b with _ | ⟨y,t⟩
        · simp only [go_sem,Nat.reduceAdd,Nat.reduceSub,Nat.reduceMul,Nat.reduceDiv,Nat.reduceMod,Nat.reduceLeDiff,Nat.reduceLT,Nat.reduceBEq,Int.reduceToNat,Int.reduceLT,Int.reduceLE,Int.reduceEq,lt_t h2,vK,oK,t1,t2,w2,w1,rgOf,dcZ,dcB,clT,rdL,rdr]
          rw [wrpS (by omega)]
        · simp only [List.length_cons] at e1
          simp only [go_sem,Nat.reduceAdd,Nat.reduceSub,Nat.reduceMul,Nat.reduceDiv,Nat.reduceMod,Nat.reduceLeDiff,Nat.reduceLT,Nat.reduceBEq,Int.reduceToNat,Int.reduceLT,Int.reduceLE,Int.reduceEq,lt_t h2,vK,oK,t1,t2,w2,w1,e1,rgOf,dcZ,dcB,clT,rdL,rdr]
          rw [wrpS (by omega)])
    (fun a _ => by
      rw [rnd_eq,List.length_range]
      rcases a with ⟨_ | ⟨y,t⟩,r⟩ <;> simp only [go_sem,Nat.reduceAdd,Nat.reduceSub,Nat.reduceMul,Nat.reduceDiv,Nat.reduceMod,Nat.reduceLeDiff,Nat.reduceLT,Nat.reduceBEq,Int.reduceToNat,Int.reduceLT,Int.reduceLE,Int.reduceEq,lt_f (Nat.le_refl _),vK,oK,dcZ,dcB,clT,rdL,rdr])
  rw [cast_0] at h
  exact h
end Go.Vm.P4Z

/- Chapter 04,functions: Decode,the elements. -/
set_option maxRecDepth 100000
set_option maxHeartbeats 4000000
namespace Go.Vm.P4Z
open Go Go.Vm Go.Vm.P4
theorem run_rs {γ : Type} (R : Bx → List Int → γ) (e : Bx × List Int → γ) : ∀ (L : List Nat) (b : Bx) (r : List Int),
    (rdRs L.length r = none ∧ ∃ b' r',runL (fun (a : Bx × List Int) (_ : Nat) => if a.2.length < 6 then .inr (R a.1 a.2) else .inl (a.1 ++ [rgOf a.2],a.2.drop 6)) e (b,r) L = R b' r') ∨
    (∃ x r',rdRs L.length r = some (x,r') ∧ x.length = L.length ∧ runL (fun (a : Bx × List Int) (_ : Nat) => if a.2.length < 6 then .inr (R a.1 a.2) else .inl (a.1 ++ [rgOf a.2],a.2.drop 6)) e (b,r) L = e (b ++ x,r'))
  | [],b,r => .inr ⟨[],r,rfl,rfl,by rw [runL_nil,List.append_nil]⟩
  | y :: L,b,r => by
    rw [runL_cons]
    simp only [List.length_cons,rdRs]
    by_cases h : r.length < 6
    · rw [if_pos h]
      exact .inl ⟨rfl,b,r,by simp only [h,if_true]⟩
    · rw [if_neg h]
      simp only [h,if_false]
      rcases run_rs R e L (b ++ [rgOf r]) (r.drop 6) with ⟨h1,b',r',h2⟩ | ⟨x,r',h1,h2,h3⟩
      · exact .inl ⟨by rw [h1],b',r',h2⟩
      · exact .inr ⟨rgOf r :: x,r',by rw [h1],by simp [h2],by rw [h3]; simp⟩
theorem run_vs {γ : Type} (kd : Int) (k : Nat) (R : Int → List Int → List Int → γ) (e : List Int × List Int → γ) : ∀ (L : List Nat) (a r : List Int),
    (∃ er a' r',rdVs kd k L.length r = .inl er ∧ (er = 24 ∨ er = 1) ∧ runL (fun (a : List Int × List Int) (_ : Nat) => if a.2.length < k then .inr (R 24 a.1 a.2) else if ckVal kd (leV (a.2.take k)) ≠ 0 then .inr (R 1 a.1 a.2) else .inl (a.1 ++ [leV (a.2.take k)],a.2.drop k)) e (a,r) L = R er a' r') ∨
    (∃ x r',rdVs kd k L.length r = .inr (x,r') ∧ runL (fun (a : List Int × List Int) (_ : Nat) => if a.2.length < k then .inr (R 24 a.1 a.2) else if ckVal kd (leV (a.2.take k)) ≠ 0 then .inr (R 1 a.1 a.2) else .inl (a.1 ++ [leV (a.2.take k)],a.2.drop k)) e (a,r) L = e (a ++ x,r'))
  | [],a,r => .inr ⟨[],r,rfl,by rw [runL_nil,List.append_nil]⟩
  | y :: L,a,r => by
    rw [runL_cons]
    simp only [List.length_cons,rdVs]
    by_cases h : r.length < k
    · exact .inl ⟨24,a,r,by rw [if_pos h],.inl rfl,by simp only [h,if_true]⟩
    · rw [if_neg h]
      simp only [h,if_false]
      by_cases hv : ckVal kd (leV (r.take k)) = 0
      · simp only [hv,ne_eq,not_true_eq_false,if_false]
        rcases run_vs kd k R e L (a ++ [leV (r.take k)]) (r.drop k) with ⟨er,a',r',h1,h2,h3⟩ | ⟨x,r',h1,h2⟩
        · exact .inl ⟨er,a',r',by rw [h1],h2,h3⟩
        · exact .inr ⟨leV (r.take k) :: x,r',by rw [h1],by rw [h2]; simp⟩
      · exact .inl ⟨1,a,r,by rw [if_pos hv],.inr rfl,by simp only [hv,ne_eq,not_false_eq_true,if_true]⟩
theorem bdF8 (k : Nat) (hk : k ≤ 8) {l : List Int} (h : By l) : 0 ≤ leV (l.take k) ∧ leV (l.take k) < 18446744073709551616:=by
  have h1:=leV_bd _ (h.take k)
  have h2 : (256 : Int) ^ (l.take k).length ≤ 256 ^ 8:=by
    have : (256 : Nat) ^ (l.take k).length ≤ 256 ^ 8:=Nat.pow_le_pow_right (by decide) (by rw [List.length_take]; omega)
    exact_mod_cast this
  have : (256 : Int) ^ 8 = 18446744073709551616:=by decide
  omega
abbrev dcX (k : Int) (bx : Bx) (sd : D) (a r : List Int) (rd : AO) : List AO:=[dcZ,dcB k (.ref 3 2 0 bx.length) (.imm sd) (vK 4 1 (a.map ub)),rd,.farr 2 (bx.map enR)] ++ oK 1 (a.map ub)
def bad2 (k : Int) (bx : Bx) (sd : D) (er : Int) (a r : List Int) : Option (AExit × S) :=
  some (.ret,⟨[.junk,.ptr 0 0,.imm (.int .i64 er),.ptr 1 0,.junk,.junk,.junk,.junk,.junk,.junk,.junk,.junk,.junk,.junk,.junk,.junk,.junk,.junk,.junk,.junk,.junk,.junk,.junk,.junk,.junk,.junk,.junk,.junk],dcX k bx sd a r (if r.length < szN k then rdr .nil true else rdL (r.drop (szN k))),none⟩)
theorem dcL2 (n : Nat) (k : Int) (hk : ckKind k = 0) (bx : Bx) (sd : D) (N : Nat) (hN : N < 1000000) (r0 : List Int) (hb : By r0) (hl : r0.length < 1000000) :
    outC ⟨0,false⟩ [0,1,1,1,0,0,0,0,0,0,0,0,0,0,0,0,0,0,0,0,0,0,0,0,0,0,0,0] (rnd (aCode (level E (n+4)) ⟨0,false⟩ b12_2) (head ⟨0,false⟩ [0,1,0,1,1,0,0,0,0,0,0,0,0,0,0,0,0,0,0,0,0,0,0,1,1,0,0,0])
      ⟨[.junk,.ptr 0 0,.junk,.ptr 1 0,clT,.junk,.junk,.junk,.junk,.junk,.junk,.junk,.junk,.junk,.junk,.junk,.junk,.junk,.junk,.junk,.junk,.junk,.junk,.imm (.int .i64 N),.imm (.int .i64 0),.junk,.junk,.junk],dcX k bx sd [] [] (rdL r0),none⟩) =
    runL (fun (a : List Int × List Int) (_ : Nat) => if a.2.length < szN k then .inr (bad2 k bx sd 24 a.1 a.2) else if ckVal k (leV (a.2.take (szN k))) ≠ 0 then .inr (bad2 k bx sd 1 a.1 a.2) else .inl (a.1 ++ [leV (a.2.take (szN k))],a.2.drop (szN k)))
      (fun a => some (.exit 4,⟨[.junk,.ptr 0 0,.junk,.ptr 1 0,.junk,.junk,.junk,.junk,.junk,.junk,.junk,.junk,.junk,.junk,.junk,.junk,.junk,.junk,.junk,.junk,.junk,.junk,.junk,.junk,.junk,.junk,.junk,.junk],dcX k bx sd a.1 a.2 (rdL a.2),none⟩)) ([],r0) (List.range N):=by
  obtain ⟨z1,z2⟩:=szN_in hk
  have z3:=okSizeG (n+1) k hk
  rw [z1] at z3
  have z4 : 1 ≤ szN k ∧ szN k ≤ 8:=by omega
  have h:=loop_run (f:=aCode (level E (n+4)) ⟨0,false⟩ b12_2) (h:=head ⟨0,false⟩ [0,1,0,1,1,0,0,0,0,0,0,0,0,0,0,0,0,0,0,0,0,0,0,1,1,0,0,0]) (Φ:=outC ⟨0,false⟩ [0,1,1,1,0,0,0,0,0,0,0,0,0,0,0,0,0,0,0,0,0,0,0,0,0,0,0,0]) (List.range N) (fun (a : List Int × List Int) i => ⟨[.junk,.ptr 0 0,.junk,.ptr 1 0,clT,.junk,.junk,.junk,.junk,.junk,.junk,.junk,.junk,.junk,.junk,.junk,.junk,.junk,.junk,.junk,.junk,.junk,.junk,.imm (.int .i64 N),.imm (.int .i64 i),.junk,.junk,.junk],dcX k bx sd a.1 a.2 (rdL a.2),none⟩) (fun a i => a.1.length = i ∧ By a.2)
    (fun (a : List Int × List Int) (_ : Nat) => if a.2.length < szN k then .inr (bad2 k bx sd 24 a.1 a.2) else if ckVal k (leV (a.2.take (szN k))) ≠ 0 then .inr (bad2 k bx sd 1 a.1 a.2) else .inl (a.1 ++ [leV (a.2.take (szN k))],a.2.drop (szN k)))
    (fun a => some (.exit 4,⟨[.junk,.ptr 0 0,.junk,.ptr 1 0,.junk,.junk,.junk,.junk,.junk,.junk,.junk,.junk,.junk,.junk,.junk,.junk,.junk,.junk,.junk,.junk,.junk,.junk,.junk,.junk,.junk,.junk,.junk,.junk],dcX k bx sd a.1 a.2 (rdL a.2),none⟩)) ([],r0) ⟨rfl,hb⟩
    (fun a i x hI h2 h1 => by
      have:=getRange h1
      subst this
      rw [List.length_range] at h2
      obtain ⟨a,r⟩:=a
      obtain ⟨i1,i2⟩:=hI
      dsimp only at i1 i2 ⊢
      have e1 : (a.length + 1) * 9 ≤ 70368744177664:=by omega
      rw [rnd_eq]
      by_cases h6 : r.length < szN k
      · refine ⟨?_,fun b' hb' => by rw [if_pos h6] at hb'; cases hb'⟩
        rw [if_pos h6]
        have t1:=okTakeE (n+3) (szN k) false false r h6
        have c1:=okCheckG n k 0 (by decide) (by decide)
        have f1 : callP (level E (n+4)) 65 [.sl 1 [[.int .i64 24],[.int .i64 (ckB1 k 0)]]] = some (.int .i64 24):=okFirstL (n+3) _ [24,ckB1 k 0] rfl (by simp)
        simp only [go_sem,Nat.reduceAdd,Nat.reduceSub,Nat.reduceMul,Nat.reduceDiv,Nat.reduceMod,Nat.reduceLeDiff,Nat.reduceLT,Nat.reduceBEq,Int.reduceToNat,Int.reduceLT,Int.reduceLE,Int.reduceEq,rdr,slD_f] at t1
        rcases a with _ | ⟨y,t⟩
        · simp only [go_sem,Nat.reduceAdd,Nat.reduceSub,Nat.reduceMul,Nat.reduceDiv,Nat.reduceMod,Nat.reduceLeDiff,Nat.reduceLT,Nat.reduceBEq,Int.reduceToNat,Int.reduceLT,Int.reduceLE,Int.reduceEq,lt_t h2,vK,oK,z3,t1,c1,f1,okWhen,bad2,h6,dcZ,dcB,clT,rdL,rdr,dcX,ne_eq,not_false_eq_true]
        · simp only [List.length_cons] at e1
          simp only [go_sem,Nat.reduceAdd,Nat.reduceSub,Nat.reduceMul,Nat.reduceDiv,Nat.reduceMod,Nat.reduceLeDiff,Nat.reduceLT,Nat.reduceBEq,Int.reduceToNat,Int.reduceLT,Int.reduceLE,Int.reduceEq,lt_t h2,vK,oK,z3,t1,c1,f1,e1,okWhen,bad2,h6,dcZ,dcB,clT,rdL,rdr,dcX,ne_eq,not_false_eq_true]
      · rw [if_neg h6]
        have t1:=okTakeS (n+3) (szN k) z4.1 z4.2 false false r (by omega) i2
        have bv:=bdF8 (szN k) z4.2 i2
        have c1:=okCheckG n k (leV (r.take (szN k))) bv.1 bv.2
        simp only [go_sem,Nat.reduceAdd,Nat.reduceSub,Nat.reduceMul,Nat.reduceDiv,Nat.reduceMod,Nat.reduceLeDiff,Nat.reduceLT,Nat.reduceBEq,Int.reduceToNat,Int.reduceLT,Int.reduceLE,Int.reduceEq,rdr,slD_f] at t1
        by_cases hv : ckVal k (leV (r.take (szN k))) = 0
        · refine ⟨?_,fun b' hb' => by
            simp only [hv,ne_eq,not_true_eq_false,if_false] at hb'
            injection hb' with hb'
            subst hb'
            exact ⟨by simp [i1],i2.drop _⟩⟩
          have f1 : callP (level E (n+4)) 65 [.sl 1 [[.int .i64 0],[.int .i64 0]]] = some (.int .i64 0):=okFirstL (n+3) _ [0,0] rfl (by simp)
          have e0 : ckB1 k (leV (r.take (szN k))) = 0:=by simp [ckB1,hv]
          rw [e0] at c1
          rcases a with _ | ⟨y,t⟩
          · simp only [go_sem,Nat.reduceAdd,Nat.reduceSub,Nat.reduceMul,Nat.reduceDiv,Nat.reduceMod,Nat.reduceLeDiff,Nat.reduceLT,Nat.reduceBEq,Int.reduceToNat,Int.reduceLT,Int.reduceLE,Int.reduceEq,lt_t h2,vK,oK,z3,t1,c1,f1,okWhen,hv,dcZ,dcB,clT,rdL,rdr,dcX,ne_eq,not_true_eq_false,Bool.false_eq_true]
            rw [wrpS (by omega)]
          · simp only [List.length_cons] at e1
            simp only [go_sem,Nat.reduceAdd,Nat.reduceSub,Nat.reduceMul,Nat.reduceDiv,Nat.reduceMod,Nat.reduceLeDiff,Nat.reduceLT,Nat.reduceBEq,Int.reduceToNat,Int.reduceLT,Int.reduceLE,Int.reduceEq,lt_t h2,vK,oK,z3,t1,c1,f1,e1,okWhen,hv,dcZ,dcB,clT,rdL,rdr,dcX,ne_eq,not_true_eq_false,Bool.false_eq_true]
            rw [wrpS (by omega)]
        · refine ⟨?_,fun b' hb' => by
            simp only [hv,ne_eq,not_false_eq_true,if_true] at hb'
            cases hb'⟩
          have f1 : callP (level E (n+4)) 65 [.sl 1 [[.int .i64 0],[.int .i64 1]]] = some (.int .i64 1):=okFirstL (n+3) _ [0,1] rfl (by simp)
          have e0 : ckB1 k (leV (r.take (szN k))) = 1:=by simp [ckB1,hv]
          rw [e0] at c1
          rcases a with _ | ⟨y,t⟩
          · simp only [go_sem,Nat.reduceAdd,Nat.reduceSub,Nat.reduceMul,Nat.reduceDiv,Nat.reduceMod,Nat.reduceLeDiff,Nat.reduceLT,Nat.reduceBEq,Int.reduceToNat,Int.reduceLT,Int.reduceLE,Int.reduceEq,lt_t h2,vK,oK,z3,t1,c1,f1,okWhen,hv,h6,bad2,dcZ,dcB,clT,rdL,rdr,dcX,ne_eq,not_false_eq_true,Bool.false_eq_true]
          · simp only [List.length_cons] at e1
            simp only [go_sem,Nat.reduceAdd,Nat.reduceSub,Nat.reduceMul,Nat.reduceDiv,Nat.reduceMod,Nat.reduceLeDiff,Nat.reduceLT,Nat.reduceBEq,Int.reduceToNat,Int.reduceLT,Int.reduceLE,Int.reduceEq,lt_t h2,vK,oK,z3,t1,c1,f1,e1,okWhen,hv,h6,bad2,dcZ,dcB,clT,rdL,rdr,dcX,ne_eq,not_false_eq_true,Bool.false_eq_true])
    (fun a _ => by
      rw [rnd_eq,List.length_range]
      rcases a with ⟨_ | ⟨y,t⟩,r⟩ <;> simp only [go_sem,Nat.reduceAdd,Nat.reduceSub,Nat.reduceMul,Nat.reduceDiv,Nat.reduceMod,Nat.reduceLeDiff,Nat.reduceLT,Nat.reduceBEq,Int.reduceToNat,Int.reduceLT,Int.reduceLE,Int.reduceEq,lt_f (Nat.le_refl _),vK,oK,dcZ,dcB,clT,rdL,rdr,dcX])
  rw [cast_0] at h
  exact h
end Go.Vm.P4Z

/- Chapter 04,functions: Decode,whatever the bytes. -/
set_option maxRecDepth 100000
set_option maxHeartbeats 4000000
namespace Go.Vm.P4Z
open Go Go.Vm Go.Vm.P4
theorem dcHd0 {l : List Int} (h : dcHd l = 0) : ∃ k d r,l = k :: d :: r ∧ ckKind k = 0 ∧ 1 ≤ d ∧ d ≤ 3:=by
  rcases l with _ | ⟨k,_ | ⟨d,r⟩⟩
  · cases h
  · simp only [dcHd] at h
    split at h
    · contradiction
    · cases h
  · simp only [dcHd] at h
    split at h
    · contradiction
    · rename_i hk
      split at h
      · rename_i hd
        exact ⟨k,d,r,rfl,by simpa using hk,hd.1,hd.2⟩
      · cases h
theorem flat_st (bx : Bx) (h : bx ≠ []) : flatD (slD true 1 ((strides 1 bx).map ic)) = false:=by
  rcases bx with _ | ⟨y,t⟩
  · exact absurd rfl h
  · rfl
theorem slD_tn {sz : Nat} : slD true sz [] = .nil:=rfl
theorem rdRs_drop : ∀ (d : Nat) (r : List Int) (x : Bx) (r' : List Int),rdRs d r = some (x,r') → r' = r.drop (6 * d)
  | 0,r,x,r',h => by
    simp only [rdRs,Option.some.injEq,Prod.mk.injEq] at h
    rw [← h.2]; rfl
  | d + 1,r,x,r',h => by
    simp only [rdRs] at h
    split at h
    · cases h
    · split at h
      · cases h
      · rename_i b r1 hb
        simp only [Option.some.injEq,Prod.mk.injEq] at h
        rw [← h.2,rdRs_drop d _ _ _ hb,List.drop_drop]
        congr 1
        omega
theorem okDecodeG (n : Nat) (l : List Int) (hb : By l) (hl : l.length < 1000000) : callP (level E (n+10)) 12 [.sl 1 (l.map u8)] = some (.tup [enIm (decI l).1,.int .i64 (decI l).2]):=by
  by_cases h0 : dcHd l = 0
  · obtain ⟨k,d,r,rfl,hc,d1,d3⟩:=dcHd0 h0
    have hk:=hb k (List.mem_cons_self)
    obtain ⟨D,rfl⟩ : ∃ D : Nat,d = D:=⟨d.toNat,by omega⟩
    have hr : By r:=hb.tl.tl
    have hD : decI (k :: (D : Int) :: r) = decT k D r:=by
      unfold decI
      rw [h0]
      simp only [ne_eq,not_true_eq_false,if_false,List.getD_cons_succ,List.getD_cons_zero,List.drop_succ_cons,List.drop_zero,Int.toNat_natCast]
    rw [hD,decT]
    have t1:=okTakeS (n+8) 1 (by decide) (by decide) false false (k :: (D : Int) :: r) (by simp) hb
    have t2:=okTakeS (n+8) 1 (by decide) (by decide) false false ((D : Int) :: r) (by simp) hb.tl
    have k1:=okCheckKind (n+7) k
    have wk : wrp .i64 k = k:=wrp_ok (by omega)
    have wd : wrp .i64 (D : Int) = (D : Int):=wrp_ok (by omega)
    have f1 : callP (level E (n+9)) 65 [.sl 1 [[.int .i64 0],[.int .i64 0]]] = some (.int .i64 0):=okFirstL (n+8) _ [0,0] rfl (by simp)
    have ww:=okWithin (n+8) D 1 3
    rw [show (decide ((D : Int) ≥ 1) && decide ((D : Int) ≤ 3)) = true by simp; omega] at ww
    rw [hc] at k1
    simp only [List.take_succ_cons,List.take_zero,List.drop_succ_cons,List.drop_zero,leV1] at t1 t2
    simp only [go_sem,Nat.reduceAdd,Nat.reduceSub,Nat.reduceMul,Nat.reduceDiv,Nat.reduceMod,Nat.reduceLeDiff,Nat.reduceLT,Nat.reduceBEq,Int.reduceToNat,Int.reduceLT,Int.reduceLE,Int.reduceEq,rdr,slD_f] at t1 t2
    rw [p12]
    simp only [go_sem,Nat.reduceAdd,Nat.reduceSub,Nat.reduceMul,Nat.reduceDiv,Nat.reduceMod,Nat.reduceLeDiff,Nat.reduceLT,Nat.reduceBEq,Int.reduceToNat,Int.reduceLT,Int.reduceLE,Int.reduceEq]
    rw [rnd_eq]
    simp only [go_sem,Nat.reduceAdd,Nat.reduceSub,Nat.reduceMul,Nat.reduceDiv,Nat.reduceMod,Nat.reduceLeDiff,Nat.reduceLT,Nat.reduceBEq,Int.reduceToNat,Int.reduceLT,Int.reduceLE,Int.reduceEq,t1,okWhen,wk,k1,f1,ne_eq,not_true_eq_false,Bool.false_eq_true]
    rw [rnd_eq]
    simp only [go_sem,Nat.reduceAdd,Nat.reduceSub,Nat.reduceMul,Nat.reduceDiv,Nat.reduceMod,Nat.reduceLeDiff,Nat.reduceLT,Nat.reduceBEq,Int.reduceToNat,Int.reduceLT,Int.reduceLE,Int.reduceEq,t2,wd,okWhen,ww,f1,ne_eq,not_true_eq_false,Bool.false_eq_true]
    rw [rnd_eq]
    simp only [go_sem,Nat.reduceAdd,Nat.reduceSub,Nat.reduceMul,Nat.reduceDiv,Nat.reduceMod,Nat.reduceLeDiff,Nat.reduceLT,Nat.reduceBEq,Int.reduceToNat,Int.reduceLT,Int.reduceLE,Int.reduceEq]
    rcases run_rs (fun b r => torn1 k b (if r.length < 4 then 0 else wrp .i32 (leV (r.take 4)))) (fun a => some (.exit 2,⟨[.junk,.ptr 0 0,.junk,.ptr 1 0,clT,.junk,.junk,.junk,.junk,.junk,.junk,.junk,.junk,.junk,.junk,.junk,.junk,.junk,.junk,.junk,.junk,.junk,.junk,.junk,.junk,.junk,.junk,.junk],[dcZ,dcB k (vK 3 2 (a.1.map enR)) (.imm .nil) (.imm .nil),rdL a.2] ++ oK 2 (a.1.map enR),none⟩)) (List.range D) [] r with ⟨g1,b',r',g2⟩ | ⟨bx,r',g1,g2,g3⟩
    · have L1:=(dcL1 (n+8) k D (by omega) r hr).trans g2
      rw [List.length_range] at g1
      rw [g1]
      simp only [dcZ,dcB,clT,rdL,rdr,torn1] at L1
      rw [L1]
      simp only [go_sem,Nat.reduceAdd,Nat.reduceSub,Nat.reduceMul,Nat.reduceDiv,Nat.reduceMod,Nat.reduceLeDiff,Nat.reduceLT,Nat.reduceBEq,Int.reduceToNat,Int.reduceLT,Int.reduceLE,Int.reduceEq,e_im0]
      done
    · have L1:=(dcL1 (n+8) k D (by omega) r hr).trans g3
      rw [List.length_range] at g1 g2
      rw [g1]
      rcases bx with _ | ⟨y,t⟩
      · simp at g2; omega
      simp only [dcZ,dcB,clT,rdL,rdr,List.nil_append,List.map_cons,vK,oK] at L1
      rw [L1]
      have hne : (y :: t) ≠ []:=by simp
      have hdr:=rdRs_drop _ _ _ _ g1
      have hr' : By r':=by rw [hdr]; exact hr.drop _
      have hlr' : r'.length < 1000000:=by rw [hdr,List.length_drop]; simp only [List.length_cons] at hl; omega
      have hl2 : (y :: t).length < 1000000:=by rw [g2]; omega
      have b1:=okCheckBox (n+5) false (y :: t) hl2
      have b2:=okDense (n+8) false (y :: t) (by omega)
      have b3:=okMany (n+8) false (y :: t) (by omega)
      have hf:=flat_st (y :: t) hne
      simp only [decV]
      obtain ⟨ss,hss⟩ : ∃ ss,slD true 1 ((strides 1 (y :: t)).map ic) = .sl 1 ([.int .i64 1] :: ss):=⟨_,rfl⟩
      rw [hss] at b2
      simp only [enB,slD_c,List.map_cons,enR] at b1 b2 b3
      by_cases hcb : ckBox (y :: t) = 0
      · obtain ⟨N,hN,hN2⟩:=many_nat hcb
        rw [hN] at b3 ⊢
        rw [hcb] at b1
        simp only [go_sem,Nat.reduceAdd,Nat.reduceSub,Nat.reduceMul,Nat.reduceDiv,Nat.reduceMod,Nat.reduceLeDiff,Nat.reduceLT,Nat.reduceBEq,Int.reduceToNat,Int.reduceLT,Int.reduceLE,Int.reduceEq,b1,b2,b3,hcb,ne_eq,not_true_eq_false]
        rcases run_vs k (szN k) (bad2 k (y :: t) (.sl 1 ([.int .i64 1] :: ss))) (fun a => some (.exit 4,⟨[.junk,.ptr 0 0,.junk,.ptr 1 0,.junk,.junk,.junk,.junk,.junk,.junk,.junk,.junk,.junk,.junk,.junk,.junk,.junk,.junk,.junk,.junk,.junk,.junk,.junk,.junk,.junk,.junk,.junk,.junk],dcX k (y :: t) (.sl 1 ([.int .i64 1] :: ss)) a.1 a.2 (rdL a.2),none⟩)) (List.range N) [] r' with ⟨er,a',r'',q1,q2,q3⟩ | ⟨a',r'',q1,q2⟩
        · have L2:=(dcL2 (n+5) k hc (y :: t) (.sl 1 ([.int .i64 1] :: ss)) N (by omega) r' hr' hlr').trans q3
          rw [List.length_range] at q1
          simp only [Int.toNat_natCast,q1]
          simp only [dcZ,dcB,clT,rdL,rdr,dcX,vK,oK,List.map_nil,List.map_cons,enR,List.append_nil,List.length_cons,bad2] at L2
          rw [L2]
          by_cases hq : r''.length < szN k <;> rcases a' with _ | ⟨z,a'⟩ <;> simp only [go_sem,Nat.reduceAdd,Nat.reduceSub,Nat.reduceMul,Nat.reduceDiv,Nat.reduceMod,Nat.reduceLeDiff,Nat.reduceLT,Nat.reduceBEq,Int.reduceToNat,Int.reduceLT,Int.reduceLE,Int.reduceEq,hq,vK,oK,e_im0]
        · have L2:=(dcL2 (n+5) k hc (y :: t) (.sl 1 ([.int .i64 1] :: ss)) N (by omega) r' hr' hlr').trans q2
          rw [List.length_range] at q1
          simp only [Int.toNat_natCast,q1]
          simp only [dcZ,dcB,clT,rdL,rdr,dcX,vK,oK,List.map_nil,List.map_cons,enR,List.append_nil,List.length_cons,List.nil_append] at L2
          rw [L2]
          simp only [enIm,enB,List.map_cons,enR,slD_c] at hss ⊢
          rcases r'' with _ | ⟨x,r''⟩
          · have h0 : decide ((0 : Int) > 0) = false:=by decide
            have h0' : ¬ (0 > 0):=by decide
            rcases a' with _ | ⟨z,a'⟩ <;> simp only [go_sem,Nat.reduceAdd,Nat.reduceSub,Nat.reduceMul,Nat.reduceDiv,Nat.reduceMod,Nat.reduceLeDiff,Nat.reduceLT,Nat.reduceBEq,Int.reduceToNat,Int.reduceLT,Int.reduceLE,Int.reduceEq,vK,oK,hss,slD_tn,slD_c,List.map_nil,List.map_cons,h0,h0',List.length_nil,if_false]
          · have h1 : decide (((r''.length + 1 : Nat) : Int) > 0) = true:=decide_eq_true (by omega)
            have h1' : r''.length + 1 > 0:=by omega
            rcases a' with _ | ⟨z,a'⟩ <;> simp only [go_sem,Nat.reduceAdd,Nat.reduceSub,Nat.reduceMul,Nat.reduceDiv,Nat.reduceMod,Nat.reduceLeDiff,Nat.reduceLT,Nat.reduceBEq,Int.reduceToNat,Int.reduceLT,Int.reduceLE,Int.reduceEq,vK,oK,h1,h1',List.length_cons,if_true,im0,List.map_nil,slD_tn]
      · simp only [go_sem,Nat.reduceAdd,Nat.reduceSub,Nat.reduceMul,Nat.reduceDiv,Nat.reduceMod,Nat.reduceLeDiff,Nat.reduceLT,Nat.reduceBEq,Int.reduceToNat,Int.reduceLT,Int.reduceLE,Int.reduceEq,b1,hcb,ne_eq,not_false_eq_true,e_im0]
        done
  · rw [okDecE n l hb hl h0]
    unfold decI
    rw [if_pos h0]
end Go.Vm.P4Z

/- Chapter 04,functions: the reference's Decode. -/
set_option maxRecDepth 100000
set_option maxHeartbeats 4000000
namespace Go.Vm.P4Z
open Go Go.Vm Go.Vm.P4
theorem rdRs_map : ∀ (d : Nat) (r : List Int),rdRs d r = if r.length < 6 * d then none else some ((List.range d).map (fun i => rgOf (r.drop (6 * i))),r.drop (6 * d))
  | 0,r => by simp [rdRs]
  | d + 1,r => by
    rw [rdRs,rdRs_map d]
    by_cases h : r.length < 6
    · rw [if_pos h,if_pos (by omega)]
    · rw [if_neg h]
      by_cases h2 : r.length < 6 * (d + 1)
      · rw [if_pos h2,if_pos (by rw [List.length_drop]; omega)]
      · rw [if_neg h2,if_neg (by rw [List.length_drop]; omega),List.range_succ_eq_map]
        simp only [List.map_cons,List.map_map,Nat.mul_zero,List.drop_zero,List.drop_drop,Option.some.injEq,Prod.mk.injEq,List.cons.injEq,true_and]
        refine ⟨List.map_congr_left fun i _ => ?_,by congr 1; omega⟩
        show rgOf (r.drop (6 + 6 * i)) = rgOf (r.drop (6 * (i + 1)))
        congr 2
        omega
theorem bdF4 {l : List Int} (h : By l) : 0 ≤ leV (l.take 4) ∧ leV (l.take 4) < 4294967296:=by
  have h1:=leV_bd _ (h.take 4)
  have h2 : (256 : Int) ^ (l.take 4).length ≤ 256 ^ 4:=by
    have : (256 : Nat) ^ (l.take 4).length ≤ 256 ^ 4:=Nat.pow_le_pow_right (by decide) (by rw [List.length_take]; omega)
    exact_mod_cast this
  have : (256 : Int) ^ 4 = 4294967296:=by decide
  omega
theorem rdL1 (n : Nat) (b0 : Bool) (l : List Int) (hb : By l) (hl : l.length < 1000000) (k : Int) (D : Nat) (hD : D < 10) (hlen : 2 + 6 * D ≤ l.length) :
    outC ⟨0,false⟩ [1,1,0,1,0,1,1,0,0,0,0,0,0,0,0,0,0,0,0,0,0,0,0] (rnd (aCode (level E (n+1)) ⟨0,false⟩ b14_0) (head ⟨0,false⟩ [1,1,0,1,0,1,1,1,0,0,0,0,0,0,0,0,0,0,0,0,0,0,0])
      ⟨[.imm (slD b0 1 (l.map u8)),.ptr 0 0,.junk,.imm (.int .i64 k),.junk,.imm (.int .i64 D),.imm .nil,.imm (.int .i64 0),.junk,.junk,.junk,.junk,.junk,.junk,.junk,.junk,.junk,.junk,.junk,.junk,.junk,.junk,.junk],[dcZ],none⟩) =
    some (.exit 0,⟨[.imm (slD b0 1 (l.map u8)),.ptr 0 0,.junk,.imm (.int .i64 k),.junk,.imm (.int .i64 D),vK 1 2 (((List.range D).map (fun i => rgOf ((l.drop 2).drop (6 * i)))).map enR),.junk,.junk,.junk,.junk,.junk,.junk,.junk,.junk,.junk,.junk,.junk,.junk,.junk,.junk,.junk,.junk],[dcZ] ++ oK 2 (((List.range D).map (fun i => rgOf ((l.drop 2).drop (6 * i)))).map enR),none⟩):=by
  have h:=loop_fold (f:=aCode (level E (n+1)) ⟨0,false⟩ b14_0) (h:=head ⟨0,false⟩ [1,1,0,1,0,1,1,1,0,0,0,0,0,0,0,0,0,0,0,0,0,0,0]) (Φ:=outC ⟨0,false⟩ [1,1,0,1,0,1,1,0,0,0,0,0,0,0,0,0,0,0,0,0,0,0,0]) (List.range D) (fun (b : Bx) i => ⟨[.imm (slD b0 1 (l.map u8)),.ptr 0 0,.junk,.imm (.int .i64 k),.junk,.imm (.int .i64 D),vK 1 2 (b.map enR),.imm (.int .i64 i),.junk,.junk,.junk,.junk,.junk,.junk,.junk,.junk,.junk,.junk,.junk,.junk,.junk,.junk,.junk],[dcZ] ++ oK 2 (b.map enR),none⟩) (fun b i => b.length = i)
    (fun b i => b ++ [rgOf ((l.drop 2).drop (6 * i))]) (fun b => some (.exit 0,⟨[.imm (slD b0 1 (l.map u8)),.ptr 0 0,.junk,.imm (.int .i64 k),.junk,.imm (.int .i64 D),vK 1 2 (b.map enR),.junk,.junk,.junk,.junk,.junk,.junk,.junk,.junk,.junk,.junk,.junk,.junk,.junk,.junk,.junk,.junk],[dcZ] ++ oK 2 (b.map enR),none⟩)) [] rfl
    (fun b i x hI h2 h1 => ⟨by
      have:=getRange h1
      subst this
      rw [List.length_range] at h2
      have hi2 : 2 + 6 * x + 6 ≤ l.length:=by omega
      have r1:=okRRead n b0 l (2 + 6 * x) 4 (by decide) (by omega) hl hb
      have r2:=okRRead n b0 l (6 + 6 * x) 2 (by decide) (by omega) hl hb
      have d1 : (l.drop 2).drop (6 * x) = l.drop (2 + 6 * x):=by rw [List.drop_drop]
      have d2 : (l.drop (2 + 6 * x)).drop 4 = l.drop (6 + 6 * x):=by rw [List.drop_drop]; congr 1; omega
      have b2:=(hb.drop (6 + 6 * x)).bd2
      have b4:=bdF4 (hb.drop (2 + 6 * x))
      have w0 : wrp .i64 (6 * (x : Int)) = ((6 * x : Nat) : Int):=by rw [wrp_ok (by omega)]; omega
      have w1 : wrp .i64 (2 + ((6 * x : Nat) : Int)) = ((2 + 6 * x : Nat) : Int):=by rw [wrp_ok (by omega)]; omega
      have w2 : wrp .i64 (6 + ((6 * x : Nat) : Int)) = ((6 + 6 * x : Nat) : Int):=by rw [wrp_ok (by omega)]; omega
      have w3 : wrp .u32 (leV ((l.drop (2 + 6 * x)).take 4)) = leV ((l.drop (2 + 6 * x)).take 4):=by rw [wrp_u32]; omega
      have w4:=wi32 (leV ((l.drop (2 + 6 * x)).take 4))
      have w5 : wrp .i64 (leV ((l.drop (6 + 6 * x)).take 2)) = leV ((l.drop (6 + 6 * x)).take 2):=wrp_ok (by omega)
      have e1 : (b.length + 1) * 17 ≤ 70368744177664:=by omega
      rw [rnd_eq,d1]
      simp only [show ((4 : Nat) : Int) = 4 from rfl,show ((2 : Nat) : Int) = 2 from rfl] at r1 r2
      rcases b with _ | ⟨y,t⟩
      · simp only [go_sem,Nat.reduceAdd,Nat.reduceSub,Nat.reduceMul,Nat.reduceDiv,Nat.reduceMod,Nat.reduceLeDiff,Nat.reduceLT,Nat.reduceBEq,Int.reduceToNat,Int.reduceLT,Int.reduceLE,Int.reduceEq,lt_t h2,vK,oK,dcZ,w0,w1,w2,r1,r2,w3,w4,w5,rgOf,d2]
        rw [wrpS (by omega)]
      · simp only [List.length_cons] at e1
        simp only [go_sem,Nat.reduceAdd,Nat.reduceSub,Nat.reduceMul,Nat.reduceDiv,Nat.reduceMod,Nat.reduceLeDiff,Nat.reduceLT,Nat.reduceBEq,Int.reduceToNat,Int.reduceLT,Int.reduceLE,Int.reduceEq,lt_t h2,vK,oK,dcZ,w0,w1,w2,r1,r2,w3,w4,w5,rgOf,d2,e1]
        rw [wrpS (by omega)],by simp [hI]⟩)
    (fun b _ => by
      rw [rnd_eq,List.length_range]
      rcases b with _ | ⟨y,t⟩ <;> simp only [go_sem,Nat.reduceAdd,Nat.reduceSub,Nat.reduceMul,Nat.reduceDiv,Nat.reduceMod,Nat.reduceLeDiff,Nat.reduceLT,Nat.reduceBEq,Int.reduceToNat,Int.reduceLT,Int.reduceLE,Int.reduceEq,lt_f (Nat.le_refl _),vK,oK,dcZ])
  rw [cast_0,fold_snoc,List.nil_append] at h
  exact h
end Go.Vm.P4Z

/- Chapter 04,functions: the reference's Decode,the elements. -/
set_option maxRecDepth 100000
set_option maxHeartbeats 4000000
namespace Go.Vm.P4Z
open Go Go.Vm Go.Vm.P4
abbrev rdX (bx : Bx) (a : List Int) : List AO:=[dcZ,.arr 2 (bx.map enR)] ++ oK 1 (a.map ub)
def rbad (l : List Int) (k : Int) (bx : Bx) (b0 : Bool) (er : Int) (a r : List Int) : Option (AExit × S) :=
  some (.ret,⟨[.imm (slD b0 1 (l.map u8)),.ptr 0 0,.imm (.int .i64 er),.imm (.int .i64 k),.junk,.junk,.ref 1 2 0 bx.length,.junk,.junk,.imm (.int .i64 (l.length - r.length : Nat)),.junk,vK 2 1 (a.map ub),.junk,.junk,.junk,.junk,.junk,.junk,.junk,.junk,.junk,.junk,.junk],rdX bx a,none⟩)
theorem rdL2 (n : Nat) (b0 : Bool) (l : List Int) (hb : By l) (hl : l.length < 1000000) (k : Int) (hk : ckKind k = 0) (bx : Bx) (hx : bx.length < 1000) (N : Nat) (hN : many bx = N) (hN2 : N < 1000000) (p0 : Nat) (hp0 : p0 ≤ l.length) :
    outC ⟨0,false⟩ [1,1,1,1,0,0,1,0,0,1,0,1,0,0,0,0,0,0,0,0,0,0,0] (rnd (aCode (level E (n+3)) ⟨0,false⟩ b14_1) (head ⟨0,false⟩ [1,1,0,1,0,0,1,0,0,1,1,1,1,0,0,0,0,0,0,0,0,0,0])
      ⟨[.imm (slD b0 1 (l.map u8)),.ptr 0 0,.junk,.imm (.int .i64 k),.junk,.junk,.ref 1 2 0 bx.length,.junk,.junk,.imm (.int .i64 p0),.imm (.int .i64 (szN k)),.imm .nil,.imm (.int .i64 0),.junk,.junk,.junk,.junk,.junk,.junk,.junk,.junk,.junk,.junk],rdX bx [],none⟩) =
    runL (fun (a : List Int × List Int) (_ : Nat) => if a.2.length < szN k then .inr (rbad l k bx b0 24 a.1 a.2) else if ckVal k (leV (a.2.take (szN k))) ≠ 0 then .inr (rbad l k bx b0 1 a.1 a.2) else .inl (a.1 ++ [leV (a.2.take (szN k))],a.2.drop (szN k)))
      (fun a => some (.exit 2,⟨[.imm (slD b0 1 (l.map u8)),.ptr 0 0,.junk,.imm (.int .i64 k),.junk,.junk,.ref 1 2 0 bx.length,.junk,.junk,.imm (.int .i64 (l.length - a.2.length : Nat)),.junk,vK 2 1 (a.1.map ub),.junk,.junk,.junk,.junk,.junk,.junk,.junk,.junk,.junk,.junk,.junk],rdX bx a.1,none⟩)) ([],l.drop p0) (List.range N):=by
  obtain ⟨z1,z2⟩:=szN_in hk
  have z4 : 1 ≤ szN k ∧ szN k ≤ 8:=by omega
  have pr:=okRProduct (n+2) false bx (by omega)
  rw [hN] at pr
  simp only [enB,slD_f] at pr
  have h:=loop_run (f:=aCode (level E (n+3)) ⟨0,false⟩ b14_1) (h:=head ⟨0,false⟩ [1,1,0,1,0,0,1,0,0,1,1,1,1,0,0,0,0,0,0,0,0,0,0]) (Φ:=outC ⟨0,false⟩ [1,1,1,1,0,0,1,0,0,1,0,1,0,0,0,0,0,0,0,0,0,0,0]) (List.range N) (fun (a : List Int × List Int) i => ⟨[.imm (slD b0 1 (l.map u8)),.ptr 0 0,.junk,.imm (.int .i64 k),.junk,.junk,.ref 1 2 0 bx.length,.junk,.junk,.imm (.int .i64 (l.length - a.2.length : Nat)),.imm (.int .i64 (szN k)),vK 2 1 (a.1.map ub),.imm (.int .i64 i),.junk,.junk,.junk,.junk,.junk,.junk,.junk,.junk,.junk,.junk],rdX bx a.1,none⟩) (fun a i => a.1.length = i ∧ ∃ p,p ≤ l.length ∧ a.2 = l.drop p)
    (fun (a : List Int × List Int) (_ : Nat) => if a.2.length < szN k then .inr (rbad l k bx b0 24 a.1 a.2) else if ckVal k (leV (a.2.take (szN k))) ≠ 0 then .inr (rbad l k bx b0 1 a.1 a.2) else .inl (a.1 ++ [leV (a.2.take (szN k))],a.2.drop (szN k)))
    (fun a => some (.exit 2,⟨[.imm (slD b0 1 (l.map u8)),.ptr 0 0,.junk,.imm (.int .i64 k),.junk,.junk,.ref 1 2 0 bx.length,.junk,.junk,.imm (.int .i64 (l.length - a.2.length : Nat)),.junk,vK 2 1 (a.1.map ub),.junk,.junk,.junk,.junk,.junk,.junk,.junk,.junk,.junk,.junk,.junk],rdX bx a.1,none⟩)) ([],l.drop p0) ⟨rfl,p0,hp0,rfl⟩
    (fun a i x hI h2 h1 => by
      have:=getRange h1
      subst this
      rw [List.length_range] at h2
      obtain ⟨a,r⟩:=a
      obtain ⟨i1,p,i2,i3⟩:=hI
      dsimp only at i1 i3 ⊢
      subst i3
      have e1 : (a.length + 1) * 9 ≤ 70368744177664:=by omega
      have hxn : decide ((x : Int) < N) = true:=decide_eq_true (by omega)
      have hlp : l.length - (l.drop p).length = p:=by rw [List.length_drop]; omega
      have hlp2 : l.length - (l.length - p) = p:=by omega
      have wp : wrp .i64 ((p : Int) + (szN k : Int)) = ((p + szN k : Nat) : Int):=by rw [wrp_ok (by omega)]; omega
      rw [rnd_eq,hlp]
      by_cases h6 : (l.drop p).length < szN k
      · refine ⟨?_,fun b' hb' => by rw [if_pos h6] at hb'; cases hb'⟩
        rw [if_pos h6]
        have c1 : decide (((p + szN k : Nat) : Int) > l.length) = true:=by
          rw [List.length_drop] at h6
          exact decide_eq_true (by omega)
        rcases a with _ | ⟨y,t⟩ <;> simp only [go_sem,Nat.reduceAdd,Nat.reduceSub,Nat.reduceMul,Nat.reduceDiv,Nat.reduceMod,Nat.reduceLeDiff,Nat.reduceLT,Nat.reduceBEq,Int.reduceToNat,Int.reduceLT,Int.reduceLE,Int.reduceEq,hxn,pr,vK,oK,dcZ,rdX,wp,c1,rbad,hlp,hlp2]
      · rw [if_neg h6]
        have h6' : p + szN k ≤ l.length:=by rw [List.length_drop] at h6; omega
        have c1 : decide (((p + szN k : Nat) : Int) > l.length) = false:=decide_eq_false (by omega)
        have t1:=okRRead (n+2) b0 l p (szN k) z4.2 h6' hl hb
        have bv:=bdF8 (szN k) z4.2 (hb.drop p)
        have q1:=okQCheckValue n k (leV ((l.drop p).take (szN k))) bv.1 bv.2
        by_cases hv : ckVal k (leV ((l.drop p).take (szN k))) = 0
        · refine ⟨?_,fun b' hb' => by
            simp only [hv,ne_eq,not_true_eq_false,if_false] at hb'
            injection hb' with hb'
            subst hb'
            exact ⟨by simp [i1],p + szN k,h6',by rw [List.drop_drop]⟩⟩
          have hlq : l.length - ((l.drop p).drop (szN k)).length = p + szN k:=by rw [List.drop_drop,List.length_drop]; omega
          have hlq2 : l.length - (l.length - p - szN k) = p + szN k:=by omega
          rw [hv] at q1
          rcases a with _ | ⟨y,t⟩
          · simp only [go_sem,Nat.reduceAdd,Nat.reduceSub,Nat.reduceMul,Nat.reduceDiv,Nat.reduceMod,Nat.reduceLeDiff,Nat.reduceLT,Nat.reduceBEq,Int.reduceToNat,Int.reduceLT,Int.reduceLE,Int.reduceEq,hxn,pr,vK,oK,dcZ,rdX,wp,c1,t1,q1,hv,hlq,hlq2,ne_eq,not_true_eq_false]
            rw [wrpS (by omega)]
          · simp only [List.length_cons] at e1
            simp only [go_sem,Nat.reduceAdd,Nat.reduceSub,Nat.reduceMul,Nat.reduceDiv,Nat.reduceMod,Nat.reduceLeDiff,Nat.reduceLT,Nat.reduceBEq,Int.reduceToNat,Int.reduceLT,Int.reduceLE,Int.reduceEq,hxn,pr,vK,oK,dcZ,rdX,wp,c1,t1,q1,hv,hlq,hlq2,e1,ne_eq,not_true_eq_false]
            rw [wrpS (by omega)]
        · refine ⟨?_,fun b' hb' => by
            simp only [hv,ne_eq,not_false_eq_true,if_true] at hb'
            cases hb'⟩
          rcases a with _ | ⟨y,t⟩ <;> simp only [go_sem,Nat.reduceAdd,Nat.reduceSub,Nat.reduceMul,Nat.reduceDiv,Nat.reduceMod,Nat.reduceLeDiff,Nat.reduceLT,Nat.reduceBEq,Int.reduceToNat,Int.reduceLT,Int.reduceLE,Int.reduceEq,hxn,pr,vK,oK,dcZ,rdX,wp,c1,t1,q1,hv,hlp,hlp2,rbad,ne_eq,not_false_eq_true])
    (fun a _ => by
      rw [rnd_eq,List.length_range]
      have hxn : decide ((N : Int) < N) = false:=decide_eq_false (by omega)
      rcases a with ⟨_ | ⟨y,t⟩,r⟩ <;> simp only [go_sem,Nat.reduceAdd,Nat.reduceSub,Nat.reduceMul,Nat.reduceDiv,Nat.reduceMod,Nat.reduceLeDiff,Nat.reduceLT,Nat.reduceBEq,Int.reduceToNat,Int.reduceLT,Int.reduceLE,Int.reduceEq,hxn,pr,vK,oK,dcZ,rdX])
  rw [cast_0] at h
  have e : l.length - (l.drop p0).length = p0:=by rw [List.length_drop]; omega
  dsimp only at h
  rw [e] at h
  exact h
end Go.Vm.P4Z

/- Chapter 04,functions: the reference's Decode,whatever the bytes. -/
set_option maxRecDepth 100000
set_option maxHeartbeats 4000000
namespace Go.Vm.P4Z
open Go Go.Vm Go.Vm.P4
theorem ia_s0 {x : List D} {r : List (List D)} : aIaddr none 1 (.imm (.sl 1 (x :: r))) 0 = some (.imm (.ptr x)):=by rw [ia_sl (by decide)]; rfl
theorem ia_s1 {x y : List D} {r : List (List D)} : aIaddr none 1 (.imm (.sl 1 (x :: y :: r))) 1 = some (.imm (.ptr y)):=by rw [ia_sl (by decide)]; rfl
theorem okRDecE (n : Nat) (b : Bool) (l : List Int) (hb : By l) (hl : l.length < 1000000) (h : dcHd l ≠ 0) : callP (level E (n+10)) 14 [slD b 1 (l.map u8)] = some (.tup [enIm im0,.int .i64 (dcHd l)]):=by
  rw [p14,e_im0]
  rcases l with _ | ⟨k,t⟩
  · have l0 : decide ((([] : List Int).length : Int) < 1) = true:=by decide
    simp only [go_sem,Nat.reduceAdd,Nat.reduceSub,Nat.reduceMul,Nat.reduceDiv,Nat.reduceMod,Nat.reduceLeDiff,Nat.reduceLT,Nat.reduceBEq,Int.reduceToNat,Int.reduceLT,Int.reduceLE,Int.reduceEq,l0,dcHd]
    done
  · have hk:=hb k (List.mem_cons_self)
    have wk : wrp .i64 k = k:=wrp_ok (by omega)
    have k1:=okQCheckKind (n+7) k
    have l1 : decide ((((k :: t).length : Nat) : Int) < 1) = false:=decide_eq_false (by simp only [List.length_cons]; omega)
    simp only [List.length_cons] at l1
    rcases t with _ | ⟨d,t⟩
    · have l2 : decide (((0 + 1 : Nat) : Int) < 2) = true:=by decide
      have f1 : callP (level E (n+9)) 29 [.sl 1 [[.int .i64 (ckKind k)],[.int .i64 24]]] = some (.int .i64 (dcHd [k])):=(okQFirstL (n+8) _ [ckKind k,24] rfl (by simp)).trans (by
        simp only [fnz,dcHd]
        by_cases h : ckKind k = 0 <;> simp [h])
      have hne:=h
      simp only [List.length_nil] at l1
      simp only [go_sem,Nat.reduceAdd,Nat.reduceSub,Nat.reduceMul,Nat.reduceDiv,Nat.reduceMod,Nat.reduceLeDiff,Nat.reduceLT,Nat.reduceBEq,Int.reduceToNat,Int.reduceLT,Int.reduceLE,Int.reduceEq,l1,l2,ia_s0,ia_s1,wk,k1,f1,okQWhen,slD_c,hne,ne_eq,not_false_eq_true]
      done
    · have l2 : decide (((t.length + 1 + 1 : Nat) : Int) < 2) = false:=decide_eq_false (by omega)
      have f1 : callP (level E (n+9)) 29 [.sl 1 [[.int .i64 (ckKind k)],[.int .i64 0]]] = some (.int .i64 (ckKind k)):=(okQFirstL (n+8) _ [ckKind k,0] rfl (by simp)).trans (by
        simp only [fnz]
        by_cases h : ckKind k = 0 <;> simp [h])
      simp only [List.length_cons] at l1
      by_cases hc : ckKind k = 0
      · have hd:=hb d (by simp)
        have wd : wrp .i64 d = d:=wrp_ok (by omega)
        have hx : ¬ (1 ≤ d ∧ d ≤ 3):=fun hq => h (by simp [dcHd,hc,hq])
        have hy : dcHd (k :: d :: t) = 13:=by simp [dcHd,hc,hx]
        rw [hy]
        rw [hc] at f1 k1
        by_cases h1 : d < 1
        · simp only [go_sem,Nat.reduceAdd,Nat.reduceSub,Nat.reduceMul,Nat.reduceDiv,Nat.reduceMod,Nat.reduceLeDiff,Nat.reduceLT,Nat.reduceBEq,Int.reduceToNat,Int.reduceLT,Int.reduceLE,Int.reduceEq,l1,l2,ia_s0,ia_s1,wk,k1,f1,okQWhen,slD_c,wd,h1,ne_eq,not_true_eq_false,Bool.false_eq_true]
          done
        · have h3 : d > 3:=by omega
          simp only [go_sem,Nat.reduceAdd,Nat.reduceSub,Nat.reduceMul,Nat.reduceDiv,Nat.reduceMod,Nat.reduceLeDiff,Nat.reduceLT,Nat.reduceBEq,Int.reduceToNat,Int.reduceLT,Int.reduceLE,Int.reduceEq,l1,l2,ia_s0,ia_s1,wk,k1,f1,okQWhen,slD_c,wd,h1,h3,ne_eq,not_true_eq_false,Bool.false_eq_true]
          done
      · have hy : dcHd (k :: d :: t) = ckKind k:=by simp [dcHd,hc]
        rw [hy]
        simp only [go_sem,Nat.reduceAdd,Nat.reduceSub,Nat.reduceMul,Nat.reduceDiv,Nat.reduceMod,Nat.reduceLeDiff,Nat.reduceLT,Nat.reduceBEq,Int.reduceToNat,Int.reduceLT,Int.reduceLE,Int.reduceEq,l1,l2,ia_s0,ia_s1,wk,k1,f1,okQWhen,slD_c,hc,ne_eq,not_false_eq_true,Bool.false_eq_true]
        done
end Go.Vm.P4Z

/- Chapter 04,functions: the reference's Decode,whatever the bytes,continued. -/
set_option maxRecDepth 100000
set_option maxHeartbeats 4000000
namespace Go.Vm.P4Z
open Go Go.Vm Go.Vm.P4
theorem rdVs_len (kd : Int) (k : Nat) : ∀ (N : Nat) (r a r' : List Int),rdVs kd k N r = .inr (a,r') → r'.length ≤ r.length ∧ a.length = N
  | 0,r,a,r',h => by
    simp only [rdVs,Sum.inr.injEq,Prod.mk.injEq] at h
    rw [h.2,← h.1]; exact ⟨Nat.le_refl _,rfl⟩
  | N + 1,r,a,r',h => by
    simp only [rdVs] at h
    split at h
    · cases h
    · split at h
      · cases h
      · split at h
        · cases h
        · rename_i a1 r1 hb
          simp only [Sum.inr.injEq,Prod.mk.injEq] at h
          have:=rdVs_len kd k N _ _ _ hb
          rw [List.length_drop] at this
          rw [← h.2,← h.1,List.length_cons]; omega
theorem okRDecode (n : Nat) (b : Bool) (l : List Int) (hb : By l) (hl : l.length < 1000000) : ∃ m : Im,callP (level E (n+10)) 14 [slD b 1 (l.map u8)] = some (.tup [enIm m,.int .i64 (decI l).2]) ∧ ((decI l).2 = 0 → m = (decI l).1):=by
  by_cases h0 : dcHd l = 0
  · obtain ⟨k,d,r,rfl,hc,d1,d3⟩:=dcHd0 h0
    have hk:=hb k (List.mem_cons_self)
    obtain ⟨D,rfl⟩ : ∃ D : Nat,d = D:=⟨d.toNat,by omega⟩
    have hr : By r:=hb.tl.tl
    have hD : decI (k :: (D : Int) :: r) = decT k D r:=by
      unfold decI
      rw [h0]
      simp only [ne_eq,not_true_eq_false,if_false,List.getD_cons_succ,List.getD_cons_zero,List.drop_succ_cons,List.drop_zero,Int.toNat_natCast]
    rw [hD,decT,rdRs_map]
    have k1:=okQCheckKind (n+7) k
    have wk : wrp .i64 k = k:=wrp_ok (by omega)
    have wd : wrp .i64 (D : Int) = (D : Int):=wrp_ok (by omega)
    have f1 : callP (level E (n+9)) 29 [.sl 1 [[.int .i64 0],[.int .i64 0]]] = some (.int .i64 0):=okQFirstL (n+8) _ [0,0] rfl (by simp)
    have l1 : decide (((r.length + 1 + 1 : Nat) : Int) < 1) = false:=decide_eq_false (by omega)
    have l2 : decide (((r.length + 1 + 1 : Nat) : Int) < 2) = false:=decide_eq_false (by omega)
    have g1 : decide ((D : Int) < 1) = false:=decide_eq_false (by omega)
    have g3 : decide ((D : Int) > 3) = false:=decide_eq_false (by omega)
    have w6 : wrp .i64 (6 * (D : Int)) = ((6 * D : Nat) : Int):=by rw [wrp_ok (by omega)]; omega
    have w7 : wrp .i64 (2 + ((6 * D : Nat) : Int)) = ((2 + 6 * D : Nat) : Int):=by rw [wrp_ok (by omega)]; omega
    rw [hc] at k1
    rw [p14]
    by_cases hlen : r.length < 6 * D
    · rw [if_pos hlen]
      refine ⟨im0,?_,fun h => by cases h⟩
      have l3 : decide (((r.length + 1 + 1 : Nat) : Int) < ((2 + 6 * D : Nat) : Int)) = true:=decide_eq_true (by omega)
      rw [e_im0]
      simp only [go_sem,Nat.reduceAdd,Nat.reduceSub,Nat.reduceMul,Nat.reduceDiv,Nat.reduceMod,Nat.reduceLeDiff,Nat.reduceLT,Nat.reduceBEq,Int.reduceToNat,Int.reduceLT,Int.reduceLE,Int.reduceEq,l1,l2,l3,ia_s0,ia_s1,wk,wd,k1,f1,g1,g3,w6,w7,okQWhen,slD_c,ne_eq,not_true_eq_false,Bool.false_eq_true]
      done
    · rw [if_neg hlen]
      have l3 : decide (((r.length + 1 + 1 : Nat) : Int) < ((2 + 6 * D : Nat) : Int)) = false:=decide_eq_false (by omega)
      have L1:=rdL1 (n+8) false (k :: (D : Int) :: r) hb hl k D (by omega) (by simp; omega)
      have hd2 : (k :: (D : Int) :: r).drop 2 = r:=rfl
      rw [hd2] at L1
      have hbl : ((List.range D).map (fun i => rgOf (r.drop (6 * i)))).length = D:=by simp
      generalize (List.range D).map (fun i => rgOf (r.drop (6 * i))) = bx at L1 hbl ⊢
      rcases bx with _ | ⟨y,t⟩
      · simp at hbl; omega
      simp only [dcZ,vK,oK,List.map_cons,slD_c,u8,enR,List.length_cons,List.length_map] at L1
      have b1:=okRCheckBox (n+7) false (y :: t) (by rw [hbl]; omega)
      simp only [enB,slD_c,List.map_cons,enR] at b1
      simp only [decV]
      by_cases hcb : ckBox (y :: t) = 0
      · obtain ⟨N,hN,hN2⟩:=many_nat hcb
        rw [hcb] at b1
        have rs:=okRBytes (n+7) k hc
        have hlD : (k :: (D : Int) :: r).length = r.length + 1 + 1:=rfl
        have hdp : (k :: (D : Int) :: r).drop (2 + 6 * D) = r.drop (6 * D):=by rw [← List.drop_drop]; rfl
        rw [hN]
        simp only [Int.toNat_natCast]
        rcases run_vs k (szN k) (rbad (k :: (D : Int) :: r) k (y :: t) false) (fun a => some (.exit 2,⟨[.imm (slD false 1 ((k :: (D : Int) :: r).map u8)),.ptr 0 0,.junk,.imm (.int .i64 k),.junk,.junk,.ref 1 2 0 (y :: t).length,.junk,.junk,.imm (.int .i64 ((k :: (D : Int) :: r).length - a.2.length : Nat)),.junk,vK 2 1 (a.1.map ub),.junk,.junk,.junk,.junk,.junk,.junk,.junk,.junk,.junk,.junk,.junk],rdX (y :: t) a.1,none⟩)) (List.range N) [] (r.drop (6 * D)) with ⟨er,a',r'',q1,q2,q3⟩ | ⟨a',r'',q1,q2⟩
        · have L2:=(rdL2 (n+6) false (k :: (D : Int) :: r) hb hl k hc (y :: t) (by rw [hbl]; omega) N hN (by omega) (2 + 6 * D) (by rw [hlD]; omega))
          rw [hdp] at L2
          replace L2:=L2.trans q3
          rw [List.length_range] at q1
          rw [q1]
          simp only [rbad,dcZ,rdX,vK,oK,List.map_nil,List.append_nil,List.map_cons,slD_c,u8,enR,List.length_cons] at L2
          refine ⟨im0,?_,fun h => ?_⟩
          · simp only [go_sem,Nat.reduceAdd,Nat.reduceSub,Nat.reduceMul,Nat.reduceDiv,Nat.reduceMod,Nat.reduceLeDiff,Nat.reduceLT,Nat.reduceBEq,Int.reduceToNat,Int.reduceLT,Int.reduceLE,Int.reduceEq,l1,l2,l3,ia_s0,ia_s1,wk,wd,k1,f1,g1,g3,w6,w7,okQWhen,slD_c,ne_eq,not_true_eq_false,Bool.false_eq_true]
            rw [L1]
            simp only [go_sem,Nat.reduceAdd,Nat.reduceSub,Nat.reduceMul,Nat.reduceDiv,Nat.reduceMod,Nat.reduceLeDiff,Nat.reduceLT,Nat.reduceBEq,Int.reduceToNat,Int.reduceLT,Int.reduceLE,Int.reduceEq,b1,rs,w6,w7,hcb,ne_eq,not_true_eq_false,e_im0]
            rw [L2]
            rcases a' with _ | ⟨z,a'⟩ <;> simp only [go_sem,Nat.reduceAdd,Nat.reduceSub,Nat.reduceMul,Nat.reduceDiv,Nat.reduceMod,Nat.reduceLeDiff,Nat.reduceLT,Nat.reduceBEq,Int.reduceToNat,Int.reduceLT,Int.reduceLE,Int.reduceEq,vK,oK]
          · simp only [hcb,ne_eq,not_true_eq_false,if_false] at h
            rcases q2 with rfl | rfl <;> cases h
        · have L2:=(rdL2 (n+6) false (k :: (D : Int) :: r) hb hl k hc (y :: t) (by rw [hbl]; omega) N hN (by omega) (2 + 6 * D) (by rw [hlD]; omega))
          rw [hdp] at L2
          replace L2:=L2.trans q2
          rw [List.length_range] at q1
          rw [q1]
          obtain ⟨hle,hal⟩:=rdVs_len _ _ _ _ _ _ q1
          rw [List.length_drop] at hle
          simp only [dcZ,rdX,vK,oK,List.map_nil,List.nil_append,List.append_nil,List.map_cons,slD_c,u8,enR,List.length_cons] at L2
          have cw : decide (((r.length + 1 + 1 - r''.length : Nat) : Int) < ((r.length + 1 + 1 : Nat) : Int)) = decide (r''.length > 0):=by
            rw [decide_eq_decide]; omega
          have mk:=okRMake (n+7) k false true (y :: t) a' (by omega) (by omega)
          refine ⟨⟨k,true,y :: t,true,strides 1 (y :: t),true,a'⟩,?_,fun h => ?_⟩
          · simp only [go_sem,Nat.reduceAdd,Nat.reduceSub,Nat.reduceMul,Nat.reduceDiv,Nat.reduceMod,Nat.reduceLeDiff,Nat.reduceLT,Nat.reduceBEq,Int.reduceToNat,Int.reduceLT,Int.reduceLE,Int.reduceEq,l1,l2,l3,ia_s0,ia_s1,wk,wd,k1,f1,g1,g3,w6,w7,okQWhen,slD_c,ne_eq,not_true_eq_false,Bool.false_eq_true]
            rw [L1]
            simp only [go_sem,Nat.reduceAdd,Nat.reduceSub,Nat.reduceMul,Nat.reduceDiv,Nat.reduceMod,Nat.reduceLeDiff,Nat.reduceLT,Nat.reduceBEq,Int.reduceToNat,Int.reduceLT,Int.reduceLE,Int.reduceEq,b1,rs,w6,w7,hcb,ne_eq,not_true_eq_false]
            rw [L2]
            simp only [enB,slD_c,List.map_cons,enR,enIm] at mk ⊢
            rcases a' with _ | ⟨z,a'⟩
            · simp only [slD_tn,List.map_nil] at mk ⊢
              by_cases hq : r''.length > 0
              · simp only [hq,decide_true] at cw
                simp only [go_sem,Nat.reduceAdd,Nat.reduceSub,Nat.reduceMul,Nat.reduceDiv,Nat.reduceMod,Nat.reduceLeDiff,Nat.reduceLT,Nat.reduceBEq,Int.reduceToNat,Int.reduceLT,Int.reduceLE,Int.reduceEq,vK,oK,cw,mk,okQWhen,hcb,hq,ne_eq,not_true_eq_false]
                done
              · simp only [hq,decide_false] at cw
                simp only [go_sem,Nat.reduceAdd,Nat.reduceSub,Nat.reduceMul,Nat.reduceDiv,Nat.reduceMod,Nat.reduceLeDiff,Nat.reduceLT,Nat.reduceBEq,Int.reduceToNat,Int.reduceLT,Int.reduceLE,Int.reduceEq,vK,oK,cw,mk,okQWhen,hcb,hq,ne_eq,not_true_eq_false,Bool.false_eq_true]
                done
            · simp only [slD_c,List.map_cons,ub] at mk ⊢
              by_cases hq : r''.length > 0
              · simp only [hq,decide_true] at cw
                simp only [go_sem,Nat.reduceAdd,Nat.reduceSub,Nat.reduceMul,Nat.reduceDiv,Nat.reduceMod,Nat.reduceLeDiff,Nat.reduceLT,Nat.reduceBEq,Int.reduceToNat,Int.reduceLT,Int.reduceLE,Int.reduceEq,vK,oK,cw,mk,okQWhen,hcb,hq,ne_eq,not_true_eq_false]
                done
              · simp only [hq,decide_false] at cw
                simp only [go_sem,Nat.reduceAdd,Nat.reduceSub,Nat.reduceMul,Nat.reduceDiv,Nat.reduceMod,Nat.reduceLeDiff,Nat.reduceLT,Nat.reduceBEq,Int.reduceToNat,Int.reduceLT,Int.reduceLE,Int.reduceEq,vK,oK,cw,mk,okQWhen,hcb,hq,ne_eq,not_true_eq_false,Bool.false_eq_true]
                done
          · by_cases hq : r''.length > 0
            · simp only [hcb,hq,ne_eq,not_true_eq_false,if_false,if_true] at h
              cases h
            · simp only [hcb,hq,ne_eq,not_true_eq_false,if_false]
      · refine ⟨im0,?_,fun h => ?_⟩
        · simp only [go_sem,Nat.reduceAdd,Nat.reduceSub,Nat.reduceMul,Nat.reduceDiv,Nat.reduceMod,Nat.reduceLeDiff,Nat.reduceLT,Nat.reduceBEq,Int.reduceToNat,Int.reduceLT,Int.reduceLE,Int.reduceEq,l1,l2,l3,ia_s0,ia_s1,wk,wd,k1,f1,g1,g3,w6,w7,okQWhen,slD_c,ne_eq,not_true_eq_false,Bool.false_eq_true]
          rw [L1]
          simp only [go_sem,Nat.reduceAdd,Nat.reduceSub,Nat.reduceMul,Nat.reduceDiv,Nat.reduceMod,Nat.reduceLeDiff,Nat.reduceLT,Nat.reduceBEq,Int.reduceToNat,Int.reduceLT,Int.reduceLE,Int.reduceEq,b1,hcb,ne_eq,not_false_eq_true,e_im0]
        · simp only [hcb,ne_eq,not_false_eq_true,if_true] at h
  · refine ⟨im0,?_,fun h => ?_⟩
    · rw [okRDecE n b l hb hl h0]
      unfold decI
      rw [if_pos h0]
    · unfold decI at h ⊢
      rw [if_pos h0]
end Go.Vm.P4Z

/- Chapter 04,functions: the reference's Slice and Transpose. -/
set_option maxRecDepth 100000
set_option maxHeartbeats 8000000
namespace Go.Vm.P4Z
open Go Go.Vm Go.Vm.P4
end Go.Vm.P4Z

/- Chapter 04,functions: the reference's Transpose. -/
set_option maxRecDepth 100000
set_option maxHeartbeats 8000000
namespace Go.Vm.P4Z
open Go Go.Vm Go.Vm.P4
theorem slD_f {sz : Nat} {es : List (List D)} : slD false sz es = .sl sz es:=by cases es <;> rfl
end Go.Vm.P4Z

/- Chapter 04,plain law: what the parts of an image answer,with the reference's errors. -/
set_option maxRecDepth 100000
set_option maxHeartbeats 1000000
namespace Go.Vm.P4Z
open Go Go.Vm Go.Vm.P4
def Alike (m o : Im) : Prop:=o.kd = m.kd ∧ o.bx = m.bx ∧ o.st = m.st ∧ o.dt = m.dt ∧ m.bx.length < 1000000 ∧ m.st.length < 1000000 ∧ m.dt.length < 1000000
theorem alike_im0 : Alike im0 im0:=⟨rfl,rfl,rfl,rfl,by decide,by decide,by decide⟩
end Go.Vm.P4Z

/- Chapter 04: the law ImageEdges,given the examples. -/
set_option maxRecDepth 100000
set_option maxHeartbeats 4000000
namespace Go.Vm.P4Z
open Go Go.Vm Go.Vm.P4
theorem shortI_len {m : Im} (h : shortI m = true) : m.bx.length ≤ 4 ∧ m.st.length ≤ 5 ∧ m.dt.length ≤ 200:=by
  simp [shortI] at h
  omega
theorem ckPts_own (m : Im) : ∀ (l : List Nat) (T : List Int),ckPts m.own T l = ckPts m T l
  | [],_ => rfl
  | i :: l,T => by
    unfold ckPts
    rw [ckPts_own m l]
    rfl
theorem ckI_own (m : Im) : ckI m.own = ckI m:=by
  unfold ckI ckIm
  rw [ckPts_own]
  rfl
end Go.Vm.P4Z

/- Chapter 04: the law ImageParts,given the examples (printed by gen4p.py). -/
set_option maxRecDepth 100000
set_option maxHeartbeats 8000000
namespace Go.Vm.P4Z
open Go Go.Vm Go.Vm.P4
theorem seq_step {lo : Lower} {cx : Cx} {a b : IR} {s s' : S} (h : aCode lo cx a s = some (.normal,s')) : aCode lo cx (.seq a b) s = aCode lo cx b s':=by rw [ac_seq,h]; rfl
theorem okAlike (n : Nat) {m o : Im} (h : Alike m o) : callP (level E (n+2)) 18 [enIm m,enIm o] = some (.bool true):=by
  obtain ⟨h1,h2,h3,h4,h5,h6,h7⟩:=h
  exact okSameImage n m o h1 h2 h3 h4 h5 h6 h7
end Go.Vm.P4Z
