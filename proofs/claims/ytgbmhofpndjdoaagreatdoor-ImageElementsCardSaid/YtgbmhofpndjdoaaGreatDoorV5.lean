/- A part of the proof that the law answers true for every input; the conditions are those of the card: the listed variable reads as the program lays it. -/
import Derived.Test.YtgbmhofpndjdoaaGreatDoorV4
set_option linter.unusedSimpArgs false
set_option linter.unusedVariables false
/- Chapter 04,functions: elements of points,images made of a function. -/
set_option maxRecDepth 100000
set_option maxHeartbeats 4000000
namespace Go.Vm.P4Z
open Go Go.Vm Go.Vm.P4
theorem okViewAt (n : Nat) (m : Im) (p : List Int) (k : Nat) (v : Int) (hp : p.length = 3) (h3 : m.bx.length ≤ 3) (hs : m.bx.length ≤ m.st.length) (he : elt m.bx p m.st 0 = k) (hv : m.dt[k]? = some v) :
    callP (level E (n+2)) 84 [enIm m,enP p] = some (.int .u64 v):=by
  rw [p84]
  have h1:=okElement n m.bb m.tb m.bx m.st p h3 hs hp
  obtain ⟨x,y,z,rfl⟩ : ∃ x y z,p = [x,y,z]:=by
    match p,hp with
    | [x,y,z],_ => exact ⟨x,y,z,rfl⟩
  rw [he] at h1
  simp only [enP,List.map_cons,List.map_nil] at h1 ⊢
  simp only [go_sem,Nat.reduceAdd,Nat.reduceSub,Nat.reduceMul,Nat.reduceDiv,Nat.reduceMod,Nat.reduceLeDiff,Nat.reduceLT,Nat.reduceBEq,Int.reduceToNat,Int.reduceLT,Int.reduceLE,Int.reduceEq,enIm,h1,hv]
def ckAt (cb : Int → Int) (m : Im) (p : List Int) : Int:=if fnz [ckIm cb m,if p.length = m.bx.length then 0 else 13] = 0 then (if hasB m.bx p then 0 else 14) else fnz [ckIm cb m,if p.length = m.bx.length then 0 else 13]
theorem okCheckAt (n : Nat) (m : Im) (c : Bool) (p : List Int) (cb : Int → Int) (hx : m.bx.length < 1000000) (hs : m.st.length < 1000000) (hd : m.dt.length < 1000000) (H : ∀ v ∈ m.dt,callP (level E (n+5)) 72 [.int .i64 m.kd,.int .u64 v] = some (.int .i64 (cb v))) :
    callP (level E (n+10)) 99 [enIm m,slD c 1 (p.map ic)] = some (.int .i64 (ckAt cb m p)):=by
  rw [p99]
  have h1:=okCheck n m cb hx hs hd H
  have f1:=okFirstL (n+8) [[.int .i64 (ckIm cb m)],[.int .i64 (if p.length = m.bx.length then 0 else 13)]] [ckIm cb m,if p.length = m.bx.length then 0 else 13] rfl (by simp)
  have w1 : callP (level E (n+9)) 64 [.bool (decide (¬ (p.length : Int) = m.bx.length)),.int .i64 13] = some (.int .i64 (if p.length = m.bx.length then 0 else 13)):=by
    rw [okWhen (n+8)]
    by_cases h : p.length = m.bx.length
    · simp [h]
    · have : ¬ (p.length : Int) = m.bx.length:=by omega
      simp [h,this]
  by_cases h2 : fnz [ckIm cb m,if p.length = m.bx.length then 0 else 13] = 0
  · have h4:=fz0 _ h2 (if p.length = m.bx.length then 0 else 13) (by simp)
    have h5 : p.length = m.bx.length:=by
      split at h4
      · assumption
      · omega
    have h6:=okHas0 (n+8) m.bb c m.bx p (by omega) (by omega)
    rw [h2] at f1
    simp only [enIm] at h1
    cases h7 : hasB m.bx p
    · rw [h7] at h6
      simp only [go_sem,Nat.reduceAdd,Nat.reduceSub,Nat.reduceMul,Nat.reduceDiv,Nat.reduceMod,Nat.reduceLeDiff,Nat.reduceLT,Nat.reduceBEq,Int.reduceToNat,Int.reduceLT,Int.reduceLE,Int.reduceEq,enIm,h1,w1,f1,h2,h6,h7,okWhen,ckAt,ne_eq,not_true_eq_false,Bool.false_eq_true]
    · rw [h7] at h6
      simp only [go_sem,Nat.reduceAdd,Nat.reduceSub,Nat.reduceMul,Nat.reduceDiv,Nat.reduceMod,Nat.reduceLeDiff,Nat.reduceLT,Nat.reduceBEq,Int.reduceToNat,Int.reduceLT,Int.reduceLE,Int.reduceEq,enIm,h1,w1,f1,h2,h6,h7,okWhen,ckAt,ne_eq,not_true_eq_false,Bool.false_eq_true]
  · simp only [enIm] at h1
    simp only [go_sem,Nat.reduceAdd,Nat.reduceSub,Nat.reduceMul,Nat.reduceDiv,Nat.reduceMod,Nat.reduceLeDiff,Nat.reduceLT,Nat.reduceBEq,Int.reduceToNat,Int.reduceLT,Int.reduceLE,Int.reduceEq,enIm,h1,w1,f1,h2,ckAt,ne_eq,not_false_eq_true]
theorem okAtE (n : Nat) (m : Im) (c : Bool) (p : List Int) (e : Int) (he : e ≠ 0) (h1 : callP (level E (n+10)) 99 [enIm m,slD c 1 (p.map ic)] = some (.int .i64 e)) :
    callP (level E (n+11)) 39 [enIm m,slD c 1 (p.map ic)] = some (.tup [.agg [.int .i64 0,.int .u64 0],.int .i64 e]):=by
  rw [p39]
  simp only [enIm] at h1
  simp only [go_sem,Nat.reduceAdd,Nat.reduceSub,Nat.reduceMul,Nat.reduceDiv,Nat.reduceMod,Nat.reduceLeDiff,Nat.reduceLT,Nat.reduceBEq,Int.reduceToNat,Int.reduceLT,Int.reduceLE,Int.reduceEq,enIm,h1,he,ne_eq,not_false_eq_true]
theorem okAtS (n : Nat) (m : Im) (c : Bool) (p : List Int) (h1 : callP (level E (n+10)) 99 [enIm m,slD c 1 (p.map ic)] = some (.int .i64 0)) (h3 : m.bx.length ≤ 3) (hpl : p.length ≤ 3) (hs : m.bx.length ≤ m.st.length)
    (k : Nat) (v : Int) (he : elt m.bx ((p ++ [0,0,0]).take 3) m.st 0 = k) (hv : m.dt[k]? = some v) :
    callP (level E (n+11)) 39 [enIm m,slD c 1 (p.map ic)] = some (.tup [.agg [.int .i64 m.kd,.int .u64 v],.int .i64 0]):=by
  rw [p39]
  have h2:=okOf (n+9) c p hpl
  have h4:=okViewAt (n+8) m ((p ++ [0,0,0]).take 3) k v (by simp) h3 hs he hv
  simp only [enIm] at h1 h4
  simp only [go_sem,Nat.reduceAdd,Nat.reduceSub,Nat.reduceMul,Nat.reduceDiv,Nat.reduceMod,Nat.reduceLeDiff,Nat.reduceLT,Nat.reduceBEq,Int.reduceToNat,Int.reduceLT,Int.reduceLE,Int.reduceEq,enIm,h1,h2,h4,ne_eq,not_true_eq_false]
end Go.Vm.P4Z

/- Chapter 04,functions: images made of a function. -/
set_option maxRecDepth 100000
set_option maxHeartbeats 4000000
namespace Go.Vm.P4Z
open Go Go.Vm Go.Vm.P4
def CoV (kd : Int) (b : Bool) (l : Bx) (f : D) (q : Nat) : List AV:=[.imm (.int .i64 kd),.imm (enB b l),.imm f,.ptr 0 0,.imm (.ptr [f]),.ptr q 0,.junk,.imm (.fn 125 [] [.ptr [enB b l]]),.junk,.junk]
def z4 : List AV:=[.imm (.int .i64 0),.imm .nil,.imm .nil,.imm .nil]
def CoSt (kd : Int) (b : Bool) (l : Bx) (f : D) : List (List D) → Ext
  | [] => ⟨[8,9],b86_0,b86_1,CoV kd b l f 2,[.box z4,.arr 2 (l.map enR),.box [.imm (.int .i64 kd),.ref 1 2 0 l.length,.imm (slD true 1 ((strides 1 l).map ic)),.imm .nil]],0,none⟩
  | acc => ⟨[8,9],b86_0,b86_1,CoV kd b l f 1,[.box z4,.box [.imm (.int .i64 kd),.ref 2 2 0 l.length,.imm (slD true 1 ((strides 1 l).map ic)),.ref 3 1 0 acc.length],.arr 2 (l.map enR),.arr 1 acc],0,none⟩
theorem dL_cat (st : List AO) (fs cs : List D) (a : D) : deepL st (fs.map AV.imm ++ [.imm a] ++ cs.map AV.imm) = some (fs ++ [a] ++ cs):=by
  rw [show fs.map AV.imm ++ [.imm a] ++ cs.map AV.imm = (fs ++ [a] ++ cs).map AV.imm from by simp]
  exact dL_map _
theorem iL_cat (fs cs : List D) (a : D) : idsL (fs.map AV.imm ++ [.imm a] ++ cs.map AV.imm) = []:=by
  rw [show fs.map AV.imm ++ [.imm a] ++ cs.map AV.imm = (fs ++ [a] ++ cs).map AV.imm from by simp]
  exact iL_map _
theorem okCollectR (n : Nat) (kd : Int) (b : Bool) (l : Bx) (fid : FuncId) (fs cs : List D) (F : List Int → Int) (acc : List (List D)) (i : Nat) (ha : acc.length = i) (hi : i < 1000000)
    (H : callP (level E (n+1)) fid (fs ++ [enP (plc l i)] ++ cs) = some (.int .u64 (F (plc l i)))) :
    (level E (n+2)).round (CoSt kd b l (.fn fid fs cs) acc) [.int .i64 (i : Int),enP (plc l i)] = some (CoSt kd b l (.fn fid fs cs) (acc ++ [ub (F (plc l i))]),true):=by
  obtain ⟨x,y,z,hp⟩ : ∃ x y z,plc l i = [x,y,z]:=by
    match hh : plc l i,plc_len l i with
    | [x,y,z],_ => exact ⟨x,y,z,rfl⟩
  rw [hp] at H ⊢
  have e1 : (acc.length + 1) * 9 ≤ 70368744177664:=by omega
  simp only [enP,List.map_cons,List.map_nil] at H
  rcases acc with _ | ⟨w,acc⟩
  · unfold CoSt
    dsimp only
    rw [round_go rfl]
    simp only [CoV,enP,z4]
    simp only [go_sem,Nat.reduceAdd,Nat.reduceSub,Nat.reduceMul,Nat.reduceDiv,Nat.reduceMod,Nat.reduceLeDiff,Nat.reduceLT,Nat.reduceBEq,Int.reduceToNat,Int.reduceLT,Int.reduceLE,Int.reduceEq,dL_cat,iL_cat,H]
  · simp only [List.length_cons] at e1
    unfold CoSt
    dsimp only
    rw [round_go rfl]
    simp only [CoV,enP,z4]
    simp only [go_sem,Nat.reduceAdd,Nat.reduceSub,Nat.reduceMul,Nat.reduceDiv,Nat.reduceMod,Nat.reduceLeDiff,Nat.reduceLT,Nat.reduceBEq,Int.reduceToNat,Int.reduceLT,Int.reduceLE,Int.reduceEq,e1,dL_cat,iL_cat,H]
def mkIm (kd : Int) (l : Bx) (N : Nat) (F : List Int → Int) : Im:=⟨kd,false,l,true,strides 1 l,true,(List.range N).map fun i => F (plc l i)⟩
theorem okCollect (n : Nat) (kd : Int) (b : Bool) (l : Bx) (fid : FuncId) (fs cs : List D) (F : List Int → Int) (h1 : 1 ≤ l.length) (h3 : l.length ≤ 3) (N : Nat) (hN : many l = N) (hN2 : N < 1000000)
    (H : ∀ i,i < N → callP (level E (n+1)) fid (fs ++ [enP (plc l i)] ++ cs) = some (.int .u64 (F (plc l i)))) :
    callP (level E (n+4)) 86 [.int .i64 kd,enB b l,.fn fid fs cs] = some (enIm (mkIm kd l N F)):=by
  rw [p86]
  have a1:=okAll (n+2) b l
  have c1:=okCloneB (n+2) b l (by omega)
  have d1:=okDense (n+2) b l (by omega)
  have h:=okAll1 (n+1) b l h3 N hN (by omega) (CoSt kd b l (.fn fid fs cs)) (fun a i => a.length = i) (fun a i => .inl (a ++ [ub (F (plc l i))])) [] rfl
    (fun a i hI hi => ⟨okCollectR n kd b l fid fs cs F a i hI (by omega) (H i hi),fun a' ha => by injection ha with ha; subst ha; simp [hI]⟩)
  rw [runL_fold,fold_snoc,List.nil_append] at h
  have e1 : clV b 2 (l.map enR) = .ref 0 2 0 l.length:=by
    rcases l with _ | ⟨x,t⟩
    · simp at h1
    · cases b <;> simp [clV]
  have e2 : clO 2 (l.map enR) = [.arr 2 (l.map enR)]:=by
    rcases l with _ | ⟨x,t⟩
    · simp at h1
    · simp [clO]
  have e3 : flatDLL (l.map enR) = true:=by
    clear h h1 h3 hN H c1 d1 a1 e1 e2
    induction l with
    | nil => rfl
    | cons x t ih => simp only [go_sem,Nat.reduceAdd,Nat.reduceSub,Nat.reduceMul,Nat.reduceDiv,Nat.reduceMod,Nat.reduceLeDiff,Nat.reduceLT,Nat.reduceBEq,Int.reduceToNat,Int.reduceLT,Int.reduceLE,Int.reduceEq,ih]
  rw [e1,e2] at c1
  simp only [go_sem,Nat.reduceAdd,Nat.reduceSub,Nat.reduceMul,Nat.reduceDiv,Nat.reduceMod,Nat.reduceLeDiff,Nat.reduceLT,Nat.reduceBEq,Int.reduceToNat,Int.reduceLT,Int.reduceLE,Int.reduceEq,c1,d1,e3,a1]
  simp only [CoSt,CoV,z4] at h
  rw [h]
  have e4 : (List.range N).map (fun i => ub (F (plc l i))) = ((List.range N).map fun i => F (plc l i)).map ub:=by simp
  rw [e4]
  cases hq : (List.range N).map (fun i => F (plc l i)) with
  | nil => simp only [go_sem,Nat.reduceAdd,Nat.reduceSub,Nat.reduceMul,Nat.reduceDiv,Nat.reduceMod,Nat.reduceLeDiff,Nat.reduceLT,Nat.reduceBEq,Int.reduceToNat,Int.reduceLT,Int.reduceLE,Int.reduceEq,CoSt,CoV,z4,enIm,mkIm,hq] <;> rfl
  | cons w t => simp only [go_sem,Nat.reduceAdd,Nat.reduceSub,Nat.reduceMul,Nat.reduceDiv,Nat.reduceMod,Nat.reduceLeDiff,Nat.reduceLT,Nat.reduceBEq,Int.reduceToNat,Int.reduceLT,Int.reduceLE,Int.reduceEq,CoSt,CoV,z4,enIm,mkIm,hq] <;> rfl
end Go.Vm.P4Z

/- Chapter 04,functions: Crop,Delete,Insert,Slice. -/
set_option maxRecDepth 100000
set_option maxHeartbeats 4000000
namespace Go.Vm.P4Z
open Go Go.Vm Go.Vm.P4
theorem okEqualB (n : Nat) (b c : Bool) (l : Bx) (hl : l.length < 1000000000) : callP (level E (n+1)) 87 [enB b l,enB c l] = some (.bool true):=by
  rw [p87]
  simp only [go_sem,Nat.reduceAdd,Nat.reduceSub,Nat.reduceMul,Nat.reduceDiv,Nat.reduceMod,Nat.reduceLeDiff,Nat.reduceLT,Nat.reduceBEq,Int.reduceToNat,Int.reduceLT,Int.reduceLE,Int.reduceEq,ne_eq,not_true_eq_false]
  have h:=loop_fold (f:=aCode (level E (n)) ⟨0,false⟩ b87_0) (h:=head ⟨0,false⟩ [1,1,0,0,0,1,1,0,0]) (Φ:=outC ⟨0,false⟩ [0,0,1,0,0,0,0,0,0]) l (fun (a : Unit) i => ⟨[.imm (slD b 2 (l.map enR)),.imm (slD c 2 (l.map enR)),.junk,.junk,.junk,.imm (.int .i64 l.length),.imm (.int .i64 i),.junk,.junk],[],none⟩) (fun _ _ => True)
    (fun a x => ()) (fun a => some (.exit 0,⟨[.junk,.junk,.junk,.junk,.junk,.junk,.junk,.junk,.junk],[],none⟩)) () trivial
    (fun a i x hI h2 h1 => by
      refine ⟨?_,trivial⟩
      rw [rnd_eq]
      simp only [go_sem,Nat.reduceAdd,Nat.reduceSub,Nat.reduceMul,Nat.reduceDiv,Nat.reduceMod,Nat.reduceLeDiff,Nat.reduceLT,Nat.reduceBEq,Int.reduceToNat,Int.reduceLT,Int.reduceLE,Int.reduceEq,lt_t h2,h1,aEq,eqL,eqE,intEq,beq_self_eq_true]
      rw [wrpS (by omega)])
    (fun a _ => by
      rw [rnd_eq]
      simp only [go_sem,Nat.reduceAdd,Nat.reduceSub,Nat.reduceMul,Nat.reduceDiv,Nat.reduceMod,Nat.reduceLeDiff,Nat.reduceLT,Nat.reduceBEq,Int.reduceToNat,Int.reduceLT,Int.reduceLE,Int.reduceEq,lt_f (Nat.le_refl _)])
  rw [cast_0] at h
  rw [h]
  simp only [go_sem,Nat.reduceAdd,Nat.reduceSub,Nat.reduceMul,Nat.reduceDiv,Nat.reduceMod,Nat.reduceLeDiff,Nat.reduceLT,Nat.reduceBEq,Int.reduceToNat,Int.reduceLT,Int.reduceLE,Int.reduceEq]
def Lies (m : Im) (l : Bx) (N : Nat) (F : List Int → Int) : Prop:=∀ i,i < N → ∃ k : Nat,elt m.bx (plc l i) m.st 0 = k ∧ m.dt[k]? = some (F (plc l i))
theorem okCropS (n : Nat) (m : Im) (c : Bool) (l : Bx) (h1 : callP (level E (n+9)) 50 [enIm m] = some (.int .i64 0)) (hm : ckBox m.bx = 0) (hs : m.st.length = m.bx.length) (h2 : ckBox l = 0) (h3 : l.length = m.bx.length) (hz : List.zipWith rmeet m.bx l = l)
    (N : Nat) (hN : many l = N) (F : List Int → Int) (hF : Lies m l N F) :
    callP (level E (n+10)) 25 [enIm m,enB c l] = some (.tup [enIm (mkIm m.kd l N F),.int .i64 0]):=by
  obtain ⟨q1,q2,_,q4⟩:=ckBox0 h2
  obtain ⟨r1,r2,_,_⟩:=ckBox0 hm
  rw [p25]
  have c1:=okCheckBox (n+5) c l (by omega)
  have m1:=okMany (n+8) c l (by omega)
  have f1:=okFirstL (n+8) [[.int .i64 0],[.int .i64 0],[.int .i64 0]] [0,0,0] rfl (by simp)
  have z1:=okZipped (n+8) m.bb c m.bx l 89 rmeet (by omega) (by omega) (fun r s => okMeet (n+7) r s)
  rw [hz] at z1
  have e1:=okEqualB (n+8) true c l (by omega)
  have k1:=okCollect (n+5) m.kd c l 84 [enIm m] [] F q1 q2 N hN (by omega) (fun i hi => by
    obtain ⟨k,hk1,hk2⟩:=hF i hi
    exact okViewAt (n+4) m (plc l i) k _ (plc_len l i) r2 (by omega) hk1 hk2)
  have hw:=okWhen (n+8) false 13
  simp only [enIm] at h1 k1
  rw [h2] at c1
  simp only [fnz,if_true] at f1
  by_cases hp : many l > 0
  · simp only [go_sem,Nat.reduceAdd,Nat.reduceSub,Nat.reduceMul,Nat.reduceDiv,Nat.reduceMod,Nat.reduceLeDiff,Nat.reduceLT,Nat.reduceBEq,Int.reduceToNat,Int.reduceLT,Int.reduceLE,Int.reduceEq,enIm,h1,c1,m1,f1,h3,z1,e1,hp,hw,k1,ne_eq,not_true_eq_false,Bool.false_eq_true]
  · simp only [go_sem,Nat.reduceAdd,Nat.reduceSub,Nat.reduceMul,Nat.reduceDiv,Nat.reduceMod,Nat.reduceLeDiff,Nat.reduceLT,Nat.reduceBEq,Int.reduceToNat,Int.reduceLT,Int.reduceLE,Int.reduceEq,enIm,h1,c1,m1,f1,h3,hp,hw,k1,ne_eq,not_true_eq_false,Bool.false_eq_true]
theorem okDel20 (n : Nat) (r s : Rg) : callS (level E (n+1)) 90 [.ref 0 2 0 2,.imm (.int .i64 0),.imm (.int .i64 1)] [.arr 2 [enR r,enR s]] = some (.ref 1 2 0 1,[.dead,.arr 2 [enR s,[.int .i64 0,.int .i64 0]]]):=by
  rw [s90]
  simp only [go_sem,Nat.reduceAdd,Nat.reduceSub,Nat.reduceMul,Nat.reduceDiv,Nat.reduceMod,Nat.reduceLeDiff,Nat.reduceLT,Nat.reduceBEq,Int.reduceToNat,Int.reduceLT,Int.reduceLE,Int.reduceEq]
theorem ins_call (n : Nat) (es : List (List D)) (i : Nat) (a : D) (hi : i ≤ es.length) (hl : es.length < 1000000) : (level E (n+1)).call 93 [.ref 0 1 0 es.length,.imm (.int .i64 i),.ref 1 1 0 1] [.arr 1 es,.arr 1 [[a]]] none =
    some (.ref 2 1 0 (es.length + 1),[.dead,.arr 1 [[a]],.arr 1 (es.take i ++ [a] :: es.drop i)],none):=by
  have h1 : E.fn 93 = none:=rfl
  have h2 : E.prim 93 = some insPrim:=rfl
  have k1 : (0 : Int) ≤ (i : Int):=by omega
  have k2 : (i : Int) ≤ (es.length : Int):=by omega
  simp only [level,h1,runPrim,h2,insPrim,List.getElem?_cons_zero,List.getElem?_cons_succ,k1,k2,hl,and_self,ne_eq,Nat.zero_ne_one,not_false_eq_true,if_true,Int.toNat_natCast]
  rfl
theorem okIns (n : Nat) (es : List (List D)) (i : Nat) (a : D) (hi : i ≤ es.length) (hl : es.length < 1000000) : callS (level E (n+1)) 93 [.ref 0 1 0 es.length,.imm (.int .i64 i),.ref 1 1 0 1] [.arr 1 es,.arr 1 [[a]]] =
    some (.ref 2 1 0 (es.length + 1),[.dead,.arr 1 [[a]],.arr 1 (es.take i ++ [a] :: es.drop i)]):=by
  unfold callS
  rw [ins_call n es i a hi hl]
  simp only [go_sem,Nat.reduceAdd,Nat.reduceSub,Nat.reduceMul,Nat.reduceDiv,Nat.reduceMod,Nat.reduceLeDiff,Nat.reduceLT,Nat.reduceBEq,Int.reduceToNat,Int.reduceLT,Int.reduceLE,Int.reduceEq]
theorem okSlice_1 (n : Nat) (m : Im) (at' x y z : Int) (h3 : m.bx.length = 2) (hs : m.bx.length ≤ m.st.length) (k : Nat) (v : Int) (he : elt m.bx [at',x,0] m.st 0 = k) (hv : m.dt[k]? = some v) :
    callP (level E (n+3)) 92 ([] ++ [enP [x,y,z]] ++ [.ptr [.int .i64 m.kd,enB m.bb m.bx,slD m.tb 1 (m.st.map ic),slD m.db 1 (m.dt.map ub)],.ptr [.int .i64 0],.ptr [.int .i64 at']]) = some (.int .u64 v):=by
  show callP (level E (n+3)) 92 [enP [x,y,z],.ptr [.int .i64 m.kd,enB m.bb m.bx,slD m.tb 1 (m.st.map ic),slD m.db 1 (m.dt.map ub)],.ptr [.int .i64 0],.ptr [.int .i64 at']] = _
  rw [p92]
  have c1:=okCloneI (n+1) false [x] (by simp)
  simp only [clV,clO,slD,List.map_cons,List.map_nil,ic] at c1
  have i1:=okIns (n+1) [[.int .i64 x]] 0 (.int .i64 at') (by simp) (by simp)
  have o1:=okOf (n+1) false [at',x] (by simp)
  simp only [List.map_cons,List.map_nil,ic,slD] at o1
  have v1:=okViewAt n m [at',x,0] k v rfl (by omega) hs he hv
  have e2 : (m.bx.length : Int) = 2:=by omega
  simp only [enIm,enP,List.map_cons,List.map_nil] at v1
  have w21 : wrp .i64 (2 - 1) = 1:=by decide
  simp only [enP,go_sem,Nat.reduceAdd,Nat.reduceSub,Nat.reduceMul,Nat.reduceDiv,Nat.reduceMod,Nat.reduceLeDiff,Nat.reduceLT,Nat.reduceBEq,Int.reduceToNat,Int.reduceLT,Int.reduceLE,Int.reduceEq] at o1
  simp only [go_sem,Nat.reduceAdd,Nat.reduceSub,Nat.reduceMul,Nat.reduceDiv,Nat.reduceMod,Nat.reduceLeDiff,Nat.reduceLT,Nat.reduceBEq,Int.reduceToNat,Int.reduceLT,Int.reduceLE,Int.reduceEq] at i1
  simp only [go_sem,Nat.reduceAdd,Nat.reduceSub,Nat.reduceMul,Nat.reduceDiv,Nat.reduceMod,Nat.reduceLeDiff,Nat.reduceLT,Nat.reduceBEq,Int.reduceToNat,Int.reduceLT,Int.reduceLE,Int.reduceEq,enP,e2,w21,c1,i1,o1,v1]
theorem okSlice2 (n : Nat) (m : Im) (r s : Rg) (hb : m.bx = [r,s]) (at' : Int) (h1 : callP (level E (n+9)) 50 [enIm m] = some (.int .i64 0)) (hs : m.st.length = 2) (hk : ckBox m.bx = 0) (g1 : at' ≥ r.lo) (g2 : at' ≤ r.lo + r.ex - 1)
    (N : Nat) (hN : many [s] = N) (hN2 : N < 1000000) (F : List Int → Int) (hF : ∀ i,i < N → ∃ x y z k,plc [s] i = [x,y,z] ∧ elt m.bx [at',x,0] m.st 0 = (k : Nat) ∧ m.dt[k]? = some (F [x,y,z])) :
    callP (level E (n+10)) 27 [enIm m,.int .i64 0,.int .i64 at'] = some (.tup [enIm (mkIm m.kd [s] N F),.int .i64 0]):=by
  obtain ⟨_,_,hr,_⟩:=ckBox0 hk
  have hr0:=ckRange0 (hr r (by rw [hb]; simp))
  rw [p27]
  have f1:=okFirstL (n+8) [[.int .i64 0],[.int .i64 0],[.int .i64 0]] [0,0,0] rfl (by simp)
  simp only [fnz,if_true] at f1
  have w1:=okWhen (n+8) false 13
  have w2:=okWhen (n+8) false 3
  have i1:=okWithin (n+8) 0 0 1
  have i2:=okWithin (n+8) at' r.lo (r.lo + r.ex - 1)
  have c1:=okCloneB (n+8) m.bb [r,s] (by simp)
  have e1 : clV m.bb 2 ([r,s].map enR) = .ref 0 2 0 2:=by cases m.bb <;> rfl
  have e2 : clO 2 ([r,s].map enR) = [.arr 2 [enR r,enR s]]:=rfl
  rw [e1,e2] at c1
  have d1:=okDel20 (n+8) r s
  have k1:=okCollect (n+5) m.kd false [s] 92 [] [.ptr [.int .i64 m.kd,enB m.bb m.bx,slD m.tb 1 (m.st.map ic),slD m.db 1 (m.dt.map ub)],.ptr [.int .i64 0],.ptr [.int .i64 at']] F (by simp) (by simp) N hN hN2 (fun i hi => by
    obtain ⟨x,y,z,k,q1,q2,q3⟩:=hF i hi
    rw [q1]
    exact okSlice_1 (n+3) m at' x y z (by rw [hb]; rfl) (by rw [hb,hs]; exact Nat.le_refl _) k _ q2 q3)
  have w21 : wrp .i64 (2 - 1) = 1:=by decide
  have w01 : wrp .i64 (0 + 1) = 1:=by decide
  have w3 : wrp .i64 (r.lo + r.ex) = r.lo + r.ex:=wrp_ok (by omega)
  have w4 : wrp .i64 (r.lo + r.ex - 1) = r.lo + r.ex - 1:=wrp_ok (by omega)
  have eb : enB false [s] = .sl 2 [enR s]:=rfl
  simp only [enIm,hb,go_sem,Nat.reduceAdd,Nat.reduceSub,Nat.reduceMul,Nat.reduceDiv,Nat.reduceMod,Nat.reduceLeDiff,Nat.reduceLT,Nat.reduceBEq,Int.reduceToNat,Int.reduceLT,Int.reduceLE,Int.reduceEq,enB,slD_c] at h1 k1 c1 d1 i1 i2
  have g1' : r.lo ≤ at':=g1
  simp only [ge_iff_le,g1',g2,go_sem,Nat.reduceAdd,Nat.reduceSub,Nat.reduceMul,Nat.reduceDiv,Nat.reduceMod,Nat.reduceLeDiff,Nat.reduceLT,Nat.reduceBEq,Int.reduceToNat,Int.reduceLT,Int.reduceLE,Int.reduceEq] at i1 i2
  simp only [enIm,hb,go_sem,Nat.reduceAdd,Nat.reduceSub,Nat.reduceMul,Nat.reduceDiv,Nat.reduceMod,Nat.reduceLeDiff,Nat.reduceLT,Nat.reduceBEq,Int.reduceToNat,Int.reduceLT,Int.reduceLE,Int.reduceEq,h1,f1,w1,w2,i1,i2,c1,d1,w21,w01,w3,w4,ge_iff_le,ne_eq,not_true_eq_false,enB,slD_c,ia_sl,k1,mkIm]
  done
end Go.Vm.P4Z

/- Chapter 04,functions: Transpose (the first two dimensions of a plane). -/
set_option maxRecDepth 100000
set_option maxHeartbeats 4000000
namespace Go.Vm.P4Z
open Go Go.Vm Go.Vm.P4
theorem okTranspose_1 (n : Nat) (m : Im) (x y z : Int) (h3 : m.bx.length ≤ 3) (hs : m.bx.length ≤ m.st.length) (k : Nat) (v : Int) (he : elt m.bx [y,x,z] m.st 0 = k) (hv : m.dt[k]? = some v) :
    callP (level E (n+3)) 95 ([] ++ [enP [x,y,z]] ++ [.ptr [.int .i64 1],.ptr [.int .i64 0],.ptr [.int .i64 m.kd,enB m.bb m.bx,slD m.tb 1 (m.st.map ic),slD m.db 1 (m.dt.map ub)]]) = some (.int .u64 v):=by
  show callP (level E (n+3)) 95 [enP [x,y,z],.ptr [.int .i64 1],.ptr [.int .i64 0],.ptr [.int .i64 m.kd,enB m.bb m.bx,slD m.tb 1 (m.st.map ic),slD m.db 1 (m.dt.map ub)]] = _
  rw [p95]
  have v1:=okViewAt n m [y,x,z] k v rfl h3 hs he hv
  simp only [enIm,enP,List.map_cons,List.map_nil] at v1
  simp only [go_sem,Nat.reduceAdd,Nat.reduceSub,Nat.reduceMul,Nat.reduceDiv,Nat.reduceMod,Nat.reduceLeDiff,Nat.reduceLT,Nat.reduceBEq,Int.reduceToNat,Int.reduceLT,Int.reduceLE,Int.reduceEq,enP,v1]
  done
theorem okTranspose2 (n : Nat) (m : Im) (r s : Rg) (hb : m.bx = [r,s]) (h1 : callP (level E (n+9)) 50 [enIm m] = some (.int .i64 0)) (hs : m.st.length = 2)
    (N : Nat) (hN : many [s,r] = N) (hN2 : N < 1000000) (F : List Int → Int) (hF : ∀ i,i < N → ∃ x y z k,plc [s,r] i = [x,y,z] ∧ elt m.bx [y,x,z] m.st 0 = (k : Nat) ∧ m.dt[k]? = some (F [x,y,z])) :
    callP (level E (n+10)) 28 [enIm m,.int .i64 0,.int .i64 1] = some (.tup [enIm (mkIm m.kd [s,r] N F),.int .i64 0]):=by
  rw [p28]
  have f1:=okFirstL (n+8) [[.int .i64 0],[.int .i64 0],[.int .i64 0]] [0,0,0] rfl (by simp)
  simp only [fnz,if_true] at f1
  have w2:=okWhen (n+8) false 3
  have i1:=okWithin (n+8) 0 0 1
  have i2:=okWithin (n+8) 1 0 1
  have c1:=okCloneB (n+8) m.bb [r,s] (by simp)
  have e1 : clV m.bb 2 ([r,s].map enR) = .ref 0 2 0 2:=by cases m.bb <;> rfl
  have e2 : clO 2 ([r,s].map enR) = [.arr 2 [enR r,enR s]]:=rfl
  rw [e1,e2] at c1
  have k1:=okCollect (n+5) m.kd false [s,r] 95 [] [.ptr [.int .i64 1],.ptr [.int .i64 0],.ptr [.int .i64 m.kd,enB m.bb m.bx,slD m.tb 1 (m.st.map ic),slD m.db 1 (m.dt.map ub)]] F (by simp) (by simp) N hN hN2 (fun i hi => by
    obtain ⟨x,y,z,k,q1,q2,q3⟩:=hF i hi
    rw [q1]
    exact okTranspose_1 (n+3) m x y z (by rw [hb]; simp) (by rw [hb,hs]; exact Nat.le_refl _) k _ q2 q3)
  have w21 : wrp .i64 (2 - 1) = 1:=by decide
  simp only [enIm,hb,go_sem,Nat.reduceAdd,Nat.reduceSub,Nat.reduceMul,Nat.reduceDiv,Nat.reduceMod,Nat.reduceLeDiff,Nat.reduceLT,Nat.reduceBEq,Int.reduceToNat,Int.reduceLT,Int.reduceLE,Int.reduceEq,enB,slD_c] at h1 k1 c1 i1 i2
  simp only [ge_iff_le,go_sem,Nat.reduceAdd,Nat.reduceSub,Nat.reduceMul,Nat.reduceDiv,Nat.reduceMod,Nat.reduceLeDiff,Nat.reduceLT,Nat.reduceBEq,Int.reduceToNat,Int.reduceLT,Int.reduceLE,Int.reduceEq] at i1 i2
  simp only [enIm,hb,go_sem,Nat.reduceAdd,Nat.reduceSub,Nat.reduceMul,Nat.reduceDiv,Nat.reduceMod,Nat.reduceLeDiff,Nat.reduceLT,Nat.reduceBEq,Int.reduceToNat,Int.reduceLT,Int.reduceLE,Int.reduceEq,h1,f1,w2,i1,i2,c1,w21,ge_iff_le,ne_eq,not_true_eq_false,enB,slD_c,ia_sl,k1,mkIm]
  done
end Go.Vm.P4Z

/- Chapter 04,functions: Edge. -/
set_option maxRecDepth 100000
set_option maxHeartbeats 4000000
namespace Go.Vm.P4Z
open Go Go.Vm Go.Vm.P4
def modW (a b : Int) : Int:=(ad (a.tmod b) b).tmod b
theorem okModulo (n : Nat) (a b : Int) (hb : b ≠ 0) : callP (level E (n+1)) 154 [.int .i64 a,.int .i64 b] = some (.int .i64 (modW a b)):=by
  rw [p154]
  simp only [go_sem,Nat.reduceAdd,Nat.reduceSub,Nat.reduceMul,Nat.reduceDiv,Nat.reduceMod,Nat.reduceLeDiff,Nat.reduceLT,Nat.reduceBEq,Int.reduceToNat,Int.reduceLT,Int.reduceLE,Int.reduceEq,hb,modW,ad,ne_eq,not_false_eq_true]
def inW : Nat → Rg → Int → Int
  | 0,r,c => min (max c r.lo) (sb (ad r.lo r.ex) 1)
  | 1,r,c => ad r.lo (modW (sb c r.lo) r.ex)
  | _,r,c => ad r.lo (min (modW (sb c r.lo) (ml 2 r.ex)) (sb (sb (ml 2 r.ex) 1) (modW (sb c r.lo) (ml 2 r.ex))))
def bF : Nat → FuncId
  | 0 => 152
  | 1 => 153
  | _ => 155
theorem okBound (n : Nat) (rule : Nat) (r : Rg) (c : Int) (h1 : r.ex ≠ 0) (h2 : ml 2 r.ex ≠ 0) : callP (level E (n+2)) (bF rule) [enRD r,.int .i64 c] = some (.int .i64 (inW rule r c)):=by
  match rule with
  | 0 =>
    show callP (level E (n+2)) 152 [enRD r,.int .i64 c] = _
    rw [p152]
    simp only [go_sem,Nat.reduceAdd,Nat.reduceSub,Nat.reduceMul,Nat.reduceDiv,Nat.reduceMod,Nat.reduceLeDiff,Nat.reduceLT,Nat.reduceBEq,Int.reduceToNat,Int.reduceLT,Int.reduceLE,Int.reduceEq,inW,ad,sb]
  | 1 =>
    show callP (level E (n+2)) 153 [enRD r,.int .i64 c] = _
    rw [p153]
    have m1:=okModulo n (sb c r.lo) r.ex h1
    simp only [sb] at m1
    simp only [go_sem,Nat.reduceAdd,Nat.reduceSub,Nat.reduceMul,Nat.reduceDiv,Nat.reduceMod,Nat.reduceLeDiff,Nat.reduceLT,Nat.reduceBEq,Int.reduceToNat,Int.reduceLT,Int.reduceLE,Int.reduceEq,inW,ad,sb,m1]
  | k + 2 =>
    show callP (level E (n+2)) 155 [enRD r,.int .i64 c] = _
    rw [p155]
    have m1:=okModulo n (sb c r.lo) (ml 2 r.ex) h2
    simp only [sb,ml] at m1
    simp only [go_sem,Nat.reduceAdd,Nat.reduceSub,Nat.reduceMul,Nat.reduceDiv,Nat.reduceMod,Nat.reduceLeDiff,Nat.reduceLT,Nat.reduceBEq,Int.reduceToNat,Int.reduceLT,Int.reduceLE,Int.reduceEq,inW,ad,sb,ml,m1]
theorem okMoved (n : Nat) (b c : Bool) (rule : Nat) (hr : rule < 3) (l : Bx) (p : List Int) (h3 : l.length ≤ 3) (hp : p.length = l.length) (inn : Rg → Int → Int) (H : ∀ r ∈ l,∀ c,callP (level E n) (bF rule) [enRD r,.int .i64 c] = some (.int .i64 (inn r c))) :
    callP (level E (n+1)) 82 [enB b l,.int .i64 rule,slD c 1 (p.map ic)] = some (enP ((List.zipWith inn l p ++ [0,0,0]).take 3)):=by
  rw [p82]
  rcases l with _ | ⟨r,_ | ⟨s,_ | ⟨t,_ | ⟨u,l⟩⟩⟩⟩
  · rcases p with _ | ⟨x,p⟩
    · simp only [go_sem,Nat.reduceAdd,Nat.reduceSub,Nat.reduceMul,Nat.reduceDiv,Nat.reduceMod,Nat.reduceLeDiff,Nat.reduceLT,Nat.reduceBEq,Int.reduceToNat,Int.reduceLT,Int.reduceLE,Int.reduceEq,rnd_eq,enP,List.zipWith_nil_left]
    · simp at hp
  · rcases p with _ | ⟨x,_ | ⟨w,p⟩⟩
    · simp at hp
    · have H0:=H r (by simp) x
      match rule,hr with
      | 0,_ =>
        simp only [bF,go_sem,Nat.reduceAdd,Nat.reduceSub,Nat.reduceMul,Nat.reduceDiv,Nat.reduceMod,Nat.reduceLeDiff,Nat.reduceLT,Nat.reduceBEq,Int.reduceToNat,Int.reduceLT,Int.reduceLE,Int.reduceEq] at H0
        simp only [go_sem,Nat.reduceAdd,Nat.reduceSub,Nat.reduceMul,Nat.reduceDiv,Nat.reduceMod,Nat.reduceLeDiff,Nat.reduceLT,Nat.reduceBEq,Int.reduceToNat,Int.reduceLT,Int.reduceLE,Int.reduceEq,rnd_eq,enP,List.zipWith_cons_cons,List.zipWith_nil_left,enB,slD_c,ia_sl,H0]
      | 1,_ =>
        simp only [bF,go_sem,Nat.reduceAdd,Nat.reduceSub,Nat.reduceMul,Nat.reduceDiv,Nat.reduceMod,Nat.reduceLeDiff,Nat.reduceLT,Nat.reduceBEq,Int.reduceToNat,Int.reduceLT,Int.reduceLE,Int.reduceEq] at H0
        simp only [go_sem,Nat.reduceAdd,Nat.reduceSub,Nat.reduceMul,Nat.reduceDiv,Nat.reduceMod,Nat.reduceLeDiff,Nat.reduceLT,Nat.reduceBEq,Int.reduceToNat,Int.reduceLT,Int.reduceLE,Int.reduceEq,rnd_eq,enP,List.zipWith_cons_cons,List.zipWith_nil_left,enB,slD_c,ia_sl,H0]
      | 2,_ =>
        simp only [bF,go_sem,Nat.reduceAdd,Nat.reduceSub,Nat.reduceMul,Nat.reduceDiv,Nat.reduceMod,Nat.reduceLeDiff,Nat.reduceLT,Nat.reduceBEq,Int.reduceToNat,Int.reduceLT,Int.reduceLE,Int.reduceEq] at H0
        simp only [go_sem,Nat.reduceAdd,Nat.reduceSub,Nat.reduceMul,Nat.reduceDiv,Nat.reduceMod,Nat.reduceLeDiff,Nat.reduceLT,Nat.reduceBEq,Int.reduceToNat,Int.reduceLT,Int.reduceLE,Int.reduceEq,rnd_eq,enP,List.zipWith_cons_cons,List.zipWith_nil_left,enB,slD_c,ia_sl,H0]
    · simp at hp
  · rcases p with _ | ⟨x,_ | ⟨y,_ | ⟨w,p⟩⟩⟩
    · simp at hp
    · simp at hp
    · have H0:=H r (by simp) x
      have H1:=H s (by simp) y
      match rule,hr with
      | 0,_ =>
        simp only [bF,go_sem,Nat.reduceAdd,Nat.reduceSub,Nat.reduceMul,Nat.reduceDiv,Nat.reduceMod,Nat.reduceLeDiff,Nat.reduceLT,Nat.reduceBEq,Int.reduceToNat,Int.reduceLT,Int.reduceLE,Int.reduceEq] at H0 H1
        simp only [go_sem,Nat.reduceAdd,Nat.reduceSub,Nat.reduceMul,Nat.reduceDiv,Nat.reduceMod,Nat.reduceLeDiff,Nat.reduceLT,Nat.reduceBEq,Int.reduceToNat,Int.reduceLT,Int.reduceLE,Int.reduceEq,rnd_eq,enP,List.zipWith_cons_cons,List.zipWith_nil_left,enB,slD_c,ia_sl,H0,H1]
      | 1,_ =>
        simp only [bF,go_sem,Nat.reduceAdd,Nat.reduceSub,Nat.reduceMul,Nat.reduceDiv,Nat.reduceMod,Nat.reduceLeDiff,Nat.reduceLT,Nat.reduceBEq,Int.reduceToNat,Int.reduceLT,Int.reduceLE,Int.reduceEq] at H0 H1
        simp only [go_sem,Nat.reduceAdd,Nat.reduceSub,Nat.reduceMul,Nat.reduceDiv,Nat.reduceMod,Nat.reduceLeDiff,Nat.reduceLT,Nat.reduceBEq,Int.reduceToNat,Int.reduceLT,Int.reduceLE,Int.reduceEq,rnd_eq,enP,List.zipWith_cons_cons,List.zipWith_nil_left,enB,slD_c,ia_sl,H0,H1]
      | 2,_ =>
        simp only [bF,go_sem,Nat.reduceAdd,Nat.reduceSub,Nat.reduceMul,Nat.reduceDiv,Nat.reduceMod,Nat.reduceLeDiff,Nat.reduceLT,Nat.reduceBEq,Int.reduceToNat,Int.reduceLT,Int.reduceLE,Int.reduceEq] at H0 H1
        simp only [go_sem,Nat.reduceAdd,Nat.reduceSub,Nat.reduceMul,Nat.reduceDiv,Nat.reduceMod,Nat.reduceLeDiff,Nat.reduceLT,Nat.reduceBEq,Int.reduceToNat,Int.reduceLT,Int.reduceLE,Int.reduceEq,rnd_eq,enP,List.zipWith_cons_cons,List.zipWith_nil_left,enB,slD_c,ia_sl,H0,H1]
    · simp at hp
  · rcases p with _ | ⟨x,_ | ⟨y,_ | ⟨z,_ | ⟨w,p⟩⟩⟩⟩
    · simp at hp
    · simp at hp
    · simp at hp
    · have H0:=H r (by simp) x
      have H1:=H s (by simp) y
      have H2:=H t (by simp) z
      match rule,hr with
      | 0,_ =>
        simp only [bF,go_sem,Nat.reduceAdd,Nat.reduceSub,Nat.reduceMul,Nat.reduceDiv,Nat.reduceMod,Nat.reduceLeDiff,Nat.reduceLT,Nat.reduceBEq,Int.reduceToNat,Int.reduceLT,Int.reduceLE,Int.reduceEq] at H0 H1 H2
        simp only [go_sem,Nat.reduceAdd,Nat.reduceSub,Nat.reduceMul,Nat.reduceDiv,Nat.reduceMod,Nat.reduceLeDiff,Nat.reduceLT,Nat.reduceBEq,Int.reduceToNat,Int.reduceLT,Int.reduceLE,Int.reduceEq,rnd_eq,enP,List.zipWith_cons_cons,List.zipWith_nil_left,enB,slD_c,ia_sl,H0,H1,H2]
      | 1,_ =>
        simp only [bF,go_sem,Nat.reduceAdd,Nat.reduceSub,Nat.reduceMul,Nat.reduceDiv,Nat.reduceMod,Nat.reduceLeDiff,Nat.reduceLT,Nat.reduceBEq,Int.reduceToNat,Int.reduceLT,Int.reduceLE,Int.reduceEq] at H0 H1 H2
        simp only [go_sem,Nat.reduceAdd,Nat.reduceSub,Nat.reduceMul,Nat.reduceDiv,Nat.reduceMod,Nat.reduceLeDiff,Nat.reduceLT,Nat.reduceBEq,Int.reduceToNat,Int.reduceLT,Int.reduceLE,Int.reduceEq,rnd_eq,enP,List.zipWith_cons_cons,List.zipWith_nil_left,enB,slD_c,ia_sl,H0,H1,H2]
      | 2,_ =>
        simp only [bF,go_sem,Nat.reduceAdd,Nat.reduceSub,Nat.reduceMul,Nat.reduceDiv,Nat.reduceMod,Nat.reduceLeDiff,Nat.reduceLT,Nat.reduceBEq,Int.reduceToNat,Int.reduceLT,Int.reduceLE,Int.reduceEq] at H0 H1 H2
        simp only [go_sem,Nat.reduceAdd,Nat.reduceSub,Nat.reduceMul,Nat.reduceDiv,Nat.reduceMod,Nat.reduceLeDiff,Nat.reduceLT,Nat.reduceBEq,Int.reduceToNat,Int.reduceLT,Int.reduceLE,Int.reduceEq,rnd_eq,enP,List.zipWith_cons_cons,List.zipWith_nil_left,enB,slD_c,ia_sl,H0,H1,H2]
    · simp at hp
  · simp at h3
theorem okEdge_1 (n : Nat) (x : Int) : callP (level E (n+2)) 79 [.int .i64 x] = some (.bool (!(decide (x ≥ -1048576) && decide (x ≤ 1048576)))):=by
  rw [p79]
  have h1:=okWithin n x (-1048576) 1048576
  simp only [go_sem,Nat.reduceAdd,Nat.reduceSub,Nat.reduceMul,Nat.reduceDiv,Nat.reduceMod,Nat.reduceLeDiff,Nat.reduceLT,Nat.reduceBEq,Int.reduceToNat,Int.reduceLT,Int.reduceLE,Int.reduceEq,h1]
def farB (x : Int) : Bool:=!(decide (x ≥ -1048576) && decide (x ≤ 1048576))
theorem okEdgeS (n : Nat) (m : Im) (c : Bool) (p : List Int) (rule : Nat) (hr : rule < 3) (ko vo : Int) (h1 : callP (level E (n+9)) 50 [enIm m] = some (.int .i64 0)) (hm : ckBox m.bx = 0) (hs : m.st.length = m.bx.length) (hp : p.length = m.bx.length) (hf : p.any farB = false) (hmn : many m.bx ≠ 0) (hx : ∀ r ∈ m.bx,r.ex ≠ 0 ∧ ml 2 r.ex ≠ 0)
    (k : Nat) (v : Int) (he : elt m.bx ((List.zipWith (inW rule) m.bx p ++ [0,0,0]).take 3) m.st 0 = k) (hv : m.dt[k]? = some v) :
    callP (level E (n+10)) 19 [enIm m,.int .i64 rule,slD c 1 (p.map ic),.agg [.int .i64 ko,.int .u64 vo]] = some (.tup [.agg [.int .i64 m.kd,.int .u64 v],.int .i64 0]):=by
  obtain ⟨_,r2,_,_⟩:=ckBox0 hm
  rw [p19]
  have f1:=okFirstL (n+8) [[.int .i64 0],[.int .i64 0],[.int .i64 0]] [0,0,0] rfl (by simp)
  simp only [fnz,if_true] at f1
  have w1:=okWhen (n+8) false 11
  have w2:=okWhen (n+8) false 13
  have i1:=okWithin (n+8) rule 0 3
  have g1 : decide ((rule : Int) ≥ 0) = true:=by simp
  have g2 : decide ((rule : Int) ≤ 3) = true:=by simp; omega
  rw [g1,g2] at i1
  have c1:=okContains (n+7) c p 79 farB (by omega) (fun x _ => okEdge_1 (n+5) x)
  rw [hf] at c1
  have m1:=okMany (n+8) m.bb m.bx (by omega)
  have mv:=okMoved (n+8) m.bb c rule hr m.bx p r2 hp (inW rule) (fun r hr' x => okBound (n+6) rule r x (hx r hr').1 (hx r hr').2)
  have v1:=okViewAt (n+7) m ((List.zipWith (inW rule) m.bx p ++ [0,0,0]).take 3) k v (by simp) r2 (by omega) he hv
  have hr3 : ¬ (rule : Int) = 3:=by omega
  simp only [enIm] at h1 v1
  obtain ⟨x,y,z,hq⟩ : ∃ x y z,(List.zipWith (inW rule) m.bx p ++ [0,0,0]).take 3 = [x,y,z]:=by
    match hh : (List.zipWith (inW rule) m.bx p ++ [0,0,0]).take 3,(show ((List.zipWith (inW rule) m.bx p ++ [0,0,0]).take 3).length = 3 from by simp) with
    | [x,y,z],_ => exact ⟨x,y,z,rfl⟩
  rw [hq] at mv v1
  simp only [enP,List.map_cons,List.map_nil] at mv v1
  simp only [go_sem,Nat.reduceAdd,Nat.reduceSub,Nat.reduceMul,Nat.reduceDiv,Nat.reduceMod,Nat.reduceLeDiff,Nat.reduceLT,Nat.reduceBEq,Int.reduceToNat,Int.reduceLT,Int.reduceLE,Int.reduceEq,enIm,h1,f1,w1,w2,i1,c1,hp,m1,hmn,hr3,mv,v1,ne_eq,not_true_eq_false]
end Go.Vm.P4Z

/- Chapter 04,functions: the bytes of an image. -/
set_option maxRecDepth 100000
set_option maxHeartbeats 4000000
namespace Go.Vm.P4Z
open Go Go.Vm Go.Vm.P4
def u8 (b : Int) : List D:=[.int .u8 b]
attribute [go_sem] u8
def leB : Nat → Int → List Int
  | 0,_ => []
  | k + 1,v => wrp .u8 v :: leB k (v.fdiv 256)
theorem p256 : (2 : Int) ^ min (8 : Int).toNat IntKind.u64.bits = 256:=by decide
theorem sh8 (v : Int) : aBin .shr (.imm (.int .u64 v)) (.imm (.int .u64 8)) = some (.imm (.int .u64 (v.fdiv 256))):=by
  rw [bin_shr (by decide),p256]
theorem okLittle1 (n : Nat) (es : List (List D)) (v : Int) (h : es.length < 1000000) : callS (level E (n+1)) 112 [.ref 0 1 0 es.length,.imm (.int .u64 v),.imm (.int .i64 1)] [.arr 1 es] = some (.ref 1 1 0 (es.length + 1),[.dead,.arr 1 (es ++ (leB 1 v).map u8)]):=by
  rw [s112]
  have e1 : (es.length + 1) * 2 ≤ 70368744177664:=by omega
  simp only [go_sem,Nat.reduceAdd,Nat.reduceSub,Nat.reduceMul,Nat.reduceDiv,Nat.reduceMod,Nat.reduceLeDiff,Nat.reduceLT,Nat.reduceBEq,Int.reduceToNat,Int.reduceLT,Int.reduceLE,Int.reduceEq,rnd_eq,e1,leB,sh8,List.append_assoc]
theorem okLittle2 (n : Nat) (es : List (List D)) (v : Int) (h : es.length < 1000000) : callS (level E (n+1)) 112 [.ref 0 1 0 es.length,.imm (.int .u64 v),.imm (.int .i64 2)] [.arr 1 es] = some (.ref 1 1 0 (es.length + 2),[.dead,.arr 1 (es ++ (leB 2 v).map u8)]):=by
  rw [s112]
  have e1 : (es.length + 1) * 2 ≤ 70368744177664:=by omega
  have e2 : (es.length + 2) * 2 ≤ 70368744177664:=by omega
  simp only [go_sem,Nat.reduceAdd,Nat.reduceSub,Nat.reduceMul,Nat.reduceDiv,Nat.reduceMod,Nat.reduceLeDiff,Nat.reduceLT,Nat.reduceBEq,Int.reduceToNat,Int.reduceLT,Int.reduceLE,Int.reduceEq,rnd_eq,e1,e2,leB,sh8,List.append_assoc]
theorem okLittle4 (n : Nat) (es : List (List D)) (v : Int) (h : es.length < 1000000) : callS (level E (n+1)) 112 [.ref 0 1 0 es.length,.imm (.int .u64 v),.imm (.int .i64 4)] [.arr 1 es] = some (.ref 1 1 0 (es.length + 4),[.dead,.arr 1 (es ++ (leB 4 v).map u8)]):=by
  rw [s112]
  have e1 : (es.length + 1) * 2 ≤ 70368744177664:=by omega
  have e2 : (es.length + 2) * 2 ≤ 70368744177664:=by omega
  have e3 : (es.length + 3) * 2 ≤ 70368744177664:=by omega
  have e4 : (es.length + 4) * 2 ≤ 70368744177664:=by omega
  simp only [go_sem,Nat.reduceAdd,Nat.reduceSub,Nat.reduceMul,Nat.reduceDiv,Nat.reduceMod,Nat.reduceLeDiff,Nat.reduceLT,Nat.reduceBEq,Int.reduceToNat,Int.reduceLT,Int.reduceLE,Int.reduceEq,rnd_eq,e1,e2,e3,e4,leB,sh8,List.append_assoc]
end Go.Vm.P4Z

/- Chapter 04,functions: the bytes of an image,continued. -/
set_option maxRecDepth 100000
set_option maxHeartbeats 4000000
namespace Go.Vm.P4Z
open Go Go.Vm Go.Vm.P4
def cellsIm (m : Im) : List D:=[.int .i64 m.kd,enB m.bb m.bx,slD m.tb 1 (m.st.map ic),slD m.db 1 (m.dt.map ub)]
def rgB (r : Rg) : List Int:=leB 4 (wrp .u64 r.lo) ++ leB 2 (wrp .u64 r.ex)
theorem rgB_len (r : Rg) : (rgB r).length = 6:=rfl
theorem byLoop (n : Nat) (m : Im) (h3 : m.bx.length ≤ 3) (acc : List (List D)) (ha : acc.length = 2) :
    outC ⟨0,false⟩ [0,1,1,1,0,0,0,0,0,0,0,0,0] (rnd (aCode (level E (n+1)) ⟨0,false⟩ b61_0) (head ⟨0,false⟩ [0,1,1,1,0,0,1,1,1,0,0,0,0])
      ⟨[.junk,.imm .nil,.imm (.ptr (cellsIm m)),.ptr 0 0,.junk,.junk,.imm (slD m.bb 2 (m.bx.map enR)),.imm (.int .i64 m.bx.length),.imm (.int .i64 0),.junk,.junk,.junk,.junk],[.box [.ref 1 1 0 acc.length],.arr 1 acc],none⟩) =
    some (.exit 0,⟨[.junk,.imm .nil,.imm (.ptr (cellsIm m)),.ptr 0 0,.junk,.junk,.junk,.junk,.junk,.junk,.junk,.junk,.junk],[.box [.ref 1 1 0 (acc ++ (m.bx.flatMap rgB).map u8).length],.arr 1 (acc ++ (m.bx.flatMap rgB).map u8)],none⟩):=by
  have h:=loop_fold (f:=aCode (level E (n+1)) ⟨0,false⟩ b61_0) (h:=head ⟨0,false⟩ [0,1,1,1,0,0,1,1,1,0,0,0,0]) (Φ:=outC ⟨0,false⟩ [0,1,1,1,0,0,0,0,0,0,0,0,0]) m.bx (fun (a : List (List D)) i => ⟨[.junk,.imm .nil,.imm (.ptr (cellsIm m)),.ptr 0 0,.junk,.junk,.imm (slD m.bb 2 (m.bx.map enR)),.imm (.int .i64 m.bx.length),.imm (.int .i64 i),.junk,.junk,.junk,.junk],[.box [.ref 1 1 0 a.length],.arr 1 a],none⟩) (fun a i => a.length = 2 + 6 * i)
    (fun a r => a ++ (rgB r).map u8) (fun a => some (.exit 0,⟨[.junk,.imm .nil,.imm (.ptr (cellsIm m)),.ptr 0 0,.junk,.junk,.junk,.junk,.junk,.junk,.junk,.junk,.junk],[.box [.ref 1 1 0 a.length],.arr 1 a],none⟩)) acc ha
    (fun a i r hI h2 h1 => by
      refine ⟨?_,by simp [hI,rgB_len]; omega⟩
      rw [rnd_eq]
      have l4:=okLittle4 n a (wrp .u64 r.lo) (by omega)
      have l2:=okLittle2 n (a ++ (leB 4 (wrp .u64 r.lo)).map u8) (wrp .u64 r.ex) (by simp [leB]; omega)
      simp only [go_sem,Nat.reduceAdd,Nat.reduceSub,Nat.reduceMul,Nat.reduceDiv,Nat.reduceMod,Nat.reduceLeDiff,Nat.reduceLT,Nat.reduceBEq,Int.reduceToNat,Int.reduceLT,Int.reduceLE,Int.reduceEq,leB] at l4 l2
      simp only [go_sem,Nat.reduceAdd,Nat.reduceSub,Nat.reduceMul,Nat.reduceDiv,Nat.reduceMod,Nat.reduceLeDiff,Nat.reduceLT,Nat.reduceBEq,Int.reduceToNat,Int.reduceLT,Int.reduceLE,Int.reduceEq,lt_t h2,h1,cellsIm,l4,l2,rgB,leB]
      rw [wrpS (by omega)]
      simp only [List.append_assoc,List.cons_append,List.nil_append])
    (fun a _ => by
      rw [rnd_eq]
      simp only [go_sem,Nat.reduceAdd,Nat.reduceSub,Nat.reduceMul,Nat.reduceDiv,Nat.reduceMod,Nat.reduceLeDiff,Nat.reduceLT,Nat.reduceBEq,Int.reduceToNat,Int.reduceLT,Int.reduceLE,Int.reduceEq,lt_f (Nat.le_refl _),cellsIm])
  rw [cast_0] at h
  rw [h]
  have e : ∀ (l : Bx) (acc : List (List D)),l.foldl (fun a r => a ++ (rgB r).map u8) acc = acc ++ (l.flatMap rgB).map u8:=by
    intro l
    induction l with
    | nil => intro acc; simp
    | cons x l ih => intro acc; rw [List.foldl_cons,ih]; simp
  rw [e]
def ByV (m : Im) : List AV:=[.junk,.imm .nil,.imm (.ptr (cellsIm m)),.ptr 0 0,.junk,.junk,.junk,.junk,.junk,.junk,.imm (.fn 125 [] [.ptr [enB m.bb m.bx]]),.junk,.junk]
def BySt (m : Im) (acc : List (List D)) : Ext:=⟨[11,12],b61_1,b61_2,ByV m,[.box [.ref 1 1 0 acc.length],.arr 1 acc],0,none⟩
theorem byRound1 (n : Nat) (m : Im) (acc : List (List D)) (i : Nat) (v : Int) (ha : acc.length < 1000000) (hv : callP (level E (n+1)) 84 [enIm m,enP (plc m.bx i)] = some (.int .u64 v)) (hz : callP (level E (n+1)) 71 [.int .i64 m.kd] = some (.int .i64 1)) :
    (level E (n+2)).round (BySt m acc) [.int .i64 (i : Int),enP (plc m.bx i)] = some (BySt m (acc ++ (leB 1 v).map u8),true):=by
  obtain ⟨x,y,z,hp⟩ : ∃ x y z,plc m.bx i = [x,y,z]:=by
    match hh : plc m.bx i,plc_len m.bx i with
    | [x,y,z],_ => exact ⟨x,y,z,rfl⟩
  rw [hp] at hv ⊢
  have l1:=okLittle1 n acc v ha
  simp only [go_sem,Nat.reduceAdd,Nat.reduceSub,Nat.reduceMul,Nat.reduceDiv,Nat.reduceMod,Nat.reduceLeDiff,Nat.reduceLT,Nat.reduceBEq,Int.reduceToNat,Int.reduceLT,Int.reduceLE,Int.reduceEq,leB] at l1
  simp only [enIm,enP,List.map_cons,List.map_nil] at hv
  unfold BySt
  rw [round_go rfl]
  simp only [go_sem,Nat.reduceAdd,Nat.reduceSub,Nat.reduceMul,Nat.reduceDiv,Nat.reduceMod,Nat.reduceLeDiff,Nat.reduceLT,Nat.reduceBEq,Int.reduceToNat,Int.reduceLT,Int.reduceLE,Int.reduceEq,ByV,cellsIm,enP,hv,hz,l1,leB,enIm]
  done
end Go.Vm.P4Z

/- Chapter 04,functions: Encode (elements of a byte). -/
set_option maxRecDepth 100000
set_option maxHeartbeats 4000000
namespace Go.Vm.P4Z
open Go Go.Vm Go.Vm.P4
theorem okWidth8 (n : Nat) : callP (level E (n+2)) 117 [.int .i64 1] = some (.tup [.int .i64 8,.int .i64 0]):=by
  rw [p117]
  have h1:=okIsKind n 1
  simp only [go_sem,Nat.reduceAdd,Nat.reduceSub,Nat.reduceMul,Nat.reduceDiv,Nat.reduceMod,Nat.reduceLeDiff,Nat.reduceLT,Nat.reduceBEq,Int.reduceToNat,Int.reduceLT,Int.reduceLE,Int.reduceEq] at h1
  simp only [go_sem,Nat.reduceAdd,Nat.reduceSub,Nat.reduceMul,Nat.reduceDiv,Nat.reduceMod,Nat.reduceLeDiff,Nat.reduceLT,Nat.reduceBEq,Int.reduceToNat,Int.reduceLT,Int.reduceLE,Int.reduceEq,h1]
theorem okSize8 (n : Nat) : callP (level E (n+3)) 71 [.int .i64 1] = some (.int .i64 1):=by
  rw [p71]
  have h1:=okWidth8 n
  have w8 : wrp .i64 (8 * 1) = 8:=by decide
  simp only [go_sem,Nat.reduceAdd,Nat.reduceSub,Nat.reduceMul,Nat.reduceDiv,Nat.reduceMod,Nat.reduceLeDiff,Nat.reduceLT,Nat.reduceBEq,Int.reduceToNat,Int.reduceLT,Int.reduceLE,Int.reduceEq,h1,rnd_eq,w8]
def byIm1 (m : Im) (N : Nat) (F : List Int → Int) : List Int:=[wrp .u8 m.kd,wrp .u8 m.bx.length] ++ m.bx.flatMap rgB ++ (List.range N).flatMap (fun i => leB 1 (F (plc m.bx i)))
theorem fold_app {α β : Type} (f : α → List β) : ∀ (l : List α) (acc : List β),l.foldl (fun a x => a ++ f x) acc = acc ++ l.flatMap f
  | [],acc => by simp
  | x :: l,acc => by simp only [List.foldl_cons,fold_app f l,List.flatMap_cons,List.append_assoc]
theorem okBytes1 (n : Nat) (m : Im) (h1 : m.bx.length ≤ 3) (hs : m.bx.length ≤ m.st.length) (hk : m.kd = 1) (N : Nat) (hN : many m.bx = N) (hN2 : N < 100000) (F : List Int → Int) (hF : Lies m m.bx N F) :
    callP (level E (n+8)) 61 [enIm m] = some (.sl 1 ((byIm1 m N F).map u8)):=by
  rw [p61]
  have b1:=byLoop (n+6) m h1 [[.int .u8 (wrp .u8 m.kd)],[.int .u8 (wrp .u8 m.bx.length)]] rfl
  have a1:=okAll (n+6) m.bb m.bx
  have h:=okAll1 (n+5) m.bb m.bx h1 N hN (by omega) (BySt m) (fun a i => a.length = 2 + 6 * m.bx.length + i) (fun a i => .inl (a ++ (leB 1 (F (plc m.bx i))).map u8)) ([[.int .u8 (wrp .u8 m.kd)],[.int .u8 (wrp .u8 m.bx.length)]] ++ (m.bx.flatMap rgB).map u8)
    (by
      have e : ∀ l : Bx,(l.flatMap rgB).length = 6 * l.length:=by
        intro l
        induction l with
        | nil => rfl
        | cons x l ih => rw [List.flatMap_cons,List.length_append,ih,rgB_len,List.length_cons]; omega
      simp [e]; omega)
    (fun a i hI hi => ⟨by
      obtain ⟨k,q1,q2⟩:=hF i hi
      exact byRound1 (n+4) m a i (F (plc m.bx i)) (by omega) (okViewAt (n+3) m (plc m.bx i) k _ (plc_len _ _) h1 hs q1 q2) (by rw [hk]; exact okSize8 (n+2)),fun a' ha => by injection ha with ha; subst ha; simp [hI,leB]; omega⟩)
  rw [runL_fold,fold_app] at h
  simp only [go_sem,Nat.reduceAdd,Nat.reduceSub,Nat.reduceMul,Nat.reduceDiv,Nat.reduceMod,Nat.reduceLeDiff,Nat.reduceLT,Nat.reduceBEq,Int.reduceToNat,Int.reduceLT,Int.reduceLE,Int.reduceEq,cellsIm] at b1
  simp only [go_sem,Nat.reduceAdd,Nat.reduceSub,Nat.reduceMul,Nat.reduceDiv,Nat.reduceMod,Nat.reduceLeDiff,Nat.reduceLT,Nat.reduceBEq,Int.reduceToNat,Int.reduceLT,Int.reduceLE,Int.reduceEq,enIm,b1,a1]
  simp only [go_sem,Nat.reduceAdd,Nat.reduceSub,Nat.reduceMul,Nat.reduceDiv,Nat.reduceMod,Nat.reduceLeDiff,Nat.reduceLT,Nat.reduceBEq,Int.reduceToNat,Int.reduceLT,Int.reduceLE,Int.reduceEq,BySt,ByV,cellsIm] at h
  rw [h]
  simp only [go_sem,Nat.reduceAdd,Nat.reduceSub,Nat.reduceMul,Nat.reduceDiv,Nat.reduceMod,Nat.reduceLeDiff,Nat.reduceLT,Nat.reduceBEq,Int.reduceToNat,Int.reduceLT,Int.reduceLE,Int.reduceEq]
  simp [byIm1,List.map_flatMap,u8]
theorem okEncode1 (n : Nat) (m : Im) (hc : callP (level E (n+9)) 50 [enIm m] = some (.int .i64 0)) (h1 : m.bx.length ≤ 3) (hs : m.bx.length ≤ m.st.length) (hk : m.kd = 1) (N : Nat) (hN : many m.bx = N) (hN2 : N < 100000) (F : List Int → Int) (hF : Lies m m.bx N F) :
    callP (level E (n+10)) 9 [enIm m] = some (.tup [.sl 1 ((byIm1 m N F).map u8),.int .i64 0]):=by
  rw [p9]
  have b1:=okBytes1 (n+1) m h1 hs hk N hN hN2 F hF
  simp only [enIm] at hc b1
  simp only [go_sem,Nat.reduceAdd,Nat.reduceSub,Nat.reduceMul,Nat.reduceDiv,Nat.reduceMod,Nat.reduceLeDiff,Nat.reduceLT,Nat.reduceBEq,Int.reduceToNat,Int.reduceLT,Int.reduceLE,Int.reduceEq,enIm,hc,b1,ne_eq,not_true_eq_false]
theorem okSameInts (n : Nat) (b c : Bool) (l : List Int) (hl : l.length < 1000000000) : callP (level E (n+1)) 58 [slD b 1 (l.map ic),slD c 1 (l.map ic)] = some (.bool true):=by
  rw [p58]
  simp only [go_sem,Nat.reduceAdd,Nat.reduceSub,Nat.reduceMul,Nat.reduceDiv,Nat.reduceMod,Nat.reduceLeDiff,Nat.reduceLT,Nat.reduceBEq,Int.reduceToNat,Int.reduceLT,Int.reduceLE,Int.reduceEq,ne_eq,not_true_eq_false]
  have h:=loop_fold (f:=aCode (level E (n)) ⟨0,false⟩ b58_0) (h:=head ⟨0,false⟩ [1,1,0,1,0,0,0]) (Φ:=outC ⟨0,false⟩ [0,0,1,0,0,0,0]) l (fun (a : Unit) i => ⟨[.imm (slD b 1 (l.map ic)),.imm (slD c 1 (l.map ic)),.junk,.imm (.int .i64 i),.junk,.junk,.junk],[],none⟩) (fun _ _ => True)
    (fun a x => ()) (fun a => some (.exit 0,⟨[.junk,.junk,.junk,.junk,.junk,.junk,.junk],[],none⟩)) () trivial
    (fun a i x hI h2 h1 => by
      refine ⟨?_,trivial⟩
      rw [rnd_eq]
      simp only [go_sem,Nat.reduceAdd,Nat.reduceSub,Nat.reduceMul,Nat.reduceDiv,Nat.reduceMod,Nat.reduceLeDiff,Nat.reduceLT,Nat.reduceBEq,Int.reduceToNat,Int.reduceLT,Int.reduceLE,Int.reduceEq,lt_t h2,h1,ne_eq,not_true_eq_false]
      rw [wrpS (by omega)])
    (fun a _ => by
      rw [rnd_eq]
      simp only [go_sem,Nat.reduceAdd,Nat.reduceSub,Nat.reduceMul,Nat.reduceDiv,Nat.reduceMod,Nat.reduceLeDiff,Nat.reduceLT,Nat.reduceBEq,Int.reduceToNat,Int.reduceLT,Int.reduceLE,Int.reduceEq,lt_f (Nat.le_refl _)])
  rw [cast_0] at h
  rw [h]
  simp only [go_sem,Nat.reduceAdd,Nat.reduceSub,Nat.reduceMul,Nat.reduceDiv,Nat.reduceMod,Nat.reduceLeDiff,Nat.reduceLT,Nat.reduceBEq,Int.reduceToNat,Int.reduceLT,Int.reduceLE,Int.reduceEq]
theorem okSameBits (n : Nat) (b c : Bool) (l : List Int) (hl : l.length < 1000000000) : callP (level E (n+1)) 60 [slD b 1 (l.map ub),slD c 1 (l.map ub)] = some (.bool true):=by
  rw [p60]
  simp only [go_sem,Nat.reduceAdd,Nat.reduceSub,Nat.reduceMul,Nat.reduceDiv,Nat.reduceMod,Nat.reduceLeDiff,Nat.reduceLT,Nat.reduceBEq,Int.reduceToNat,Int.reduceLT,Int.reduceLE,Int.reduceEq,ne_eq,not_true_eq_false]
  have h:=loop_fold (f:=aCode (level E (n)) ⟨0,false⟩ b60_0) (h:=head ⟨0,false⟩ [1,1,0,1,0,0,0]) (Φ:=outC ⟨0,false⟩ [0,0,1,0,0,0,0]) l (fun (a : Unit) i => ⟨[.imm (slD b 1 (l.map ub)),.imm (slD c 1 (l.map ub)),.junk,.imm (.int .i64 i),.junk,.junk,.junk],[],none⟩) (fun _ _ => True)
    (fun a x => ()) (fun a => some (.exit 0,⟨[.junk,.junk,.junk,.junk,.junk,.junk,.junk],[],none⟩)) () trivial
    (fun a i x hI h2 h1 => by
      refine ⟨?_,trivial⟩
      rw [rnd_eq]
      simp only [go_sem,Nat.reduceAdd,Nat.reduceSub,Nat.reduceMul,Nat.reduceDiv,Nat.reduceMod,Nat.reduceLeDiff,Nat.reduceLT,Nat.reduceBEq,Int.reduceToNat,Int.reduceLT,Int.reduceLE,Int.reduceEq,lt_t h2,h1,ne_eq,not_true_eq_false]
      rw [wrpS (by omega)])
    (fun a _ => by
      rw [rnd_eq]
      simp only [go_sem,Nat.reduceAdd,Nat.reduceSub,Nat.reduceMul,Nat.reduceDiv,Nat.reduceMod,Nat.reduceLeDiff,Nat.reduceLT,Nat.reduceBEq,Int.reduceToNat,Int.reduceLT,Int.reduceLE,Int.reduceEq,lt_f (Nat.le_refl _)])
  rw [cast_0] at h
  rw [h]
  simp only [go_sem,Nat.reduceAdd,Nat.reduceSub,Nat.reduceMul,Nat.reduceDiv,Nat.reduceMod,Nat.reduceLeDiff,Nat.reduceLT,Nat.reduceBEq,Int.reduceToNat,Int.reduceLT,Int.reduceLE,Int.reduceEq]
theorem okSameBytes (n : Nat) (b c : Bool) (l : List Int) (hl : l.length < 1000000000) : callP (level E (n+1)) 17 [slD b 1 (l.map u8),slD c 1 (l.map u8)] = some (.bool true):=by
  rw [p17]
  simp only [go_sem,Nat.reduceAdd,Nat.reduceSub,Nat.reduceMul,Nat.reduceDiv,Nat.reduceMod,Nat.reduceLeDiff,Nat.reduceLT,Nat.reduceBEq,Int.reduceToNat,Int.reduceLT,Int.reduceLE,Int.reduceEq,ne_eq,not_true_eq_false]
  have h:=loop_fold (f:=aCode (level E (n)) ⟨0,false⟩ b17_0) (h:=head ⟨0,false⟩ [1,1,0,1,0,0,0]) (Φ:=outC ⟨0,false⟩ [0,0,1,0,0,0,0]) l (fun (a : Unit) i => ⟨[.imm (slD b 1 (l.map u8)),.imm (slD c 1 (l.map u8)),.junk,.imm (.int .i64 i),.junk,.junk,.junk],[],none⟩) (fun _ _ => True)
    (fun a x => ()) (fun a => some (.exit 0,⟨[.junk,.junk,.junk,.junk,.junk,.junk,.junk],[],none⟩)) () trivial
    (fun a i x hI h2 h1 => by
      refine ⟨?_,trivial⟩
      rw [rnd_eq]
      simp only [go_sem,Nat.reduceAdd,Nat.reduceSub,Nat.reduceMul,Nat.reduceDiv,Nat.reduceMod,Nat.reduceLeDiff,Nat.reduceLT,Nat.reduceBEq,Int.reduceToNat,Int.reduceLT,Int.reduceLE,Int.reduceEq,lt_t h2,h1,ne_eq,not_true_eq_false]
      rw [wrpS (by omega)])
    (fun a _ => by
      rw [rnd_eq]
      simp only [go_sem,Nat.reduceAdd,Nat.reduceSub,Nat.reduceMul,Nat.reduceDiv,Nat.reduceMod,Nat.reduceLeDiff,Nat.reduceLT,Nat.reduceBEq,Int.reduceToNat,Int.reduceLT,Int.reduceLE,Int.reduceEq,lt_f (Nat.le_refl _)])
  rw [cast_0] at h
  rw [h]
  simp only [go_sem,Nat.reduceAdd,Nat.reduceSub,Nat.reduceMul,Nat.reduceDiv,Nat.reduceMod,Nat.reduceLeDiff,Nat.reduceLT,Nat.reduceBEq,Int.reduceToNat,Int.reduceLT,Int.reduceLE,Int.reduceEq]
end Go.Vm.P4Z

/- Chapter 04,functions: the document's examples. -/
set_option maxRecDepth 100000
set_option maxHeartbeats 8000000
namespace Go.Vm.P4Z
open Go Go.Vm Go.Vm.P4
def bx0 : Bx:=[⟨2,3⟩,⟨0,2⟩]
def ot0 : Bx:=[⟨3,2⟩,⟨1,5⟩]
def m0 : Im:=⟨1,false,bx0,false,[1,3],false,[10,20,30,40,50,60]⟩
def m1 : Im:=⟨1,false,bx0,false,[2,6],false,[0,0,0,0,0,0,0,0,0,0,0,0]⟩
def m2 : Im:=⟨1,false,bx0,false,[1,2],false,[0,0,0,0,0,0,0,0,0,0,0,0]⟩
theorem bits8_all : bits8 0 ∧ bits8 10 ∧ bits8 20 ∧ bits8 30 ∧ bits8 40 ∧ bits8 50 ∧ bits8 60:=by
  unfold bits8
  decide
theorem ck_m0 : ckIm (fun _ => 0) m0 = 0:=by decide
theorem ck_m1 : ckIm (fun _ => 0) m1 = 0:=by decide
theorem ck_m2 : ckIm (fun _ => 0) m2 = 26:=by decide
theorem b8_m0 : ∀ v ∈ m0.dt,bits8 v:=by
  obtain ⟨h0,h1,h2,h3,h4,h5,h6⟩:=bits8_all
  intro v hv
  simp only [m0,List.mem_cons,List.not_mem_nil,or_false] at hv
  rcases hv with rfl | rfl | rfl | rfl | rfl | rfl <;> assumption
theorem chk0 (n : Nat) : callP (level E (n+9)) 50 [enIm m0] = some (.int .i64 0):=by
  have h:=okCheck n m0 (fun _ => 0) (by decide) (by decide) (by decide) (fun v hv => okCheck8 (n+1) v (b8_m0 v hv))
  rw [ck_m0] at h
  exact h
theorem chk1 (n : Nat) : callP (level E (n+9)) 50 [enIm m1] = some (.int .i64 0):=by
  have h:=okCheck n m1 (fun _ => 0) (by decide) (by decide) (by decide) (fun v hv => okCheck8 (n+1) v (by
    have : v = 0:=by simpa [m1] using hv
    rw [this]; exact bits8_all.1))
  rw [ck_m1] at h
  exact h
theorem chk2 (n : Nat) : callP (level E (n+9)) 50 [enIm m2] = some (.int .i64 26):=by
  have h:=okCheck n m2 (fun _ => 0) (by decide) (by decide) (by decide) (fun v hv => okCheck8 (n+1) v (by
    have : v = 0:=by simpa [m2] using hv
    rw [this]; exact bits8_all.1))
  rw [ck_m2] at h
  exact h
theorem ckb0 : ckBox bx0 = 0:=by decide
theorem aw_at (n : Nat) : callP (level E (n+11)) 39 [enIm m0,slD false 1 ([3,1].map ic)] = some (.tup [.agg [.int .i64 1,.int .u64 50],.int .i64 0]):=by
  have h:=okCheckAt n m0 false [3,1] (fun _ => 0) (by decide) (by decide) (by decide) (fun v hv => okCheck8 (n+1) v (b8_m0 v hv))
  rw [show ckAt (fun _ => 0) m0 [3,1] = 0 from by decide] at h
  exact okAtS n m0 false [3,1] h (by decide) (by decide) (by decide) 4 50 (by decide) (by decide)
def fSl (p : List Int) : Int:=if p.headD 0 = 0 then 20 else 50
theorem aw_slice (n : Nat) : callP (level E (n+10)) 27 [enIm m0,.int .i64 0,.int .i64 3] = some (.tup [enIm (mkIm 1 [⟨0,2⟩] 2 fSl),.int .i64 0]):=by
  refine okSlice2 n m0 ⟨2,3⟩ ⟨0,2⟩ rfl 3 (chk0 n) rfl ckb0 (by decide) (by decide) 2 (by decide) (by decide) fSl (fun i hi => ?_)
  match i,hi with
  | 0,_ => exact ⟨0,0,0,1,by decide,by decide,by decide⟩
  | 1,_ => exact ⟨1,0,0,4,by decide,by decide,by decide⟩
def fTr (p : List Int) : Int:=10 + 30 * p.headD 0 + 10 * ((p.tail).headD 0 - 2)
theorem aw_trans (n : Nat) : callP (level E (n+10)) 28 [enIm m0,.int .i64 0,.int .i64 1] = some (.tup [enIm (mkIm 1 [⟨0,2⟩,⟨2,3⟩] 6 fTr),.int .i64 0]):=by
  refine okTranspose2 n m0 ⟨2,3⟩ ⟨0,2⟩ rfl (chk0 n) rfl 6 (by decide) (by decide) fTr (fun i hi => ?_)
  match i,hi with
  | 0,_ => exact ⟨0,2,0,0,by decide,by decide,by decide⟩
  | 1,_ => exact ⟨1,2,0,3,by decide,by decide,by decide⟩
  | 2,_ => exact ⟨0,3,0,1,by decide,by decide,by decide⟩
  | 3,_ => exact ⟨1,3,0,4,by decide,by decide,by decide⟩
  | 4,_ => exact ⟨0,4,0,2,by decide,by decide,by decide⟩
  | 5,_ => exact ⟨1,4,0,5,by decide,by decide,by decide⟩
def fCr (p : List Int) : Int:=50 + 10 * (p.headD 0 - 3)
theorem aw_crop (n : Nat) : callP (level E (n+10)) 25 [enIm m0,enB false [⟨3,2⟩,⟨1,1⟩]] = some (.tup [enIm (mkIm 1 [⟨3,2⟩,⟨1,1⟩] 2 fCr),.int .i64 0]):=by
  refine okCropS n m0 false [⟨3,2⟩,⟨1,1⟩] (chk0 n) ckb0 rfl (by decide) rfl (by rfl) 2 (by decide) fCr (fun i hi => ?_)
  match i,hi with
  | 0,_ => exact ⟨4,by decide,by decide⟩
  | 1,_ => exact ⟨5,by decide,by decide⟩
theorem aw_edge (n : Nat) (rule : Nat) (hr : rule < 3) : callP (level E (n+10)) 19 [enIm m0,.int .i64 rule,slD false 1 ([0,5].map ic),.agg [.int .i64 0,.int .u64 0]] = some (.tup [.agg [.int .i64 1,.int .u64 ([40,50,50].getD rule 0)],.int .i64 0]):=by
  have hx : ∀ r ∈ m0.bx,r.ex ≠ 0 ∧ ml 2 r.ex ≠ 0:=by
    intro r hr
    simp only [m0,bx0,List.mem_cons,List.not_mem_nil,or_false] at hr
    rcases hr with rfl | rfl <;> decide
  match rule,hr with
  | 0,hr => exact okEdgeS n m0 false [0,5] 0 hr 0 0 (chk0 n) ckb0 rfl rfl (by decide) (by decide) hx 3 40 (by decide) (by decide)
  | 1,hr => exact okEdgeS n m0 false [0,5] 1 hr 0 0 (chk0 n) ckb0 rfl rfl (by decide) (by decide) hx 4 50 (by decide) (by decide)
  | 2,hr => exact okEdgeS n m0 false [0,5] 2 hr 0 0 (chk0 n) ckb0 rfl rfl (by decide) (by decide) hx 4 50 (by decide) (by decide)
def mS : Im:=mkIm 1 [⟨0,2⟩] 2 fSl
theorem aw_encode (n : Nat) : callP (level E (n+10)) 9 [enIm mS] = some (.tup [.sl 1 (([1,1,0,0,0,0,2,0,20,50] : List Int).map u8),.int .i64 0]):=by
  have hb : ∀ v ∈ mS.dt,bits8 v:=by
    obtain ⟨h0,h1,h2,h3,h4,h5,h6⟩:=bits8_all
    intro v hv
    have e : mS.dt = [20,50]:=by decide
    rw [e] at hv
    simp only [List.mem_cons,List.not_mem_nil,or_false] at hv
    rcases hv with rfl | rfl <;> assumption
  have h:=okCheck n mS (fun _ => 0) (by decide) (by decide) (by decide) (fun v hv => okCheck8 (n+1) v (hb v hv))
  rw [show ckIm (fun _ => 0) mS = 0 from by decide] at h
  have k:=okEncode1 n mS h (by decide) (by decide) rfl 2 (by decide) (by decide) fSl (fun i hi => by
    match i,hi with
    | 0,_ => exact ⟨0,by decide,by decide⟩
    | 1,_ => exact ⟨1,by decide,by decide⟩)
  rw [show byIm1 mS 2 fSl = [1,1,0,0,0,0,2,0,20,50] from by decide] at k
  exact k
end Go.Vm.P4Z

/- Chapter 04,functions: the reference's boxes. -/
set_option maxRecDepth 100000
set_option maxHeartbeats 1000000
namespace Go.Vm.P4Z
open Go Go.Vm Go.Vm.P4
theorem okQWhen (n : Nat) (b : Bool) (x : Int) : callP (level E (n+1)) 32 [.bool b,.int .i64 x] = some (.int .i64 (if b then x else 0)):=by
  rw [p32]
  cases b <;> simp only [go_sem,Nat.reduceAdd,Nat.reduceSub,Nat.reduceMul,Nat.reduceDiv,Nat.reduceMod,Nat.reduceLeDiff,Nat.reduceLT,Nat.reduceBEq,Int.reduceToNat,Int.reduceLT,Int.reduceLE,Int.reduceEq,Bool.false_eq_true]
theorem okQFirst (n : Nat) (b : Bool) (l : List Int) (hl : l.length < 1000000000) : callP (level E (n+1)) 29 [slD b 1 (l.map ic)] = some (.int .i64 (fnz l)):=by
  rw [p29]
  simp only [go_sem,Nat.reduceAdd,Nat.reduceSub,Nat.reduceMul,Nat.reduceDiv,Nat.reduceMod,Nat.reduceLeDiff,Nat.reduceLT,Nat.reduceBEq,Int.reduceToNat,Int.reduceLT,Int.reduceLE,Int.reduceEq]
  have h:=loop_run (f:=aCode (level E (n)) ⟨0,false⟩ b29_0) (h:=head ⟨0,false⟩ [1,0,1,0,0]) (Φ:=outC ⟨0,false⟩ [0,1,0,0,0]) l (fun (_ : Unit) i => ⟨[.imm (slD b 1 (l.map ic)),.junk,.imm (.int .i64 i),.junk,.junk],[],none⟩) (fun _ _ => True)
    (fun _ x => if x = 0 then .inl () else .inr (some (.ret,⟨[.junk,.imm (.int .i64 x),.junk,.junk,.junk],[],none⟩))) (fun _ => some (.exit 0,⟨[.junk,.junk,.junk,.junk,.junk],[],none⟩)) () trivial
    (fun _ i x _ h2 h1 => ⟨by
      rw [rnd_eq]
      by_cases h0 : x = 0
      · subst h0
        simp only [go_sem,Nat.reduceAdd,Nat.reduceSub,Nat.reduceMul,Nat.reduceDiv,Nat.reduceMod,Nat.reduceLeDiff,Nat.reduceLT,Nat.reduceBEq,Int.reduceToNat,Int.reduceLT,Int.reduceLE,Int.reduceEq,lt_t h2,h1,ne_eq,not_true_eq_false]
        rw [wrpS (by omega)]
      · simp only [go_sem,Nat.reduceAdd,Nat.reduceSub,Nat.reduceMul,Nat.reduceDiv,Nat.reduceMod,Nat.reduceLeDiff,Nat.reduceLT,Nat.reduceBEq,Int.reduceToNat,Int.reduceLT,Int.reduceLE,Int.reduceEq,lt_t h2,h1,ne_eq,h0,not_false_eq_true],fun _ _ => trivial⟩)
    (fun _ _ => by
      rw [rnd_eq]
      simp only [go_sem,Nat.reduceAdd,Nat.reduceSub,Nat.reduceMul,Nat.reduceDiv,Nat.reduceMod,Nat.reduceLeDiff,Nat.reduceLT,Nat.reduceBEq,Int.reduceToNat,Int.reduceLT,Int.reduceLE,Int.reduceEq,lt_f (Nat.le_refl _)])
  rw [cast_0] at h
  rw [h]
  clear h hl
  induction l with
  | nil => simp only [go_sem,Nat.reduceAdd,Nat.reduceSub,Nat.reduceMul,Nat.reduceDiv,Nat.reduceMod,Nat.reduceLeDiff,Nat.reduceLT,Nat.reduceBEq,Int.reduceToNat,Int.reduceLT,Int.reduceLE,Int.reduceEq,runL_nil,fnz]
  | cons x r ih =>
    by_cases h0 : x = 0
    · simp only [runL_cons,h0,if_true,fnz]; exact ih
    · simp only [go_sem,Nat.reduceAdd,Nat.reduceSub,Nat.reduceMul,Nat.reduceDiv,Nat.reduceMod,Nat.reduceLeDiff,Nat.reduceLT,Nat.reduceBEq,Int.reduceToNat,Int.reduceLT,Int.reduceLE,Int.reduceEq,runL_cons,h0,fnz]
theorem okQFirstL (n : Nat) (es : List (List D)) (l : List Int) (he : es = l.map ic) (hl : l.length < 1000000000) : callP (level E (n+1)) 29 [.sl 1 es] = some (.int .i64 (fnz l)):=by
  subst he
  exact okQFirst n false l hl
theorem okRProduct (n : Nat) (b : Bool) (l : Bx) (hl : l.length < 1000000000) : callP (level E (n+1)) 43 [enB b l] = some (.int .i64 (many l)):=by
  rw [p43]
  simp only [go_sem,Nat.reduceAdd,Nat.reduceSub,Nat.reduceMul,Nat.reduceDiv,Nat.reduceMod,Nat.reduceLeDiff,Nat.reduceLT,Nat.reduceBEq,Int.reduceToNat,Int.reduceLT,Int.reduceLE,Int.reduceEq]
  have h:=loop_fold (f:=aCode (level E (n)) ⟨0,false⟩ b43_0) (h:=head ⟨0,false⟩ [1,0,1,1,0]) (Φ:=outC ⟨0,false⟩ [0,0,1,0,0]) l (fun (a : Int) i => ⟨[.imm (slD b 2 (l.map enR)),.junk,.imm (.int .i64 a),.imm (.int .i64 i),.junk],[],none⟩) (fun _ _ => True)
    (fun a x => ml a x.ex) (fun a => some (.exit 0,⟨[.junk,.junk,.imm (.int .i64 a),.junk,.junk],[],none⟩)) 1 trivial
    (fun a i x _ h2 h1 => ⟨by
      rw [rnd_eq]
      simp only [go_sem,Nat.reduceAdd,Nat.reduceSub,Nat.reduceMul,Nat.reduceDiv,Nat.reduceMod,Nat.reduceLeDiff,Nat.reduceLT,Nat.reduceBEq,Int.reduceToNat,Int.reduceLT,Int.reduceLE,Int.reduceEq,lt_t h2,h1,ml]
      rw [wrpS (by omega)],trivial⟩)
    (fun _ _ => by
      rw [rnd_eq]
      simp only [go_sem,Nat.reduceAdd,Nat.reduceSub,Nat.reduceMul,Nat.reduceDiv,Nat.reduceMod,Nat.reduceLeDiff,Nat.reduceLT,Nat.reduceBEq,Int.reduceToNat,Int.reduceLT,Int.reduceLE,Int.reduceEq,lt_f (Nat.le_refl _)])
  rw [cast_0] at h
  rw [h]
  simp only [go_sem,Nat.reduceAdd,Nat.reduceSub,Nat.reduceMul,Nat.reduceDiv,Nat.reduceMod,Nat.reduceLeDiff,Nat.reduceLT,Nat.reduceBEq,Int.reduceToNat,Int.reduceLT,Int.reduceLE,Int.reduceEq,many]
theorem okOwnBox (n : Nat) (b : Bool) (l : Bx) (hl : l.length < 1000000) : callP (level E (n+1)) 26 [enB b l] = some (enB true l):=by
  rw [p26]
  rcases l with _ | ⟨x,t⟩
  · cases b <;> simp only [go_sem,Nat.reduceAdd,Nat.reduceSub,Nat.reduceMul,Nat.reduceDiv,Nat.reduceMod,Nat.reduceLeDiff,Nat.reduceLT,Nat.reduceBEq,Int.reduceToNat,Int.reduceLT,Int.reduceLE,Int.reduceEq,slD] <;> rfl
  · have e : (t.length + 1) * 17 ≤ 70368744177664:=by simp at hl; omega
    have e0 : enB b (x :: t) = .sl 2 ((x :: t).map enR):=by cases b <;> rfl
    rw [e0]
    simp only [go_sem,Nat.reduceAdd,Nat.reduceSub,Nat.reduceMul,Nat.reduceDiv,Nat.reduceMod,Nat.reduceLeDiff,Nat.reduceLT,Nat.reduceBEq,Int.reduceToNat,Int.reduceLT,Int.reduceLE,Int.reduceEq,e] <;> rfl
theorem okRCheckBox (n : Nat) (b : Bool) (l : Bx) (hl : l.length < 1000000) : callP (level E (n+2)) 30 [enB b l] = some (.int .i64 (ckBox l)):=by
  rw [p30]
  by_cases h1 : l.length < 1
  · have h1' : (l.length : Int) < 1:=by omega
    simp only [go_sem,Nat.reduceAdd,Nat.reduceSub,Nat.reduceMul,Nat.reduceDiv,Nat.reduceMod,Nat.reduceLeDiff,Nat.reduceLT,Nat.reduceBEq,Int.reduceToNat,Int.reduceLT,Int.reduceLE,Int.reduceEq,h1',ckBox,h1,true_or]
  · have h1' : ¬ (l.length : Int) < 1:=by omega
    by_cases h2 : 3 < l.length
    · have h2' : (3 : Int) < l.length:=by omega
      simp only [go_sem,Nat.reduceAdd,Nat.reduceSub,Nat.reduceMul,Nat.reduceDiv,Nat.reduceMod,Nat.reduceLeDiff,Nat.reduceLT,Nat.reduceBEq,Int.reduceToNat,Int.reduceLT,Int.reduceLE,Int.reduceEq,h1',h2',ckBox,h1,h2,or_true]
    · have h2' : ¬ (3 : Int) < l.length:=by omega
      simp only [go_sem,Nat.reduceAdd,Nat.reduceSub,Nat.reduceMul,Nat.reduceDiv,Nat.reduceMod,Nat.reduceLeDiff,Nat.reduceLT,Nat.reduceBEq,Int.reduceToNat,Int.reduceLT,Int.reduceLE,Int.reduceEq,h1',h2',ckBox,h1,h2,or_self]
      have h:=loop_run (f:=aCode (level E (n+1)) ⟨0,false⟩ b30_0) (h:=head ⟨0,false⟩ [1,0,1,0,0,0,0]) (Φ:=outC ⟨0,false⟩ [1,1,0,0,0,0,0]) l (fun (_ : Unit) i => ⟨[.imm (slD b 2 (l.map enR)),.junk,.imm (.int .i64 i),.junk,.junk,.junk,.junk],[],none⟩) (fun _ _ => True)
        (fun _ r => if ckRange r = 0 then .inl () else .inr (some (.ret,⟨[.imm (slD b 2 (l.map enR)),.imm (.int .i64 3),.junk,.junk,.junk,.junk,.junk],[],none⟩))) (fun _ => some (.exit 0,⟨[.imm (slD b 2 (l.map enR)),.junk,.junk,.junk,.junk,.junk,.junk],[],none⟩)) () trivial
        (fun _ i r _ h2 h1 => ⟨by
          rw [rnd_eq]
          by_cases k1 : r.lo < -1048576
          · have k : ¬ ckRange r = 0:=by rw [ckRange,if_pos (by omega)]; omega
            simp only [go_sem,Nat.reduceAdd,Nat.reduceSub,Nat.reduceMul,Nat.reduceDiv,Nat.reduceMod,Nat.reduceLeDiff,Nat.reduceLT,Nat.reduceBEq,Int.reduceToNat,Int.reduceLT,Int.reduceLE,Int.reduceEq,lt_t h2,h1,k1,k]
          · by_cases k2 : r.lo > 1048576
            · have k : ¬ ckRange r = 0:=by rw [ckRange,if_pos (by omega)]; omega
              simp only [go_sem,Nat.reduceAdd,Nat.reduceSub,Nat.reduceMul,Nat.reduceDiv,Nat.reduceMod,Nat.reduceLeDiff,Nat.reduceLT,Nat.reduceBEq,Int.reduceToNat,Int.reduceLT,Int.reduceLE,Int.reduceEq,lt_t h2,h1,k1,k2,k]
            · by_cases k3 : r.ex < 0
              · have k : ¬ ckRange r = 0:=by rw [ckRange,if_pos (by omega)]; omega
                simp only [go_sem,Nat.reduceAdd,Nat.reduceSub,Nat.reduceMul,Nat.reduceDiv,Nat.reduceMod,Nat.reduceLeDiff,Nat.reduceLT,Nat.reduceBEq,Int.reduceToNat,Int.reduceLT,Int.reduceLE,Int.reduceEq,lt_t h2,h1,k1,k2,k3,k]
              · by_cases k4 : r.ex > 64
                · have k : ¬ ckRange r = 0:=by rw [ckRange,if_pos (by omega)]; omega
                  simp only [go_sem,Nat.reduceAdd,Nat.reduceSub,Nat.reduceMul,Nat.reduceDiv,Nat.reduceMod,Nat.reduceLeDiff,Nat.reduceLT,Nat.reduceBEq,Int.reduceToNat,Int.reduceLT,Int.reduceLE,Int.reduceEq,lt_t h2,h1,k1,k2,k3,k4,k]
                · have e : wrp .i64 (r.lo + r.ex) = r.lo + r.ex:=wrp_ok (by omega)
                  by_cases k5 : r.lo + r.ex > 1048577
                  · have k : ¬ ckRange r = 0:=by rw [ckRange,if_pos (by omega)]; omega
                    simp only [go_sem,Nat.reduceAdd,Nat.reduceSub,Nat.reduceMul,Nat.reduceDiv,Nat.reduceMod,Nat.reduceLeDiff,Nat.reduceLT,Nat.reduceBEq,Int.reduceToNat,Int.reduceLT,Int.reduceLE,Int.reduceEq,lt_t h2,h1,k1,k2,k3,k4,e,k5,k]
                  · have k : ckRange r = 0:=by rw [ckRange,if_neg (by omega)]
                    simp only [go_sem,Nat.reduceAdd,Nat.reduceSub,Nat.reduceMul,Nat.reduceDiv,Nat.reduceMod,Nat.reduceLeDiff,Nat.reduceLT,Nat.reduceBEq,Int.reduceToNat,Int.reduceLT,Int.reduceLE,Int.reduceEq,lt_t h2,h1,k1,k2,k3,k4,e,k5,k]
                    rw [wrpS (by omega)],fun _ _ => trivial⟩)
        (fun _ _ => by
          rw [rnd_eq]
          simp only [go_sem,Nat.reduceAdd,Nat.reduceSub,Nat.reduceMul,Nat.reduceDiv,Nat.reduceMod,Nat.reduceLeDiff,Nat.reduceLT,Nat.reduceBEq,Int.reduceToNat,Int.reduceLT,Int.reduceLE,Int.reduceEq,lt_f (Nat.le_refl _)])
      rw [cast_0] at h
      rw [h]
      clear h
      have hm:=okRProduct n b l (by omega)
      have e : ∀ l' : Bx,runL (γ:=Option (AExit × S)) (fun (_ : Unit) r => if ckRange r = 0 then .inl () else .inr (some (AExit.ret,⟨[.imm (slD b 2 (l.map enR)),.imm (.int .i64 3),.junk,.junk,.junk,.junk,.junk],[],none⟩))) (fun _ => some (AExit.exit 0,⟨[.imm (slD b 2 (l.map enR)),.junk,.junk,.junk,.junk,.junk,.junk],[],none⟩)) () l'
          = if fnz (l'.map ckRange) = 0 then some (AExit.exit 0,⟨[.imm (slD b 2 (l.map enR)),.junk,.junk,.junk,.junk,.junk,.junk],[],none⟩) else some (AExit.ret,⟨[.imm (slD b 2 (l.map enR)),.imm (.int .i64 3),.junk,.junk,.junk,.junk,.junk],[],none⟩):=by
        intro l'
        induction l' with
        | nil => simp [runL_nil,fnz]
        | cons x r ih =>
          by_cases h0 : ckRange x = 0
          · simp only [runL_cons,h0,if_true,List.map_cons,fnz]; exact ih
          · simp only [runL_cons,h0,if_false,List.map_cons,fnz]
      rw [e]
      have e3 : fnz (l.map ckRange) = 0 ∨ fnz (l.map ckRange) = 3:=by
        clear e hm hl h1 h1' h2 h2'
        induction l with
        | nil => exact .inl rfl
        | cons x r ih =>
          rw [List.map_cons,fnz_cons]
          by_cases h0 : ckRange x = 0
          · rw [if_pos h0]; exact ih
          · rw [if_neg h0]
            right
            unfold ckRange at h0 ⊢
            split
            · rfl
            · rename_i h; rw [if_neg h] at h0; exact absurd rfl h0
      rcases e3 with e3 | e3
      · by_cases h3 : 4096 < many l
        · simp only [go_sem,Nat.reduceAdd,Nat.reduceSub,Nat.reduceMul,Nat.reduceDiv,Nat.reduceMod,Nat.reduceLeDiff,Nat.reduceLT,Nat.reduceBEq,Int.reduceToNat,Int.reduceLT,Int.reduceLE,Int.reduceEq,e3,hm,h3,okQWhen,fnz]
        · simp only [go_sem,Nat.reduceAdd,Nat.reduceSub,Nat.reduceMul,Nat.reduceDiv,Nat.reduceMod,Nat.reduceLeDiff,Nat.reduceLT,Nat.reduceBEq,Int.reduceToNat,Int.reduceLT,Int.reduceLE,Int.reduceEq,e3,hm,h3,okQWhen,fnz]
      · simp only [go_sem,Nat.reduceAdd,Nat.reduceSub,Nat.reduceMul,Nat.reduceDiv,Nat.reduceMod,Nat.reduceLeDiff,Nat.reduceLT,Nat.reduceBEq,Int.reduceToNat,Int.reduceLT,Int.reduceLE,Int.reduceEq,e3,fnz,show ¬ (3 : Int) = 0 by omega]
theorem okSameBox (n : Nat) (b c : Bool) (l : Bx) (hl : l.length < 1000000000) : callP (level E (n+1)) 59 [enB b l,enB c l] = some (.bool true):=by
  rw [p59]
  simp only [go_sem,Nat.reduceAdd,Nat.reduceSub,Nat.reduceMul,Nat.reduceDiv,Nat.reduceMod,Nat.reduceLeDiff,Nat.reduceLT,Nat.reduceBEq,Int.reduceToNat,Int.reduceLT,Int.reduceLE,Int.reduceEq,ne_eq,not_true_eq_false]
  have h:=loop_fold (f:=aCode (level E (n)) ⟨0,false⟩ b59_0) (h:=head ⟨0,false⟩ [1,1,0,1,0,0,0]) (Φ:=outC ⟨0,false⟩ [0,0,1,0,0,0,0]) l (fun (a : Unit) i => ⟨[.imm (slD b 2 (l.map enR)),.imm (slD c 2 (l.map enR)),.junk,.imm (.int .i64 i),.junk,.junk,.junk],[],none⟩) (fun _ _ => True)
    (fun a x => ()) (fun a => some (.exit 0,⟨[.junk,.junk,.junk,.junk,.junk,.junk,.junk],[],none⟩)) () trivial
    (fun a i x hI h2 h1 => by
      refine ⟨?_,trivial⟩
      rw [rnd_eq]
      simp only [go_sem,Nat.reduceAdd,Nat.reduceSub,Nat.reduceMul,Nat.reduceDiv,Nat.reduceMod,Nat.reduceLeDiff,Nat.reduceLT,Nat.reduceBEq,Int.reduceToNat,Int.reduceLT,Int.reduceLE,Int.reduceEq,lt_t h2,h1,aEq,eqL,eqE,intEq,beq_self_eq_true]
      rw [wrpS (by omega)])
    (fun a _ => by
      rw [rnd_eq]
      simp only [go_sem,Nat.reduceAdd,Nat.reduceSub,Nat.reduceMul,Nat.reduceDiv,Nat.reduceMod,Nat.reduceLeDiff,Nat.reduceLT,Nat.reduceBEq,Int.reduceToNat,Int.reduceLT,Int.reduceLE,Int.reduceEq,lt_f (Nat.le_refl _)])
  rw [cast_0] at h
  rw [h]
  simp only [go_sem,Nat.reduceAdd,Nat.reduceSub,Nat.reduceMul,Nat.reduceDiv,Nat.reduceMod,Nat.reduceLeDiff,Nat.reduceLT,Nat.reduceBEq,Int.reduceToNat,Int.reduceLT,Int.reduceLE,Int.reduceEq]
end Go.Vm.P4Z

/- Chapter 04,functions: the document's examples,all of them. -/
set_option maxRecDepth 100000
set_option maxHeartbeats 16000000
namespace Go.Vm.P4Z
open Go Go.Vm Go.Vm.P4
def bxD : D:=.sl 2 [[.int .i64 2,.int .i64 3],[.int .i64 0,.int .i64 2]]
def imD : D:=.agg [.int .i64 1,bxD,.sl 1 [[.int .i64 1],[.int .i64 3]],.sl 1 [[.int .u64 10],[.int .u64 20],[.int .u64 30],[.int .u64 40],[.int .u64 50],[.int .u64 60]]]
theorem aw_box (n : Nat) : callP (level E (n+1)) 53 [] = some bxD:=by
  rw [p53]
  simp only [go_sem,Nat.reduceAdd,Nat.reduceSub,Nat.reduceMul,Nat.reduceDiv,Nat.reduceMod,Nat.reduceLeDiff,Nat.reduceLT,Nat.reduceBEq,Int.reduceToNat,Int.reduceLT,Int.reduceLE,Int.reduceEq,bxD]
theorem aw_given (n : Nat) : callP (level E (n+2)) 57 [] = some imD:=by
  rw [p57]
  have h:=aw_box n
  simp only [bxD] at h
  simp only [go_sem,Nat.reduceAdd,Nat.reduceSub,Nat.reduceMul,Nat.reduceDiv,Nat.reduceMod,Nat.reduceLeDiff,Nat.reduceLT,Nat.reduceBEq,Int.reduceToNat,Int.reduceLT,Int.reduceLE,Int.reduceEq,imD,bxD,h]
theorem e_m0 : enIm m0 = imD:=rfl
theorem e_b0 : enB false bx0 = bxD:=rfl
def pt (a b : Int) : List D:=[.sl 1 [[.int .i64 a],[.int .i64 b]]]
theorem okAwake (n : Nat) : callP (level E (n+60)) 8 [] = some (.bool true):=by
  rw [p8]
  have q1:=aw_box (n+58)
  have q2:=aw_given (n+57)
  have q3:=okPointsS (n+54) false bx0 ckb0 6 (by decide)
  rw [e_b0,show ptsD bx0 6 = .sl 1 [pt 2 0,pt 3 0,pt 4 0,pt 2 1,pt 3 1,pt 4 1] from rfl] at q3
  have q4:=okIndex (n+53) false false bx0 [3,1] (by decide)
  rw [e_b0,show ckPoint bx0 [3,1] = 0 from by decide,if_pos rfl,show hasB bx0 [3,1] = true from by decide,if_pos rfl,show elt bx0 (([3,1] ++ [0,0,0] : List Int).take 3) (strides 1 bx0) 0 = 4 from by decide] at q4
  have q5:=okIntersect (n+53) false false bx0 ot0 (by decide) (by decide) (fun _ => rfl)
  rw [e_b0,show interD bx0 ot0 = .sl 2 [[.int .i64 3,.int .i64 2],[.int .i64 1,.int .i64 1]] from rfl,show ckBoth bx0 ot0 = 0 from by decide] at q5
  have q6:=okUnion (n+53) false false bx0 ot0 (by decide) (by decide) (fun _ => ⟨rfl,by decide,by decide⟩)
  rw [e_b0,show unionD bx0 ot0 = (.sl 2 [[.int .i64 2,.int .i64 3],[.int .i64 0,.int .i64 6]],0) from rfl] at q6
  have q7:=aw_at (n+48)
  have q8:=aw_slice (n+49)
  have q9:=aw_trans (n+49)
  have q10:=aw_crop (n+49)
  rw [e_m0] at q7 q8 q9 q10
  rw [show enIm (mkIm 1 [⟨0,2⟩] 2 fSl) = .agg [.int .i64 1,.sl 2 [[.int .i64 0,.int .i64 2]],.sl 1 [[.int .i64 1]],.sl 1 [[.int .u64 20],[.int .u64 50]]] from rfl] at q8
  rw [show enIm (mkIm 1 [⟨0,2⟩,⟨2,3⟩] 6 fTr) = .agg [.int .i64 1,.sl 2 [[.int .i64 0,.int .i64 2],[.int .i64 2,.int .i64 3]],.sl 1 [[.int .i64 1],[.int .i64 2]],.sl 1 [[.int .u64 10],[.int .u64 40],[.int .u64 20],[.int .u64 50],[.int .u64 30],[.int .u64 60]]] from rfl] at q9
  rw [show enIm (mkIm 1 [⟨3,2⟩,⟨1,1⟩] 2 fCr) = .agg [.int .i64 1,.sl 2 [[.int .i64 3,.int .i64 2],[.int .i64 1,.int .i64 1]],.sl 1 [[.int .i64 1],[.int .i64 2]],.sl 1 [[.int .u64 50],[.int .u64 60]]] from rfl] at q10
  have r0:=aw_edge (n+49) 0 (by decide)
  have r1:=aw_edge (n+49) 1 (by decide)
  have r2:=aw_edge (n+49) 2 (by decide)
  rw [e_m0] at r0 r1 r2
  have c1:=chk1 (n+50)
  have c2:=chk2 (n+50)
  have en:=aw_encode (n+49)
  rw [show enIm mS = .agg [.int .i64 1,.sl 2 [[.int .i64 0,.int .i64 2]],.sl 1 [[.int .i64 1]],.sl 1 [[.int .u64 20],[.int .u64 50]]] from rfl] at en
  have s1:=okSameInts (n+58) false false [4,1] (by decide)
  have s2:=okSameBox (n+58) false false [⟨3,2⟩,⟨1,1⟩] (by decide)
  have s3:=okSameBox (n+58) false false [⟨2,3⟩,⟨0,6⟩] (by decide)
  have s4:=okSameBits (n+58) false false [20,50] (by decide)
  have s5:=okSameBits (n+58) false false [10,40,20,50,30,60] (by decide)
  have s6:=okSameBits (n+58) false false [50,60] (by decide)
  have s7:=okSameBytes (n+58) false false [1,1,0,0,0,0,2,0,20,50] (by decide)
  simp only [go_sem,Nat.reduceAdd,Nat.reduceSub,Nat.reduceMul,Nat.reduceDiv,Nat.reduceMod,Nat.reduceLeDiff,Nat.reduceLT,Nat.reduceBEq,Int.reduceToNat,Int.reduceLT,Int.reduceLE,Int.reduceEq,imD,bxD,pt,enB,slD,ot0,enIm,m1,m2,mS,bx0] at q1 q2 q3 q4 q5 q6 q7 q8 q9 q10 r0 r1 r2 c1 c2 en s1 s2 s3 s4 s5 s6 s7
  have w0 : wrp .i64 (0 + 0) = 0:=by decide
  have n0 : (4 : Int) ≠ 0:=by decide
  simp only [go_sem,Nat.reduceAdd,Nat.reduceSub,Nat.reduceMul,Nat.reduceDiv,Nat.reduceMod,Nat.reduceLeDiff,Nat.reduceLT,Nat.reduceBEq,Int.reduceToNat,Int.reduceLT,Int.reduceLE,Int.reduceEq,q1,q2,q3,q4,q5,q6,q7,q8,q9,q10,w0,ne_eq,not_true_eq_false,ia_sl,s1,s2,s3,s4,s5,s6,aEq,eqL,eqE,intEq,beq_self_eq_true]
  simp only [go_sem,Nat.reduceAdd,Nat.reduceSub,Nat.reduceMul,Nat.reduceDiv,Nat.reduceMod,Nat.reduceLeDiff,Nat.reduceLT,Nat.reduceBEq,Int.reduceToNat,Int.reduceLT,Int.reduceLE,Int.reduceEq,rnd_eq,q1,q2,r0,r1,r2,ne_eq,not_true_eq_false,ia_sl,c1,c2,en,s7,List.reduceReplicate,Int.reduceMul]
  done
end Go.Vm.P4Z

/- Plain: bits of 64-bit numbers as remainders and quotients. -/
set_option maxRecDepth 100000
namespace Go.Vm.P4
open Go Go.Vm
theorem wrpU {n : Int} (h0 : 0 ≤ n) (h1 : n < 18446744073709551616) : wrp .u64 n = n:=by
  have e1 : (2 ^ IntKind.u64.bits : Int) = 18446744073709551616:=by decide
  show IntKind.u64.wrap n = n
  simp only [IntKind.wrap,e1,show IntKind.u64.signed = false from rfl,Bool.false_and,Bool.false_eq_true,if_false]
  omega
theorem bv_low {v : Int} (h0 : 0 ≤ v) (h1 : v < 18446744073709551616) : (BitVec.ofInt 64 v).toNat = v.toNat:=by
  obtain ⟨n,rfl⟩ : ∃ n : Nat,v = n:=⟨v.toNat,by omega⟩
  rw [BitVec.ofInt_natCast,BitVec.toNat_ofNat]
  omega
theorem mask_bit (w i : Nat) (hw : w ≤ 64) : (BitVec.ofNat 64 (2 ^ w - 1)).getLsbD i = decide (i < w):=by
  rw [BitVec.getLsbD_ofNat,Nat.testBit_two_pow_sub_one]
  by_cases h : i < w
  · simp [h,show i < 64 by omega]
  · simp [h]
theorem andNot_mask (a : BitVec 64) (w : Nat) (hw : w ≤ 64) : (a &&& ~~~(BitVec.ofNat 64 (2 ^ w - 1))).toNat = a.toNat >>> w <<< w:=by
  apply Nat.eq_of_testBit_eq
  intro i
  rw [BitVec.testBit_toNat,BitVec.getLsbD_and,BitVec.getLsbD_not,mask_bit w i hw,Nat.testBit_shiftLeft,Nat.testBit_shiftRight,BitVec.testBit_toNat]
  by_cases h : i < w
  · have : ¬ w ≤ i:=by omega
    simp [h,this]
  · have h2 : w ≤ i:=by omega
    rw [show w + (i - w) = i by omega]
    by_cases h3 : i < 64
    · simp [h,h2,h3]
    · have : a.getLsbD i = false:=BitVec.getLsbD_of_ge a i (by omega)
      simp [this]
theorem and_mask (a : BitVec 64) (w : Nat) (hw : w ≤ 64) : (a &&& BitVec.ofNat 64 (2 ^ w - 1)).toNat = a.toNat % 2 ^ w:=by
  apply Nat.eq_of_testBit_eq
  intro i
  rw [BitVec.testBit_toNat,BitVec.getLsbD_and,mask_bit w i hw,Nat.testBit_mod_two_pow,BitVec.testBit_toNat,Bool.and_comm]
theorem fits_iff {v : Int} (h0 : 0 ≤ v) (h1 : v < 18446744073709551616) (w : Nat) (hw : w ≤ 64) (m : Int) (hm : BitVec.ofInt 64 m = BitVec.ofNat 64 (2 ^ w - 1)) :
    decide (wrp .u64 ((BitVec.ofInt 64 v &&& ~~~(BitVec.ofInt 64 m)).toNat : Nat) = 0) = decide (v < 2 ^ w):=by
  rw [hm]
  have h2:=(BitVec.ofInt 64 v &&& ~~~(BitVec.ofNat 64 (2 ^ w - 1))).isLt
  rw [wrpU (by omega) (by omega),andNot_mask _ w hw,bv_low h0 h1,Nat.shiftLeft_eq,Nat.shiftRight_eq_div_pow]
  have hp : 0 < 2 ^ w:=Nat.two_pow_pos w
  have e : ((2 ^ w : Nat) : Int) = 2 ^ w:=by simp
  rw [decide_eq_decide]
  constructor
  · intro h
    have h3 : v.toNat / 2 ^ w = 0:=by
      rcases Nat.eq_zero_or_pos (v.toNat / 2 ^ w) with h4 | h4
      · exact h4
      · have:=Nat.mul_le_mul_right (2 ^ w) h4; omega
    have:=(Nat.div_eq_zero_iff_lt hp).1 h3
    omega
  · intro h
    have : v.toNat < 2 ^ w:=by omega
    rw [Nat.div_eq_of_lt this]; simp
theorem low32 {v : Int} (h0 : 0 ≤ v) (h1 : v < 18446744073709551616) : wrp .u64 ((BitVec.ofInt 64 v &&& BitVec.ofInt 64 4294967295).toNat : Nat) = v % 4294967296:=by
  have hm : BitVec.ofInt 64 4294967295 = BitVec.ofNat 64 (2 ^ 32 - 1):=by decide
  have h2:=(BitVec.ofInt 64 v &&& BitVec.ofInt 64 4294967295).isLt
  rw [wrpU (by omega) (by omega),hm,and_mask _ 32 (by decide),bv_low h0 h1]
  omega
def wdL : List Int:=[1,8,16,32,64,8,16,32,64,32,64]
end Go.Vm.P4

/- Chapter 04,functions: values of every kind. -/
set_option maxRecDepth 100000
set_option maxHeartbeats 2000000
namespace Go.Vm.P4Z
open Go Go.Vm Go.Vm.P4
def vOk (k v : Int) : Bool :=
  if k = 9 then decide (v < 4294967296) && rfOk v else if k = 10 then rfOk (v % 4294967296) && rfOk (v / 4294967296)
  else decide (v < 2 ^ (wdL.getD k.toNat 0).toNat)
def ckVal (k v : Int) : Int:=if ckKind k = 0 then (if vOk k v then 0 else 1) else 11
theorem okRf (n : Nat) (v : Int) : callP (level E (n+1)) 126 [.int .u64 v] = some (.bool (rfOk v)):=by
  have h1 : E.fn 126 = none:=rfl
  have h2 : E.prim 126 = some rfPrim:=rfl
  unfold callP
  simp only [level,h1,runPrim,h2,List.map_cons,List.map_nil,rfPrim,if_true]
  rfl
theorem okOnes (n : Nat) : callP (level E (n+1)) 127 [.int .i64 1] = some (.int .u64 1) ∧ callP (level E (n+1)) 127 [.int .i64 8] = some (.int .u64 255) ∧ callP (level E (n+1)) 127 [.int .i64 16] = some (.int .u64 65535) ∧
    callP (level E (n+1)) 127 [.int .i64 32] = some (.int .u64 4294967295) ∧ callP (level E (n+1)) 127 [.int .i64 64] = some (.int .u64 18446744073709551615):=by
  have a1 : aBin .shl (.imm (.int .u64 1)) (.imm (.int .i64 1)) = some (.imm (.int .u64 2)):=rfl
  have a8 : aBin .shl (.imm (.int .u64 1)) (.imm (.int .i64 8)) = some (.imm (.int .u64 256)):=rfl
  have a16 : aBin .shl (.imm (.int .u64 1)) (.imm (.int .i64 16)) = some (.imm (.int .u64 65536)):=rfl
  have a32 : aBin .shl (.imm (.int .u64 1)) (.imm (.int .i64 32)) = some (.imm (.int .u64 4294967296)):=rfl
  have w1 : wrp .u64 (2 - 1) = 1:=by decide
  have w8 : wrp .u64 (256 - 1) = 255:=by decide
  have w16 : wrp .u64 (65536 - 1) = 65535:=by decide
  have w32 : wrp .u64 (4294967296 - 1) = 4294967295:=by decide
  refine ⟨?_,?_,?_,?_,?_⟩ <;> rw [p127] <;> simp only [go_sem,Nat.reduceAdd,Nat.reduceSub,Nat.reduceMul,Nat.reduceDiv,Nat.reduceMod,Nat.reduceLeDiff,Nat.reduceLT,Nat.reduceBEq,Int.reduceToNat,Int.reduceLT,Int.reduceLE,Int.reduceEq,a1,a8,a16,a32,w1,w8,w16,w32]
theorem pw32 : (2 : Int) ^ min (32 : Int).toNat IntKind.u64.bits = 4294967296:=by decide
theorem sh32 (v : Int) : aBin .shr (.imm (.int .u64 v)) (.imm (.int .u64 32)) = some (.imm (.int .u64 (v.fdiv 4294967296))):=by
  rw [bin_shr (by decide),pw32]
theorem fdiv_pos {v m : Int} (h0 : 0 ≤ v) (hm : 0 < m) : v.fdiv m = v / m:=by
  rw [Int.fdiv_eq_ediv_of_nonneg v (by omega)]
def andU (x y : Int) : Int:=wrp .u64 ((BitVec.ofInt 64 x &&& BitVec.ofInt 64 y).toNat : Nat)
@[go_sem high] theorem bin_andU {x y : Int} : aBin .and (.imm (.int .u64 x)) (.imm (.int .u64 y)) = some (.imm (.int .u64 (andU x y))):=by rw [bin_and]; rfl
theorem okRight (n : Nat) (k v : Int) (hk : ckKind k = 0) (h0 : 0 ≤ v) (h1 : v < 18446744073709551616) : callP (level E (n+2)) 119 [.int .i64 k,.int .u64 v] = some (.bool (vOk k v)):=by
  have hk' : 0 ≤ k ∧ k < 11:=by unfold ckKind at hk; split at hk; assumption; omega
  obtain ⟨o1,o8,o16,o32,o64⟩:=okOnes n
  rw [p119]
  have hc : k = 0 ∨ k = 1 ∨ k = 2 ∨ k = 3 ∨ k = 4 ∨ k = 5 ∨ k = 6 ∨ k = 7 ∨ k = 8 ∨ k = 9 ∨ k = 10:=by omega
  have f1:=fits_iff h0 h1 1 (by decide) 1 (by decide)
  have f8:=fits_iff h0 h1 8 (by decide) 255 (by decide)
  have f16:=fits_iff h0 h1 16 (by decide) 65535 (by decide)
  have f32:=fits_iff h0 h1 32 (by decide) 4294967295 (by decide)
  have f64:=fits_iff h0 h1 64 (by decide) 18446744073709551615 (by decide)
  have b64 : IntKind.u64.bits = 64:=rfl
  rcases hc with rfl | rfl | rfl | rfl | rfl | rfl | rfl | rfl | rfl | rfl | rfl
  · simp only [go_sem,Nat.reduceAdd,Nat.reduceSub,Nat.reduceMul,Nat.reduceDiv,Nat.reduceMod,Nat.reduceLeDiff,Nat.reduceLT,Nat.reduceBEq,Int.reduceToNat,Int.reduceLT,Int.reduceLE,Int.reduceEq,o1,b64]; exact congrArg (fun b => some (D.bool b)) (f1.trans rfl)
  · simp only [go_sem,Nat.reduceAdd,Nat.reduceSub,Nat.reduceMul,Nat.reduceDiv,Nat.reduceMod,Nat.reduceLeDiff,Nat.reduceLT,Nat.reduceBEq,Int.reduceToNat,Int.reduceLT,Int.reduceLE,Int.reduceEq,o8,b64]; exact congrArg (fun b => some (D.bool b)) (f8.trans rfl)
  · simp only [go_sem,Nat.reduceAdd,Nat.reduceSub,Nat.reduceMul,Nat.reduceDiv,Nat.reduceMod,Nat.reduceLeDiff,Nat.reduceLT,Nat.reduceBEq,Int.reduceToNat,Int.reduceLT,Int.reduceLE,Int.reduceEq,o16,b64]; exact congrArg (fun b => some (D.bool b)) (f16.trans rfl)
  · simp only [go_sem,Nat.reduceAdd,Nat.reduceSub,Nat.reduceMul,Nat.reduceDiv,Nat.reduceMod,Nat.reduceLeDiff,Nat.reduceLT,Nat.reduceBEq,Int.reduceToNat,Int.reduceLT,Int.reduceLE,Int.reduceEq,o32,b64]; exact congrArg (fun b => some (D.bool b)) (f32.trans rfl)
  · simp only [go_sem,Nat.reduceAdd,Nat.reduceSub,Nat.reduceMul,Nat.reduceDiv,Nat.reduceMod,Nat.reduceLeDiff,Nat.reduceLT,Nat.reduceBEq,Int.reduceToNat,Int.reduceLT,Int.reduceLE,Int.reduceEq,o64,b64]; exact congrArg (fun b => some (D.bool b)) (f64.trans rfl)
  · simp only [go_sem,Nat.reduceAdd,Nat.reduceSub,Nat.reduceMul,Nat.reduceDiv,Nat.reduceMod,Nat.reduceLeDiff,Nat.reduceLT,Nat.reduceBEq,Int.reduceToNat,Int.reduceLT,Int.reduceLE,Int.reduceEq,o8,b64]; exact congrArg (fun b => some (D.bool b)) (f8.trans rfl)
  · simp only [go_sem,Nat.reduceAdd,Nat.reduceSub,Nat.reduceMul,Nat.reduceDiv,Nat.reduceMod,Nat.reduceLeDiff,Nat.reduceLT,Nat.reduceBEq,Int.reduceToNat,Int.reduceLT,Int.reduceLE,Int.reduceEq,o16,b64]; exact congrArg (fun b => some (D.bool b)) (f16.trans rfl)
  · simp only [go_sem,Nat.reduceAdd,Nat.reduceSub,Nat.reduceMul,Nat.reduceDiv,Nat.reduceMod,Nat.reduceLeDiff,Nat.reduceLT,Nat.reduceBEq,Int.reduceToNat,Int.reduceLT,Int.reduceLE,Int.reduceEq,o32,b64]; exact congrArg (fun b => some (D.bool b)) (f32.trans rfl)
  · simp only [go_sem,Nat.reduceAdd,Nat.reduceSub,Nat.reduceMul,Nat.reduceDiv,Nat.reduceMod,Nat.reduceLeDiff,Nat.reduceLT,Nat.reduceBEq,Int.reduceToNat,Int.reduceLT,Int.reduceLE,Int.reduceEq,o64,b64]; exact congrArg (fun b => some (D.bool b)) (f64.trans rfl)
  · have r:=okRf n v
    have e : v.fdiv 4294967296 = v / 4294967296:=fdiv_pos h0 (by decide)
    have e2 : decide (v / 4294967296 = 0) = decide (v < 4294967296):=by rw [decide_eq_decide]; omega
    cases hr : decide (v < 4294967296)
    · rw [hr] at e2
      simp only [go_sem,Nat.reduceAdd,Nat.reduceSub,Nat.reduceMul,Nat.reduceDiv,Nat.reduceMod,Nat.reduceLeDiff,Nat.reduceLT,Nat.reduceBEq,Int.reduceToNat,Int.reduceLT,Int.reduceLE,Int.reduceEq,sh32,e,e2,vOk,hr]
    · rw [hr] at e2
      simp only [go_sem,Nat.reduceAdd,Nat.reduceSub,Nat.reduceMul,Nat.reduceDiv,Nat.reduceMod,Nat.reduceLeDiff,Nat.reduceLT,Nat.reduceBEq,Int.reduceToNat,Int.reduceLT,Int.reduceLE,Int.reduceEq,sh32,e,e2,r,vOk,hr]
  · have r1:=okRf n (v % 4294967296)
    have r2:=okRf n (v / 4294967296)
    have e : v.fdiv 4294967296 = v / 4294967296:=fdiv_pos h0 (by decide)
    have l : andU v 4294967295 = v % 4294967296:=low32 h0 h1
    cases hr : rfOk (v % 4294967296)
    · rw [hr] at r1
      simp only [go_sem,Nat.reduceAdd,Nat.reduceSub,Nat.reduceMul,Nat.reduceDiv,Nat.reduceMod,Nat.reduceLeDiff,Nat.reduceLT,Nat.reduceBEq,Int.reduceToNat,Int.reduceLT,Int.reduceLE,Int.reduceEq,o32,l,r1,vOk,hr]
    · rw [hr] at r1
      simp only [go_sem,Nat.reduceAdd,Nat.reduceSub,Nat.reduceMul,Nat.reduceDiv,Nat.reduceMod,Nat.reduceLeDiff,Nat.reduceLT,Nat.reduceBEq,Int.reduceToNat,Int.reduceLT,Int.reduceLE,Int.reduceEq,o32,l,r1,sh32,e,r2,vOk,hr]
theorem ckKind01 (k : Int) : ckKind k = 0 ∨ ckKind k = 11:=by unfold ckKind; split <;> omega
theorem okCheckValue (n : Nat) (k v : Int) (h0 : 0 ≤ v) (h1 : v < 18446744073709551616) : callP (level E (n+3)) 81 [.agg [.int .i64 k,.int .u64 v]] = some (.int .i64 (ckVal k v)):=by
  rw [p81]
  have i1:=okIsKind (n+1) k
  by_cases hk : ckKind k = 0
  · have hk' : 0 ≤ k ∧ k < 11:=by unfold ckKind at hk; split at hk; assumption; omega
    have h:=okRight n k v hk h0 h1
    have e1 : decide (0 ≤ k) = true:=decide_eq_true hk'.1
    have e2 : decide (k < 11) = true:=decide_eq_true hk'.2
    cases hv : vOk k v
    · rw [hv] at h
      simp only [go_sem,Nat.reduceAdd,Nat.reduceSub,Nat.reduceMul,Nat.reduceDiv,Nat.reduceMod,Nat.reduceLeDiff,Nat.reduceLT,Nat.reduceBEq,Int.reduceToNat,Int.reduceLT,Int.reduceLE,Int.reduceEq,i1,e1,e2,h,okNwhen,ckVal,hk,hv,Bool.false_eq_true]
    · rw [hv] at h
      simp only [go_sem,Nat.reduceAdd,Nat.reduceSub,Nat.reduceMul,Nat.reduceDiv,Nat.reduceMod,Nat.reduceLeDiff,Nat.reduceLT,Nat.reduceBEq,Int.reduceToNat,Int.reduceLT,Int.reduceLE,Int.reduceEq,i1,e1,e2,h,okNwhen,ckVal,hk,hv,Bool.false_eq_true]
  · have hk' : ¬ (0 ≤ k ∧ k < 11):=by unfold ckKind at hk; split at hk; exact absurd rfl hk; assumption
    by_cases h2 : 0 ≤ k
    · have e1 : decide (0 ≤ k) = true:=decide_eq_true h2
      have e2 : decide (k < 11) = false:=decide_eq_false (by omega)
      simp only [go_sem,Nat.reduceAdd,Nat.reduceSub,Nat.reduceMul,Nat.reduceDiv,Nat.reduceMod,Nat.reduceLeDiff,Nat.reduceLT,Nat.reduceBEq,Int.reduceToNat,Int.reduceLT,Int.reduceLE,Int.reduceEq,i1,e1,e2,ckVal,hk]
    · have e1 : decide (0 ≤ k) = false:=decide_eq_false h2
      simp only [go_sem,Nat.reduceAdd,Nat.reduceSub,Nat.reduceMul,Nat.reduceDiv,Nat.reduceMod,Nat.reduceLeDiff,Nat.reduceLT,Nat.reduceBEq,Int.reduceToNat,Int.reduceLT,Int.reduceLE,Int.reduceEq,i1,e1,ckVal,hk]
def ckB1 (k v : Int) : Int:=if ckVal k v = 0 then 0 else 1
theorem okCheckG (n : Nat) (k v : Int) (h0 : 0 ≤ v) (h1 : v < 18446744073709551616) : callP (level E (n+4)) 72 [.int .i64 k,.int .u64 v] = some (.int .i64 (ckB1 k v)):=by
  rw [p72]
  have h:=okCheckValue n k v h0 h1
  by_cases hv : ckVal k v = 0
  · simp only [go_sem,Nat.reduceAdd,Nat.reduceSub,Nat.reduceMul,Nat.reduceDiv,Nat.reduceMod,Nat.reduceLeDiff,Nat.reduceLT,Nat.reduceBEq,Int.reduceToNat,Int.reduceLT,Int.reduceLE,Int.reduceEq,h,hv,ne_eq,not_true_eq_false,okWhen,ckB1,Bool.false_eq_true]
  · simp only [go_sem,Nat.reduceAdd,Nat.reduceSub,Nat.reduceMul,Nat.reduceDiv,Nat.reduceMod,Nat.reduceLeDiff,Nat.reduceLT,Nat.reduceBEq,Int.reduceToNat,Int.reduceLT,Int.reduceLE,Int.reduceEq,h,hv,ne_eq,not_false_eq_true,okWhen,ckB1,Bool.false_eq_true]
end Go.Vm.P4Z

/- Chapter 04,functions: the reference's points. -/
set_option maxRecDepth 100000
set_option maxHeartbeats 2000000
namespace Go.Vm.P4Z
open Go Go.Vm Go.Vm.P4
def ptW : Bx → Int → List Int
  | [],_ => []
  | r :: b,n => ad r.lo (n.tmod r.ex) :: ptW b (wrp .i64 (n.tdiv r.ex))
theorem pt_fold : ∀ (l : Bx) (acc : List Int) (n : Int),(l.foldl (fun (a : List Int × Int) r => (a.1 ++ [ad r.lo (a.2.tmod r.ex)],wrp .i64 (a.2.tdiv r.ex))) (acc,n)).1 = acc ++ ptW l n
  | [],acc,n => by simp [ptW]
  | r :: l,acc,n => by simp only [List.foldl_cons,pt_fold l,ptW,List.append_assoc,List.cons_append,List.nil_append]
theorem okRPoint (n : Nat) (b : Bool) (l : Bx) (k : Int) (hl : l.length < 1000000) (hx : ∀ r ∈ l,r.ex ≠ 0) : callP (level E (n+1)) 75 [enB b l,.int .i64 k] = some (slD true 1 ((ptW l k).map ic)):=by
  rw [p75]
  simp only [go_sem,Nat.reduceAdd,Nat.reduceSub,Nat.reduceMul,Nat.reduceDiv,Nat.reduceMod,Nat.reduceLeDiff,Nat.reduceLT,Nat.reduceBEq,Int.reduceToNat,Int.reduceLT,Int.reduceLE,Int.reduceEq]
  have h:=loop_fold (f:=aCode (level E (n)) ⟨0,false⟩ b75_0) (h:=head ⟨0,false⟩ [1,1,0,1,1,0]) (Φ:=outC ⟨0,false⟩ [0,0,0,1,0,0]) l (fun (a : List Int × Int) i => ⟨[.imm (slD b 2 (l.map enR)),.imm (.int .i64 a.2),.junk,vK 0 1 (a.1.map ic),.imm (.int .i64 i),.junk],oK 1 (a.1.map ic),none⟩) (fun a i => a.1.length = i)
    (fun a r => (a.1 ++ [ad r.lo (a.2.tmod r.ex)],wrp .i64 (a.2.tdiv r.ex))) (fun a => some (.exit 0,⟨[.junk,.junk,.junk,vK 0 1 (a.1.map ic),.junk,.junk],oK 1 (a.1.map ic),none⟩)) ([],k) rfl
    (fun a i r hI h2 h1 => ⟨by
      rw [rnd_eq]
      have e1 : (a.1.length + 1) * 9 ≤ 70368744177664:=by omega
      have e2:=hx r (List.mem_of_getElem? h1)
      rcases a with ⟨_ | ⟨y,t⟩,m⟩
      · simp only [go_sem,Nat.reduceAdd,Nat.reduceSub,Nat.reduceMul,Nat.reduceDiv,Nat.reduceMod,Nat.reduceLeDiff,Nat.reduceLT,Nat.reduceBEq,Int.reduceToNat,Int.reduceLT,Int.reduceLE,Int.reduceEq,lt_t h2,h1,ad,vK,oK,e2,ne_eq,not_false_eq_true]
        rw [wrpS (by omega)]
      · simp only [List.length_cons] at e1
        simp only [go_sem,Nat.reduceAdd,Nat.reduceSub,Nat.reduceMul,Nat.reduceDiv,Nat.reduceMod,Nat.reduceLeDiff,Nat.reduceLT,Nat.reduceBEq,Int.reduceToNat,Int.reduceLT,Int.reduceLE,Int.reduceEq,lt_t h2,h1,ad,vK,oK,e1,e2,ne_eq,not_false_eq_true]
        rw [wrpS (by omega)],by simp [hI]⟩)
    (fun a _ => by
      rw [rnd_eq]
      rcases a with ⟨_ | ⟨y,t⟩,m⟩ <;> simp only [go_sem,Nat.reduceAdd,Nat.reduceSub,Nat.reduceMul,Nat.reduceDiv,Nat.reduceMod,Nat.reduceLeDiff,Nat.reduceLT,Nat.reduceBEq,Int.reduceToNat,Int.reduceLT,Int.reduceLE,Int.reduceEq,lt_f (Nat.le_refl _),vK,oK])
  rw [cast_0] at h
  simp only [List.map_nil,vK,oK] at h
  rw [h]
  generalize hA : (l.foldl (fun (a : List Int × Int) r => (a.1 ++ [ad r.lo (a.2.tmod r.ex)],wrp .i64 (a.2.tdiv r.ex))) ([],k)).1 = A
  have e:=pt_fold l [] k
  rw [hA,List.nil_append] at e
  rw [← e]
  rcases A with _ | ⟨y,t⟩ <;> simp only [go_sem,Nat.reduceAdd,Nat.reduceSub,Nat.reduceMul,Nat.reduceDiv,Nat.reduceMod,Nat.reduceLeDiff,Nat.reduceLT,Nat.reduceBEq,Int.reduceToNat,Int.reduceLT,Int.reduceLE,Int.reduceEq,vK,oK,slD]
theorem okRHas (n : Nat) (b c : Bool) (l : Bx) (p : List Int) (hl : l.length < 1000000000) (hp : l.length ≤ p.length) : callP (level E (n+1)) 47 [enB b l,slD c 1 (p.map ic)] = some (.bool (hasB l p)):=by
  rw [p47]
  simp only [go_sem,Nat.reduceAdd,Nat.reduceSub,Nat.reduceMul,Nat.reduceDiv,Nat.reduceMod,Nat.reduceLeDiff,Nat.reduceLT,Nat.reduceBEq,Int.reduceToNat,Int.reduceLT,Int.reduceLE,Int.reduceEq]
  have h:=loop_run (f:=aCode (level E (n)) ⟨0,false⟩ b47_0) (h:=head ⟨0,false⟩ [1,1,0,1,0,0]) (Φ:=outC ⟨0,false⟩ [0,0,1,0,0,0]) l (fun (_ : List Int) i => ⟨[.imm (slD b 2 (l.map enR)),.imm (slD c 1 (p.map ic)),.junk,.imm (.int .i64 i),.junk,.junk],[],none⟩) (fun a i => p.drop i = a)
    (fun a r => match a with | [] => .inl [] | x :: t => if x < r.lo ∨ x ≥ ad r.lo r.ex then .inr (some (.ret,⟨[.junk,.junk,.imm (.bool false),.junk,.junk,.junk],[],none⟩)) else .inl t) (fun _ => some (.exit 0,⟨[.junk,.junk,.junk,.junk,.junk,.junk],[],none⟩)) p rfl
    (fun a i r hI h2 h1 => by
      rcases a with _ | ⟨x,t⟩
      · have:=drop_n hI; omega
      obtain ⟨q1,q2,q3⟩:=drop_c hI
      refine ⟨?_,fun t' ht => ?_⟩
      · rw [rnd_eq]
        by_cases k1 : x < r.lo
        · simp only [go_sem,Nat.reduceAdd,Nat.reduceSub,Nat.reduceMul,Nat.reduceDiv,Nat.reduceMod,Nat.reduceLeDiff,Nat.reduceLT,Nat.reduceBEq,Int.reduceToNat,Int.reduceLT,Int.reduceLE,Int.reduceEq,lt_t h2,h1,q1,k1,true_or]
        · by_cases k2 : x ≥ ad r.lo r.ex
          · have k3 : x ≥ wrp .i64 (r.lo + r.ex):=k2
            simp only [go_sem,Nat.reduceAdd,Nat.reduceSub,Nat.reduceMul,Nat.reduceDiv,Nat.reduceMod,Nat.reduceLeDiff,Nat.reduceLT,Nat.reduceBEq,Int.reduceToNat,Int.reduceLT,Int.reduceLE,Int.reduceEq,lt_t h2,h1,q1,k1,k2,k3,or_true]
          · have k3 : ¬ x ≥ wrp .i64 (r.lo + r.ex):=k2
            simp only [go_sem,Nat.reduceAdd,Nat.reduceSub,Nat.reduceMul,Nat.reduceDiv,Nat.reduceMod,Nat.reduceLeDiff,Nat.reduceLT,Nat.reduceBEq,Int.reduceToNat,Int.reduceLT,Int.reduceLE,Int.reduceEq,lt_t h2,h1,q1,k1,k2,k3,or_self]
            rw [wrpS (by omega)]
      · dsimp only at ht
        split at ht
        · cases ht
        · injection ht with ht; rw [← ht]; exact q3)
    (fun _ _ => by
      rw [rnd_eq]
      simp only [go_sem,Nat.reduceAdd,Nat.reduceSub,Nat.reduceMul,Nat.reduceDiv,Nat.reduceMod,Nat.reduceLeDiff,Nat.reduceLT,Nat.reduceBEq,Int.reduceToNat,Int.reduceLT,Int.reduceLE,Int.reduceEq,lt_f (Nat.le_refl _)])
  rw [cast_0] at h
  rw [h]
  clear h hl
  induction l generalizing p with
  | nil => simp only [go_sem,Nat.reduceAdd,Nat.reduceSub,Nat.reduceMul,Nat.reduceDiv,Nat.reduceMod,Nat.reduceLeDiff,Nat.reduceLT,Nat.reduceBEq,Int.reduceToNat,Int.reduceLT,Int.reduceLE,Int.reduceEq,runL_nil,hasB]
  | cons r l ih =>
    rcases p with _ | ⟨x,t⟩
    · simp at hp
    by_cases k : x < r.lo ∨ x ≥ ad r.lo r.ex
    · simp only [go_sem,Nat.reduceAdd,Nat.reduceSub,Nat.reduceMul,Nat.reduceDiv,Nat.reduceMod,Nat.reduceLeDiff,Nat.reduceLT,Nat.reduceBEq,Int.reduceToNat,Int.reduceLT,Int.reduceLE,Int.reduceEq,runL_cons,hasB,k]
    · simp only [runL_cons,hasB,k,if_false]
      exact ih t (by simpa using hp)
theorem okRCheckPoint (n : Nat) (b c : Bool) (l : Bx) (p : List Int) : callP (level E (n+2)) 46 [enB b l,slD c 1 (p.map ic)] = some (.int .i64 (if p.length = l.length then 0 else 13)):=by
  rw [p46]
  by_cases h : p.length = l.length
  · simp only [go_sem,Nat.reduceAdd,Nat.reduceSub,Nat.reduceMul,Nat.reduceDiv,Nat.reduceMod,Nat.reduceLeDiff,Nat.reduceLT,Nat.reduceBEq,Int.reduceToNat,Int.reduceLT,Int.reduceLE,Int.reduceEq,h,okQWhen,ne_eq,not_true_eq_false]
  · have h' : ¬ (p.length : Int) = l.length:=by omega
    simp only [go_sem,Nat.reduceAdd,Nat.reduceSub,Nat.reduceMul,Nat.reduceDiv,Nat.reduceMod,Nat.reduceLeDiff,Nat.reduceLT,Nat.reduceBEq,Int.reduceToNat,Int.reduceLT,Int.reduceLE,Int.reduceEq,h,h',okQWhen,ne_eq,not_false_eq_true]
theorem okLPoint (n : Nat) (b : Bool) (l : List Int) (hl : l.length < 1000000) : callP (level E (n+1)) 20 [slD b 1 (l.map ic)] = some (slD false 1 (l.map ic)):=by
  rw [p20]
  rcases l with _ | ⟨x,t⟩
  · cases b <;> simp only [go_sem,Nat.reduceAdd,Nat.reduceSub,Nat.reduceMul,Nat.reduceDiv,Nat.reduceMod,Nat.reduceLeDiff,Nat.reduceLT,Nat.reduceBEq,Int.reduceToNat,Int.reduceLT,Int.reduceLE,Int.reduceEq,slD] <;> rfl
  · have e : (t.length + 1) * 9 ≤ 70368744177664:=by simp at hl; omega
    have e0 : slD b 1 ((x :: t).map ic) = .sl 1 ((x :: t).map ic):=by cases b <;> rfl
    rw [e0]
    simp only [go_sem,Nat.reduceAdd,Nat.reduceSub,Nat.reduceMul,Nat.reduceDiv,Nat.reduceMod,Nat.reduceLeDiff,Nat.reduceLT,Nat.reduceBEq,Int.reduceToNat,Int.reduceLT,Int.reduceLE,Int.reduceEq,e] <;> rfl
end Go.Vm.P4Z

/- Chapter 04,functions: the reference's values. -/
set_option maxRecDepth 100000
set_option maxHeartbeats 2000000
namespace Go.Vm.P4Z
open Go Go.Vm Go.Vm.P4
theorem okQCheckKind (n : Nat) (k : Int) : callP (level E (n+2)) 42 [.int .i64 k] = some (.int .i64 (ckKind k)):=by
  rw [p42]
  by_cases h : k < 0
  · have e : ¬ (0 ≤ k ∧ k < 11):=by omega
    simp only [go_sem,Nat.reduceAdd,Nat.reduceSub,Nat.reduceMul,Nat.reduceDiv,Nat.reduceMod,Nat.reduceLeDiff,Nat.reduceLT,Nat.reduceBEq,Int.reduceToNat,Int.reduceLT,Int.reduceLE,Int.reduceEq,h,okQWhen,ckKind,e]
  · by_cases h2 : k ≥ 11
    · have e : ¬ (0 ≤ k ∧ k < 11):=by omega
      simp only [go_sem,Nat.reduceAdd,Nat.reduceSub,Nat.reduceMul,Nat.reduceDiv,Nat.reduceMod,Nat.reduceLeDiff,Nat.reduceLT,Nat.reduceBEq,Int.reduceToNat,Int.reduceLT,Int.reduceLE,Int.reduceEq,h,h2,okQWhen,ckKind,e]
    · have e : 0 ≤ k ∧ k < 11:=by omega
      simp only [go_sem,Nat.reduceAdd,Nat.reduceSub,Nat.reduceMul,Nat.reduceDiv,Nat.reduceMod,Nat.reduceLeDiff,Nat.reduceLT,Nat.reduceBEq,Int.reduceToNat,Int.reduceLT,Int.reduceLE,Int.reduceEq,h,h2,okQWhen,ckKind,e,and_self,Bool.false_eq_true]
theorem okQWidth (n : Nat) (k : Int) (hk : ckKind k = 0) : callP (level E (n+1)) 104 [.int .i64 k] = some (.int .i64 (wdL.getD k.toNat 0)):=by
  have hk' : 0 ≤ k ∧ k < 11:=by unfold ckKind at hk; split at hk; assumption; omega
  rw [p104]
  have hc : k = 0 ∨ k = 1 ∨ k = 2 ∨ k = 3 ∨ k = 4 ∨ k = 5 ∨ k = 6 ∨ k = 7 ∨ k = 8 ∨ k = 9 ∨ k = 10:=by omega
  rcases hc with rfl | rfl | rfl | rfl | rfl | rfl | rfl | rfl | rfl | rfl | rfl <;> simp only [go_sem,Nat.reduceAdd,Nat.reduceSub,Nat.reduceMul,Nat.reduceDiv,Nat.reduceMod,Nat.reduceLeDiff,Nat.reduceLT,Nat.reduceBEq,Int.reduceToNat,Int.reduceLT,Int.reduceLE,Int.reduceEq] <;> rfl
def mskF (w : Nat) : Int:=(List.range w).foldl (fun a _ => wrp .u64 (wrp .u64 (2 * a) + 1)) 0
theorem okQMask (n : Nat) (w : Nat) (hw : w < 1000000) : callP (level E (n+1)) 103 [.int .i64 w] = some (.int .u64 (mskF w)):=by
  rw [p103]
  simp only [go_sem,Nat.reduceAdd,Nat.reduceSub,Nat.reduceMul,Nat.reduceDiv,Nat.reduceMod,Nat.reduceLeDiff,Nat.reduceLT,Nat.reduceBEq,Int.reduceToNat,Int.reduceLT,Int.reduceLE,Int.reduceEq]
  have h:=loop_fold (f:=aCode (level E (n)) ⟨0,false⟩ b103_0) (h:=head ⟨0,false⟩ [1,0,1,1,0]) (Φ:=outC ⟨0,false⟩ [0,0,1,0,0]) (List.range w) (fun (a : Int) i => ⟨[.imm (.int .i64 w),.junk,.imm (.int .u64 a),.imm (.int .i64 i),.junk],[],none⟩) (fun _ _ => True)
    (fun a x => wrp .u64 (wrp .u64 (2 * a) + 1)) (fun a => some (.exit 0,⟨[.junk,.junk,.imm (.int .u64 a),.junk,.junk],[],none⟩)) 0 trivial
    (fun a i x _ h2 h1 => ⟨by
      rw [List.length_range] at h2
      rw [rnd_eq]
      simp only [go_sem,Nat.reduceAdd,Nat.reduceSub,Nat.reduceMul,Nat.reduceDiv,Nat.reduceMod,Nat.reduceLeDiff,Nat.reduceLT,Nat.reduceBEq,Int.reduceToNat,Int.reduceLT,Int.reduceLE,Int.reduceEq,lt_t h2]
      rw [wrpS (by omega)],trivial⟩)
    (fun _ _ => by
      rw [rnd_eq]
      rw [List.length_range]
      simp only [go_sem,Nat.reduceAdd,Nat.reduceSub,Nat.reduceMul,Nat.reduceDiv,Nat.reduceMod,Nat.reduceLeDiff,Nat.reduceLT,Nat.reduceBEq,Int.reduceToNat,Int.reduceLT,Int.reduceLE,Int.reduceEq,lt_f (Nat.le_refl _)])
  rw [cast_0] at h
  rw [h]
  simp only [go_sem,Nat.reduceAdd,Nat.reduceSub,Nat.reduceMul,Nat.reduceDiv,Nat.reduceMod,Nat.reduceLeDiff,Nat.reduceLT,Nat.reduceBEq,Int.reduceToNat,Int.reduceLT,Int.reduceLE,Int.reduceEq,mskF]
theorem msk : mskF 1 = 1 ∧ mskF 8 = 255 ∧ mskF 16 = 65535 ∧ mskF 32 = 4294967295 ∧ mskF 64 = 18446744073709551615:=by decide +kernel
theorem okQPart (n : Nat) (v : Int) (h0 : 0 ≤ v) (h1 : v < 18446744073709551616) : callP (level E (n+1)) 105 [.int .u64 v] = some (.bool (decide (v / 8388608 % 256 ≠ 255) && decide (v ≠ 2147483648))):=by
  rw [p105]
  have d1 : 0 ≤ v / 8388608:=Int.ediv_nonneg h0 (by decide)
  have d2 : v / 8388608 ≤ v:=Int.ediv_le_self _ h0
  have e1 : v.tdiv 8388608 = v / 8388608:=Int.tdiv_eq_ediv_of_nonneg h0
  have e2 : wrp .u64 (v / 8388608) = v / 8388608:=wrpU d1 (by omega)
  have e3 : (v / 8388608).tmod 256 = v / 8388608 % 256:=Int.tmod_eq_emod_of_nonneg d1
  have n1 : (8388608 : Int) ≠ 0:=by decide
  have n2 : (256 : Int) ≠ 0:=by decide
  by_cases h : v / 8388608 % 256 = 255
  · simp only [go_sem,Nat.reduceAdd,Nat.reduceSub,Nat.reduceMul,Nat.reduceDiv,Nat.reduceMod,Nat.reduceLeDiff,Nat.reduceLT,Nat.reduceBEq,Int.reduceToNat,Int.reduceLT,Int.reduceLE,Int.reduceEq,n1,n2,e1,e2,e3,h,ne_eq,not_true_eq_false,not_false_eq_true,Bool.false_and]
  · by_cases h' : v = 2147483648
    · subst h'
      simp only [go_sem,Nat.reduceAdd,Nat.reduceSub,Nat.reduceMul,Nat.reduceDiv,Nat.reduceMod,Nat.reduceLeDiff,Nat.reduceLT,Nat.reduceBEq,Int.reduceToNat,Int.reduceLT,Int.reduceLE,Int.reduceEq,n1,n2,e1,e2,e3,h,ne_eq,not_true_eq_false,not_false_eq_true,Bool.and_false]
    · simp only [go_sem,Nat.reduceAdd,Nat.reduceSub,Nat.reduceMul,Nat.reduceDiv,Nat.reduceMod,Nat.reduceLeDiff,Nat.reduceLT,Nat.reduceBEq,Int.reduceToNat,Int.reduceLT,Int.reduceLE,Int.reduceEq,n1,n2,e1,e2,e3,h,h',ne_eq,not_true_eq_false,not_false_eq_true,Bool.and_true]
theorem part_rf {v : Int} (h0 : 0 ≤ v) (h1 : v < 4294967296) : (decide (v / 8388608 % 256 ≠ 255) && decide (v ≠ 2147483648)) = rfOk v:=by
  unfold rfOk
  rw [Int.emod_eq_of_lt h0 h1]
theorem okQCheckValue (n : Nat) (k v : Int) (h0 : 0 ≤ v) (h1 : v < 18446744073709551616) : callP (level E (n+3)) 44 [.agg [.int .i64 k,.int .u64 v]] = some (.int .i64 (ckVal k v)):=by
  rw [p44]
  have i1:=okQCheckKind n k
  by_cases hk : ckKind k = 0
  · have hk' : 0 ≤ k ∧ k < 11:=by unfold ckKind at hk; split at hk; assumption; omega
    have w1:=okQWidth (n+1) k hk
    obtain ⟨m1,m8,m16,m32,m64⟩:=msk
    have q1:=okQMask (n+1) 1 (by decide)
    have q8:=okQMask (n+1) 8 (by decide)
    have q16:=okQMask (n+1) 16 (by decide)
    have q32:=okQMask (n+1) 32 (by decide)
    have q64:=okQMask (n+1) 64 (by decide)
    rw [m1] at q1; rw [m8] at q8; rw [m16] at q16; rw [m32] at q32; rw [m64] at q64
    have c8 : ((8 : Nat) : Int) = 8:=rfl
    have c1 : ((1 : Nat) : Int) = 1:=rfl
    have c16 : ((16 : Nat) : Int) = 16:=rfl
    have c32 : ((32 : Nat) : Int) = 32:=rfl
    have c64 : ((64 : Nat) : Int) = 64:=rfl
    rw [c1] at q1; rw [c8] at q8; rw [c16] at q16; rw [c32] at q32; rw [c64] at q64
    have n1 : (4294967296 : Int) ≠ 0:=by decide
    have hc : k = 0 ∨ k = 1 ∨ k = 2 ∨ k = 3 ∨ k = 4 ∨ k = 5 ∨ k = 6 ∨ k = 7 ∨ k = 8 ∨ k = 9 ∨ k = 10:=by omega
    rw [hk] at i1
    have key : ∀ w m : Int,callP (level E (n+2)) 104 [.int .i64 k] = some (.int .i64 w) → callP (level E (n+2)) 103 [.int .i64 w] = some (.int .u64 m) → k ≠ 9 → k ≠ 10 → vOk k v = decide (v < m + 1) →
        pdC (fin [RV.v 1] (aCode (level E (n+2)) ⟨0,false⟩ c44 ⟨[.imm (.agg [.int .i64 k,.int .u64 v]),.junk,.junk,.junk,.junk,.junk,.junk,.junk],[],none⟩)) = some (.int .i64 (ckVal k v)):=by
      intro w m a1 a2 k9 k10 hv
      by_cases h : v ≤ m
      · have h' : v < m + 1:=by omega
        simp only [go_sem,Nat.reduceAdd,Nat.reduceSub,Nat.reduceMul,Nat.reduceDiv,Nat.reduceMod,Nat.reduceLeDiff,Nat.reduceLT,Nat.reduceBEq,Int.reduceToNat,Int.reduceLT,Int.reduceLE,Int.reduceEq,i1,a1,a2,h,h',k9,k10,hk,hv,okQWhen,ckVal,ne_eq,not_true_eq_false,Bool.false_eq_true]
      · have h' : ¬ v < m + 1:=by omega
        simp only [go_sem,Nat.reduceAdd,Nat.reduceSub,Nat.reduceMul,Nat.reduceDiv,Nat.reduceMod,Nat.reduceLeDiff,Nat.reduceLT,Nat.reduceBEq,Int.reduceToNat,Int.reduceLT,Int.reduceLE,Int.reduceEq,i1,a1,a2,h,h',k9,k10,hk,hv,okQWhen,ckVal,ne_eq,not_true_eq_false,Bool.false_eq_true]
    rcases hc with rfl | rfl | rfl | rfl | rfl | rfl | rfl | rfl | rfl | rfl | rfl
    · exact key 1 1 w1 q1 (by decide) (by decide) rfl
    · exact key 8 255 w1 q8 (by decide) (by decide) rfl
    · exact key 16 65535 w1 q16 (by decide) (by decide) rfl
    · exact key 32 4294967295 w1 q32 (by decide) (by decide) rfl
    · exact key 64 18446744073709551615 w1 q64 (by decide) (by decide) rfl
    · exact key 8 255 w1 q8 (by decide) (by decide) rfl
    · exact key 16 65535 w1 q16 (by decide) (by decide) rfl
    · exact key 32 4294967295 w1 q32 (by decide) (by decide) rfl
    · exact key 64 18446744073709551615 w1 q64 (by decide) (by decide) rfl
    · rw [show wdL.getD (9 : Int).toNat 0 = 32 from rfl] at w1
      have hv : vOk 9 v = (decide (v < 4294967296) && rfOk v):=rfl
      have pq:=okQPart (n+1) v h0 h1
      by_cases h : v ≤ 4294967295
      · have h' : v < 4294967296:=by omega
        rw [part_rf h0 h'] at pq
        cases hr : rfOk v
        · rw [hr] at pq
          simp only [go_sem,Nat.reduceAdd,Nat.reduceSub,Nat.reduceMul,Nat.reduceDiv,Nat.reduceMod,Nat.reduceLeDiff,Nat.reduceLT,Nat.reduceBEq,Int.reduceToNat,Int.reduceLT,Int.reduceLE,Int.reduceEq,i1,w1,q32,pq,h,h',hk,hv,hr,okQWhen,ckVal,ne_eq,not_true_eq_false,Bool.false_eq_true]
        · rw [hr] at pq
          simp only [go_sem,Nat.reduceAdd,Nat.reduceSub,Nat.reduceMul,Nat.reduceDiv,Nat.reduceMod,Nat.reduceLeDiff,Nat.reduceLT,Nat.reduceBEq,Int.reduceToNat,Int.reduceLT,Int.reduceLE,Int.reduceEq,i1,w1,q32,pq,h,h',hk,hv,hr,okQWhen,ckVal,ne_eq,not_true_eq_false,Bool.false_eq_true]
      · have h' : ¬ v < 4294967296:=by omega
        simp only [go_sem,Nat.reduceAdd,Nat.reduceSub,Nat.reduceMul,Nat.reduceDiv,Nat.reduceMod,Nat.reduceLeDiff,Nat.reduceLT,Nat.reduceBEq,Int.reduceToNat,Int.reduceLT,Int.reduceLE,Int.reduceEq,i1,w1,q32,h,h',hk,hv,okQWhen,ckVal,ne_eq,not_true_eq_false,Bool.false_eq_true]
    · rw [show wdL.getD (10 : Int).toNat 0 = 64 from rfl] at w1
      have hv : vOk 10 v = (rfOk (v % 4294967296) && rfOk (v / 4294967296)):=rfl
      have d1 : 0 ≤ v / 4294967296:=Int.ediv_nonneg h0 (by decide)
      have d2 : v / 4294967296 < 4294967296:=by omega
      have e1 : v.tdiv 4294967296 = v / 4294967296:=Int.tdiv_eq_ediv_of_nonneg h0
      have e2 : wrp .u64 (v / 4294967296) = v / 4294967296:=wrpU d1 (by omega)
      have e3 : v.tmod 4294967296 = v % 4294967296:=Int.tmod_eq_emod_of_nonneg h0
      have pq:=okQPart (n+1) (v % 4294967296) (by omega) (by omega)
      have pr:=okQPart (n+1) (v / 4294967296) d1 (by omega)
      rw [part_rf (by omega) (by omega)] at pq pr
      have h : v ≤ 18446744073709551615:=by omega
      cases hr : rfOk (v % 4294967296)
      · rw [hr] at pq
        simp only [go_sem,Nat.reduceAdd,Nat.reduceSub,Nat.reduceMul,Nat.reduceDiv,Nat.reduceMod,Nat.reduceLeDiff,Nat.reduceLT,Nat.reduceBEq,Int.reduceToNat,Int.reduceLT,Int.reduceLE,Int.reduceEq,n1,e3,i1,w1,q64,pq,h,hk,hv,hr,okQWhen,ckVal,ne_eq,not_true_eq_false,not_false_eq_true,Bool.false_eq_true]
      · rw [hr] at pq
        cases hr2 : rfOk (v / 4294967296)
        · rw [hr2] at pr
          simp only [go_sem,Nat.reduceAdd,Nat.reduceSub,Nat.reduceMul,Nat.reduceDiv,Nat.reduceMod,Nat.reduceLeDiff,Nat.reduceLT,Nat.reduceBEq,Int.reduceToNat,Int.reduceLT,Int.reduceLE,Int.reduceEq,n1,e1,e2,e3,i1,w1,q64,pq,pr,h,hk,hv,hr,hr2,okQWhen,ckVal,ne_eq,not_true_eq_false,not_false_eq_true,Bool.false_eq_true]
        · rw [hr2] at pr
          simp only [go_sem,Nat.reduceAdd,Nat.reduceSub,Nat.reduceMul,Nat.reduceDiv,Nat.reduceMod,Nat.reduceLeDiff,Nat.reduceLT,Nat.reduceBEq,Int.reduceToNat,Int.reduceLT,Int.reduceLE,Int.reduceEq,n1,e1,e2,e3,i1,w1,q64,pq,pr,h,hk,hv,hr,hr2,okQWhen,ckVal,ne_eq,not_true_eq_false,not_false_eq_true,Bool.false_eq_true]
  · simp only [go_sem,Nat.reduceAdd,Nat.reduceSub,Nat.reduceMul,Nat.reduceDiv,Nat.reduceMod,Nat.reduceLeDiff,Nat.reduceLT,Nat.reduceBEq,Int.reduceToNat,Int.reduceLT,Int.reduceLE,Int.reduceEq,i1,hk,ckVal,ne_eq,not_false_eq_true]
    rcases ckKind01 k with h | h
    · exact absurd h hk
    · rw [h]
end Go.Vm.P4Z

/- Chapter 04,plain law: points and indices. -/
set_option maxRecDepth 100000
set_option maxHeartbeats 1000000
namespace Go.Vm.P4Z
open Go Go.Vm Go.Vm.P4
def Okr (l : Bx) : Prop:=∀ r ∈ l,ckRange r = 0
theorem Okr.tl {r : Rg} {l : Bx} (h : Okr (r :: l)) : Okr l:=fun x hx => h x (List.mem_cons_of_mem _ hx)
theorem ad_lo {r : Rg} {x : Int} (h : ckRange r = 0) (h0 : 0 ≤ x) (h1 : x ≤ 64) : ad r.lo x = r.lo + x:=by
  have:=ckRange0 h
  exact wrp_ok (by omega)
theorem ptW_dig : ∀ (l : Bx) (n : Int),Okr l → (∀ r ∈ l,0 < r.ex) → 0 ≤ n → n < 4611686018427387904 → ptW l n = digits l n
  | [],n,_,_,_,_ => rfl
  | r :: l,n,h,hx,hn,hb => by
    have hr:=ckRange0 (h r (by simp))
    have hr0:=hx r (by simp)
    have m0:=Int.emod_nonneg n (show r.ex ≠ 0 by omega)
    have m1:=Int.emod_lt_of_pos n hr0
    have e1 : n.tmod r.ex = n % r.ex:=Int.tmod_eq_emod_of_nonneg hn
    have e2 : n.tdiv r.ex = n / r.ex:=Int.tdiv_eq_ediv_of_nonneg hn
    have d0 : 0 ≤ n / r.ex:=Int.ediv_nonneg hn (by omega)
    have d1 : n / r.ex ≤ n:=Int.ediv_le_self _ hn
    rw [ptW,digits,e1,e2,ad_lo (h r (by simp)) m0 (by omega),wrp_ok (by omega),ptW_dig l _ h.tl (fun x hx' => hx x (List.mem_cons_of_mem _ hx')) d0 (by omega)]
def InB : Bx → List Int → Prop
  | r :: l,x :: p => r.lo ≤ x ∧ x < r.lo + r.ex ∧ InB l p
  | [],[] => True
  | _,_ => False
theorem digits_in : ∀ (l : Bx) (n : Int),(∀ r ∈ l,0 < r.ex) → InB l (digits l n)
  | [],_,_ => True.intro
  | r :: l,n,hx => by
    have hr0:=hx r (by simp)
    have m0:=Int.emod_nonneg n (show r.ex ≠ 0 by omega)
    have m1:=Int.emod_lt_of_pos n hr0
    exact ⟨by omega,by omega,digits_in l _ (fun x hx' => hx x (List.mem_cons_of_mem _ hx'))⟩
theorem nextW_P : ∀ (l : Bx) (p q : List Int),Okr l → InB l p → nextW l (p ++ q) = nextP l p ++ q
  | [],[],q,_,_ => by cases q <;> rfl
  | [],_ :: _,_,_,h => h.elim
  | _ :: _,[],_,_,h => h.elim
  | r :: l,x :: p,q,h,hi => by
    have hr:=ckRange0 (h r (by simp))
    obtain ⟨h1,h2,h3⟩:=hi
    have e1 : ad x 1 = x + 1:=wrp_ok (by omega)
    have e2 : ad r.lo r.ex = r.lo + r.ex:=wrp_ok (by omega)
    rw [List.cons_append,nextW,nextP,e1,e2]
    by_cases hc : x + 1 < r.lo + r.ex
    · rw [if_pos hc,if_pos hc]; rfl
    · rw [if_neg hc,if_neg hc,nextW_P l p q h.tl h3]; rfl
theorem plc_dig (l : Bx) (h : Okr l) (h3 : l.length ≤ 3) (hx : ∀ r ∈ l,0 < r.ex) : ∀ i : Nat,plc l i = digits l i ++ List.replicate (3 - l.length) 0
  | 0 => by
    rw [plc,plc0,show ((0 : Nat) : Int) = 0 from rfl,digits_zero,lows]
    rcases l with _ | ⟨r,_ | ⟨s,_ | ⟨t,_ | ⟨u,l⟩⟩⟩⟩
    · rfl
    · rfl
    · rfl
    · rfl
    · simp at h3
  | i + 1 => by
    rw [plc,plc_dig l h h3 hx i,nextW_P l _ _ h (digits_in l _ hx),next_digits l _ hx (by omega)]
    rfl
theorem plc_take (l : Bx) (h : Okr l) (h3 : l.length ≤ 3) (hx : ∀ r ∈ l,0 < r.ex) (i : Nat) : (plc l i).take l.length = digits l i:=by
  rw [plc_dig l h h3 hx i,List.take_append_of_le_length (by rw [digits_len]; exact Nat.le_refl _),List.take_of_length_le (by rw [digits_len]; exact Nat.le_refl _)]
theorem many_cons1 (r : Rg) : many [r] = ml 1 r.ex:=rfl
theorem many_cons2 (r s : Rg) : many [r,s] = ml (ml 1 r.ex) s.ex:=rfl
theorem many_cons3 (r s t : Rg) : many [r,s,t] = ml (ml (ml 1 r.ex) s.ex) t.ex:=rfl
theorem ex_pos {l : Bx} (h : Okr l) (hm : many l ≠ 0) : ∀ r ∈ l,0 < r.ex:=by
  intro r hr
  have h1:=(ckRange0 (h r hr)).2.2.1
  rcases Int.lt_or_eq_of_le h1 with h2 | h2
  · exact h2
  · exfalso
    apply hm
    have key : ∀ (l : Bx) (n : Int),r ∈ l → l.foldl (fun n r => ml n r.ex) n = 0:=by
      intro l
      have zero : ∀ l : Bx,l.foldl (fun n r => ml n r.ex) 0 = 0:=by
        intro l
        induction l with
        | nil => rfl
        | cons x l ih => rw [List.foldl_cons,show ml 0 x.ex = 0 from by rw [ml,Int.zero_mul]; decide]; exact ih
      induction l with
      | nil => intro n h; cases h
      | cons x l ih =>
        intro n hm
        rw [List.foldl_cons]
        rcases List.mem_cons.1 hm with rfl | hm
        · rw [← h2,show ml n 0 = 0 from by rw [ml,Int.mul_zero]; decide]; exact zero l
        · exact ih _ hm
    exact key l 1 hr
theorem hasB_in : ∀ (l : Bx) (p : List Int),Okr l → p.length = l.length → (hasB l p = true ↔ InB l p)
  | [],[],_,_ => by simp [hasB,InB]
  | [],_ :: _,_,h => by simp at h
  | _ :: _,[],_,h => by simp at h
  | r :: l,x :: p,h,hl => by
    have hr:=ckRange0 (h r (by simp))
    have e2 : ad r.lo r.ex = r.lo + r.ex:=wrp_ok (by omega)
    have ih:=hasB_in l p h.tl (by simpa using hl)
    rw [hasB,e2,InB]
    by_cases hc : x < r.lo ∨ x ≥ r.lo + r.ex
    · rw [if_pos hc]
      constructor
      · intro h; cases h
      · intro ⟨h1,h2,_⟩; omega
    · rw [if_neg hc,ih]
      constructor
      · intro h; exact ⟨by omega,by omega,h⟩
      · intro ⟨_,_,h⟩; exact h
end Go.Vm.P4Z

/- Chapter 04,functions: the reference's images: elements,copies,what is checked. -/
set_option maxRecDepth 100000
set_option maxHeartbeats 4000000
namespace Go.Vm.P4Z
open Go Go.Vm Go.Vm.P4
theorem okRElement (n : Nat) (m : Im) (c : Bool) (p : List Int) (h3 : m.bx.length ≤ 3) (hs : m.bx.length ≤ m.st.length) (hp : m.bx.length ≤ p.length) : callP (level E (n+1)) 74 [enIm m,slD c 1 (p.map ic)] = some (.int .i64 (elt m.bx p m.st 0)):=by
  rw [p74]
  simp only [go_sem,Nat.reduceAdd,Nat.reduceSub,Nat.reduceMul,Nat.reduceDiv,Nat.reduceMod,Nat.reduceLeDiff,Nat.reduceLT,Nat.reduceBEq,Int.reduceToNat,Int.reduceLT,Int.reduceLE,Int.reduceEq,enIm]
  have h:=loop_fold (f:=aCode (level E (n)) ⟨0,false⟩ b74_0) (h:=head ⟨0,false⟩ [0,1,0,1,1,1,0]) (Φ:=outC ⟨0,false⟩ [0,0,0,0,1,0,0]) m.bx (fun (a : List Int × List Int × Int) i => ⟨[.junk,.imm (slD c 1 (p.map ic)),.junk,.ptr 0 0,.imm (.int .i64 a.2.2),.imm (.int .i64 i),.junk],[.box [.imm (.int .i64 m.kd),.imm (enB m.bb m.bx),.imm (slD m.tb 1 (m.st.map ic)),.imm (slD m.db 1 (m.dt.map ub))]],none⟩) (fun a i => p.drop i = a.1 ∧ m.st.drop i = a.2.1)
    (fun a r => (a.1.tail,a.2.1.tail,ad a.2.2 (ml (sb (a.1.headD 0) r.lo) (a.2.1.headD 0)))) (fun a => some (.exit 0,⟨[.junk,.junk,.junk,.junk,.imm (.int .i64 a.2.2),.junk,.junk],[],none⟩)) (p,m.st,0) ⟨rfl,rfl⟩
    (fun a i r hI h2 h1 => by
      rcases a with ⟨_ | ⟨x,t⟩,_ | ⟨y,u⟩,k⟩
      · have:=drop_n hI.1; omega
      · have:=drop_n hI.1; omega
      · have:=drop_n hI.2; omega
      obtain ⟨q1,q2,q3⟩:=drop_c hI.1
      obtain ⟨u1,u2,u3⟩:=drop_c hI.2
      refine ⟨?_,q3,u3⟩
      rw [rnd_eq]
      simp only [go_sem,Nat.reduceAdd,Nat.reduceSub,Nat.reduceMul,Nat.reduceDiv,Nat.reduceMod,Nat.reduceLeDiff,Nat.reduceLT,Nat.reduceBEq,Int.reduceToNat,Int.reduceLT,Int.reduceLE,Int.reduceEq,lt_t h2,h1,q1,u1,enB]
      rw [wrpS (by omega)]
      rfl)
    (fun _ _ => by
      rw [rnd_eq]
      simp only [go_sem,Nat.reduceAdd,Nat.reduceSub,Nat.reduceMul,Nat.reduceDiv,Nat.reduceMod,Nat.reduceLeDiff,Nat.reduceLT,Nat.reduceBEq,Int.reduceToNat,Int.reduceLT,Int.reduceLE,Int.reduceEq,lt_f (Nat.le_refl _),enB])
  rw [cast_0] at h
  simp only [go_sem,Nat.reduceAdd,Nat.reduceSub,Nat.reduceMul,Nat.reduceDiv,Nat.reduceMod,Nat.reduceLeDiff,Nat.reduceLT,Nat.reduceBEq,Int.reduceToNat,Int.reduceLT,Int.reduceLE,Int.reduceEq] at h
  rw [h]
  simp only [go_sem,Nat.reduceAdd,Nat.reduceSub,Nat.reduceMul,Nat.reduceDiv,Nat.reduceMod,Nat.reduceLeDiff,Nat.reduceLT,Nat.reduceBEq,Int.reduceToNat,Int.reduceLT,Int.reduceLE,Int.reduceEq]
  rw [elt_fold m.bx p m.st 0 hp hs]
theorem okRCheckData (n : Nat) (b : Bool) (kd : Int) (l : List Int) (hl : l.length < 1000000) (hv : ∀ v ∈ l,0 ≤ v ∧ v < 18446744073709551616) : callP (level E (n+4)) 73 [.int .i64 kd,slD b 1 (l.map ub)] = some (.int .i64 (fnz (l.map (ckB1 kd)))):=by
  rw [p73]
  simp only [go_sem,Nat.reduceAdd,Nat.reduceSub,Nat.reduceMul,Nat.reduceDiv,Nat.reduceMod,Nat.reduceLeDiff,Nat.reduceLT,Nat.reduceBEq,Int.reduceToNat,Int.reduceLT,Int.reduceLE,Int.reduceEq]
  have h:=loop_run (f:=aCode (level E (n+3)) ⟨0,false⟩ b73_0) (h:=head ⟨0,false⟩ [1,1,0,1,0,0]) (Φ:=outC ⟨0,false⟩ [0,0,1,0,0,0]) l (fun (_ : Unit) i => ⟨[.imm (.int .i64 kd),.imm (slD b 1 (l.map ub)),.junk,.imm (.int .i64 i),.junk,.junk],[],none⟩) (fun _ _ => True)
    (fun _ x => if ckB1 kd x = 0 then .inl () else .inr (some (.ret,⟨[.junk,.junk,.imm (.int .i64 1),.junk,.junk,.junk],[],none⟩))) (fun _ => some (.exit 0,⟨[.junk,.junk,.junk,.junk,.junk,.junk],[],none⟩)) () trivial
    (fun _ i x _ h2 h1 => ⟨by
      obtain ⟨q1,q2⟩:=hv x (List.mem_of_getElem? h1)
      have hc:=okQCheckValue n kd x q1 q2
      rw [rnd_eq]
      by_cases h0 : ckVal kd x = 0
      · simp only [go_sem,Nat.reduceAdd,Nat.reduceSub,Nat.reduceMul,Nat.reduceDiv,Nat.reduceMod,Nat.reduceLeDiff,Nat.reduceLT,Nat.reduceBEq,Int.reduceToNat,Int.reduceLT,Int.reduceLE,Int.reduceEq,lt_t h2,h1,hc,h0,ckB1,ne_eq,not_true_eq_false]
        rw [wrpS (by omega)]
      · simp only [go_sem,Nat.reduceAdd,Nat.reduceSub,Nat.reduceMul,Nat.reduceDiv,Nat.reduceMod,Nat.reduceLeDiff,Nat.reduceLT,Nat.reduceBEq,Int.reduceToNat,Int.reduceLT,Int.reduceLE,Int.reduceEq,lt_t h2,h1,hc,h0,ckB1,ne_eq,not_false_eq_true,show ¬ (1 : Int) = 0 by decide],fun _ _ => trivial⟩)
    (fun _ _ => by
      rw [rnd_eq]
      simp only [go_sem,Nat.reduceAdd,Nat.reduceSub,Nat.reduceMul,Nat.reduceDiv,Nat.reduceMod,Nat.reduceLeDiff,Nat.reduceLT,Nat.reduceBEq,Int.reduceToNat,Int.reduceLT,Int.reduceLE,Int.reduceEq,lt_f (Nat.le_refl _)])
  rw [cast_0] at h
  rw [h]
  clear h hl hv
  induction l with
  | nil => simp only [go_sem,Nat.reduceAdd,Nat.reduceSub,Nat.reduceMul,Nat.reduceDiv,Nat.reduceMod,Nat.reduceLeDiff,Nat.reduceLT,Nat.reduceBEq,Int.reduceToNat,Int.reduceLT,Int.reduceLE,Int.reduceEq,runL_nil,fnz]
  | cons x r ih =>
    by_cases h0 : ckVal kd x = 0
    · have e : ckB1 kd x = 0:=by rw [ckB1,if_pos h0]
      simp only [runL_cons,List.map_cons,e,if_true,fnz]; exact ih
    · have e : ckB1 kd x = 1:=by rw [ckB1,if_neg h0]
      simp only [go_sem,Nat.reduceAdd,Nat.reduceSub,Nat.reduceMul,Nat.reduceDiv,Nat.reduceMod,Nat.reduceLeDiff,Nat.reduceLT,Nat.reduceBEq,Int.reduceToNat,Int.reduceLT,Int.reduceLE,Int.reduceEq,runL_cons,e,fnz,show ¬ (1 : Int) = 0 by decide]
theorem okRStrides (n : Nat) (b : Bool) (l : Bx) (hl : l.length < 1000000) : callP (level E (n+1)) 106 [enB b l] = some (slD true 1 ((strides 1 l).map ic)):=by
  rw [p106]
  simp only [go_sem,Nat.reduceAdd,Nat.reduceSub,Nat.reduceMul,Nat.reduceDiv,Nat.reduceMod,Nat.reduceLeDiff,Nat.reduceLT,Nat.reduceBEq,Int.reduceToNat,Int.reduceLT,Int.reduceLE,Int.reduceEq]
  have h:=loop_fold (f:=aCode (level E (n)) ⟨0,false⟩ b106_0) (h:=head ⟨0,false⟩ [1,0,1,1,1,0]) (Φ:=outC ⟨0,false⟩ [0,0,1,0,0,0]) l (fun (a : List Int × Int) i => ⟨[.imm (slD b 2 (l.map enR)),.junk,vK 0 1 (a.1.map ic),.imm (.int .i64 a.2),.imm (.int .i64 i),.junk],oK 1 (a.1.map ic),none⟩) (fun a i => a.1.length = i)
    (fun a x => (a.1 ++ [a.2],ml a.2 x.ex)) (fun a => some (.exit 0,⟨[.junk,.junk,vK 0 1 (a.1.map ic),.junk,.junk,.junk],oK 1 (a.1.map ic),none⟩)) ([],1) rfl
    (fun a i x hI h2 h1 => ⟨by
      rw [rnd_eq]
      have e1 : (a.1.length + 1) * 9 ≤ 70368744177664:=by omega
      rcases a with ⟨_ | ⟨y,t⟩,m⟩
      · simp only [go_sem,Nat.reduceAdd,Nat.reduceSub,Nat.reduceMul,Nat.reduceDiv,Nat.reduceMod,Nat.reduceLeDiff,Nat.reduceLT,Nat.reduceBEq,Int.reduceToNat,Int.reduceLT,Int.reduceLE,Int.reduceEq,lt_t h2,h1,ml,vK,oK]
        rw [wrpS (by omega)]
      · simp only [List.length_cons] at e1
        simp only [go_sem,Nat.reduceAdd,Nat.reduceSub,Nat.reduceMul,Nat.reduceDiv,Nat.reduceMod,Nat.reduceLeDiff,Nat.reduceLT,Nat.reduceBEq,Int.reduceToNat,Int.reduceLT,Int.reduceLE,Int.reduceEq,lt_t h2,h1,ml,vK,oK,e1]
        rw [wrpS (by omega)],by simp [hI]⟩)
    (fun a _ => by
      rw [rnd_eq]
      rcases a with ⟨_ | ⟨y,t⟩,m⟩ <;> simp only [go_sem,Nat.reduceAdd,Nat.reduceSub,Nat.reduceMul,Nat.reduceDiv,Nat.reduceMod,Nat.reduceLeDiff,Nat.reduceLT,Nat.reduceBEq,Int.reduceToNat,Int.reduceLT,Int.reduceLE,Int.reduceEq,lt_f (Nat.le_refl _),vK,oK])
  rw [cast_0] at h
  simp only [List.map_nil,vK,oK] at h
  rw [h]
  generalize hA : (l.foldl (fun (a : List Int × Int) (x : Rg) => (a.1 ++ [a.2],ml a.2 x.ex)) ([],1)).1 = A
  have e:=strides_fold l [] 1
  rw [hA,List.nil_append] at e
  rw [← e]
  rcases A with _ | ⟨y,t⟩ <;> simp only [go_sem,Nat.reduceAdd,Nat.reduceSub,Nat.reduceMul,Nat.reduceDiv,Nat.reduceMod,Nat.reduceLeDiff,Nat.reduceLT,Nat.reduceBEq,Int.reduceToNat,Int.reduceLT,Int.reduceLE,Int.reduceEq,vK,oK,slD]
theorem okOwnInts (n : Nat) (b : Bool) (l : List Int) (hl : l.length < 1000000) : callP (level E (n+1)) 62 [slD b 1 (l.map ic)] = some (slD true 1 (l.map ic)):=by
  rw [p62]
  rcases l with _ | ⟨x,t⟩
  · cases b <;> simp only [go_sem,Nat.reduceAdd,Nat.reduceSub,Nat.reduceMul,Nat.reduceDiv,Nat.reduceMod,Nat.reduceLeDiff,Nat.reduceLT,Nat.reduceBEq,Int.reduceToNat,Int.reduceLT,Int.reduceLE,Int.reduceEq,slD] <;> rfl
  · have e : (t.length + 1) * 9 ≤ 70368744177664:=by simp at hl; omega
    have e0 : slD b 1 ((x :: t).map ic) = .sl 1 ((x :: t).map ic):=by cases b <;> rfl
    rw [e0]
    simp only [go_sem,Nat.reduceAdd,Nat.reduceSub,Nat.reduceMul,Nat.reduceDiv,Nat.reduceMod,Nat.reduceLeDiff,Nat.reduceLT,Nat.reduceBEq,Int.reduceToNat,Int.reduceLT,Int.reduceLE,Int.reduceEq,e] <;> rfl
theorem okOwnBits (n : Nat) (b : Bool) (l : List Int) (hl : l.length < 1000000) : callP (level E (n+1)) 38 [slD b 1 (l.map ub)] = some (slD true 1 (l.map ub)):=by
  rw [p38]
  rcases l with _ | ⟨x,t⟩
  · cases b <;> simp only [go_sem,Nat.reduceAdd,Nat.reduceSub,Nat.reduceMul,Nat.reduceDiv,Nat.reduceMod,Nat.reduceLeDiff,Nat.reduceLT,Nat.reduceBEq,Int.reduceToNat,Int.reduceLT,Int.reduceLE,Int.reduceEq,slD] <;> rfl
  · have e : (t.length + 1) * 9 ≤ 70368744177664:=by simp at hl; omega
    have e0 : slD b 1 ((x :: t).map ub) = .sl 1 ((x :: t).map ub):=by cases b <;> rfl
    rw [e0]
    simp only [go_sem,Nat.reduceAdd,Nat.reduceSub,Nat.reduceMul,Nat.reduceDiv,Nat.reduceMod,Nat.reduceLeDiff,Nat.reduceLT,Nat.reduceBEq,Int.reduceToNat,Int.reduceLT,Int.reduceLE,Int.reduceEq,e] <;> rfl
def Im.own (m : Im) : Im:={ m with bb:=true,tb:=true,db:=true }
theorem okOwnBitsI (n : Nat) (b : Bool) (l : List Int) (hl : l.length < 1000000) : callI (level E (n+1)) 38 [slD b 1 (l.map ub)] = some (vK 0 1 (l.map ub),oK 1 (l.map ub)):=by
  rw [i38]
  rcases l with _ | ⟨x,t⟩
  · cases b <;> simp only [go_sem,Nat.reduceAdd,Nat.reduceSub,Nat.reduceMul,Nat.reduceDiv,Nat.reduceMod,Nat.reduceLeDiff,Nat.reduceLT,Nat.reduceBEq,Int.reduceToNat,Int.reduceLT,Int.reduceLE,Int.reduceEq,slD,vK,oK] <;> rfl
  · have e : (t.length + 1) * 9 ≤ 70368744177664:=by simp at hl; omega
    have e0 : slD b 1 ((x :: t).map ub) = .sl 1 ((x :: t).map ub):=by cases b <;> rfl
    rw [e0]
    simp only [go_sem,Nat.reduceAdd,Nat.reduceSub,Nat.reduceMul,Nat.reduceDiv,Nat.reduceMod,Nat.reduceLeDiff,Nat.reduceLT,Nat.reduceBEq,Int.reduceToNat,Int.reduceLT,Int.reduceLE,Int.reduceEq,e,vK,oK] <;> rfl
theorem okOwnImageI (n : Nat) (m : Im) (hx : m.bx.length < 1000000) (hs : m.st.length < 1000000) (hd : m.dt.length < 1000000) : callI (level E (n+2)) 10 [enIm m] = some (mkAgg [.imm (.int .i64 m.kd),.imm (enB true m.bx),.imm (slD true 1 (m.st.map ic)),vK 0 1 (m.dt.map ub)],oK 1 (m.dt.map ub)):=by
  rw [i10]
  have b1:=okOwnBox n m.bb m.bx hx
  have i1:=okOwnInts n m.tb m.st hs
  have u1:=okOwnBitsI n m.db m.dt hd
  rcases hq : m.dt with _ | ⟨x,t⟩
  · rw [hq] at u1
    simp only [go_sem,Nat.reduceAdd,Nat.reduceSub,Nat.reduceMul,Nat.reduceDiv,Nat.reduceMod,Nat.reduceLeDiff,Nat.reduceLT,Nat.reduceBEq,Int.reduceToNat,Int.reduceLT,Int.reduceLE,Int.reduceEq,vK,oK,enIm] at u1 ⊢
    simp only [go_sem,Nat.reduceAdd,Nat.reduceSub,Nat.reduceMul,Nat.reduceDiv,Nat.reduceMod,Nat.reduceLeDiff,Nat.reduceLT,Nat.reduceBEq,Int.reduceToNat,Int.reduceLT,Int.reduceLE,Int.reduceEq,enIm,b1,i1,u1,hq,vK,oK]
  · rw [hq] at u1
    simp only [go_sem,Nat.reduceAdd,Nat.reduceSub,Nat.reduceMul,Nat.reduceDiv,Nat.reduceMod,Nat.reduceLeDiff,Nat.reduceLT,Nat.reduceBEq,Int.reduceToNat,Int.reduceLT,Int.reduceLE,Int.reduceEq,vK,oK] at u1
    simp only [go_sem,Nat.reduceAdd,Nat.reduceSub,Nat.reduceMul,Nat.reduceDiv,Nat.reduceMod,Nat.reduceLeDiff,Nat.reduceLT,Nat.reduceBEq,Int.reduceToNat,Int.reduceLT,Int.reduceLE,Int.reduceEq,enIm,b1,i1,u1,hq,vK,oK]
theorem okOwnImage (n : Nat) (m : Im) (hx : m.bx.length < 1000000) (hs : m.st.length < 1000000) (hd : m.dt.length < 1000000) : callP (level E (n+2)) 10 [enIm m] = some (enIm m.own):=by
  rw [p10]
  have b1:=okOwnBox n m.bb m.bx hx
  have i1:=okOwnInts n m.tb m.st hs
  have u1:=okOwnBitsI n m.db m.dt hd
  rcases hq : m.dt with _ | ⟨x,t⟩
  · rw [hq] at u1
    simp only [go_sem,Nat.reduceAdd,Nat.reduceSub,Nat.reduceMul,Nat.reduceDiv,Nat.reduceMod,Nat.reduceLeDiff,Nat.reduceLT,Nat.reduceBEq,Int.reduceToNat,Int.reduceLT,Int.reduceLE,Int.reduceEq,vK,oK] at u1
    simp only [go_sem,Nat.reduceAdd,Nat.reduceSub,Nat.reduceMul,Nat.reduceDiv,Nat.reduceMod,Nat.reduceLeDiff,Nat.reduceLT,Nat.reduceBEq,Int.reduceToNat,Int.reduceLT,Int.reduceLE,Int.reduceEq,enIm,b1,i1,u1,hq,vK,oK,Im.own]
    rfl
  · rw [hq] at u1
    simp only [go_sem,Nat.reduceAdd,Nat.reduceSub,Nat.reduceMul,Nat.reduceDiv,Nat.reduceMod,Nat.reduceLeDiff,Nat.reduceLT,Nat.reduceBEq,Int.reduceToNat,Int.reduceLT,Int.reduceLE,Int.reduceEq,vK,oK] at u1
    simp only [go_sem,Nat.reduceAdd,Nat.reduceSub,Nat.reduceMul,Nat.reduceDiv,Nat.reduceMod,Nat.reduceLeDiff,Nat.reduceLT,Nat.reduceBEq,Int.reduceToNat,Int.reduceLT,Int.reduceLE,Int.reduceEq,enIm,b1,i1,u1,hq,vK,oK,Im.own]
    rfl
theorem okSameImage (n : Nat) (m o : Im) (h1 : o.kd = m.kd) (h2 : o.bx = m.bx) (h3 : o.st = m.st) (h4 : o.dt = m.dt) (hx : m.bx.length < 1000000) (hs : m.st.length < 1000000) (hd : m.dt.length < 1000000) : callP (level E (n+2)) 18 [enIm m,enIm o] = some (.bool true):=by
  rw [p18]
  have b1:=okSameBox n m.bb o.bb m.bx (by omega)
  have i1:=okSameInts n m.tb o.tb m.st (by omega)
  have u1:=okSameBits n m.db o.db m.dt (by omega)
  simp only [go_sem,Nat.reduceAdd,Nat.reduceSub,Nat.reduceMul,Nat.reduceDiv,Nat.reduceMod,Nat.reduceLeDiff,Nat.reduceLT,Nat.reduceBEq,Int.reduceToNat,Int.reduceLT,Int.reduceLE,Int.reduceEq,enIm,h1,h2,h3,h4,b1,i1,u1]
def shortI (m : Im) : Bool:=decide (m.bx.length ≤ 4) && decide (m.st.length ≤ 5) && decide ((m.bx.take 4).foldl (fun n r => ml n (max 0 (min r.ex 200))) 1 ≤ 100) && decide (m.dt.length ≤ 200)
theorem okShortImage (n : Nat) (m : Im) : callP (level E (n+1)) 7 [enIm m] = some (.bool (shortI m)):=by
  rw [p7]
  simp only [go_sem,Nat.reduceAdd,Nat.reduceSub,Nat.reduceMul,Nat.reduceDiv,Nat.reduceMod,Nat.reduceLeDiff,Nat.reduceLT,Nat.reduceBEq,Int.reduceToNat,Int.reduceLT,Int.reduceLE,Int.reduceEq,enIm]
  have h:=loop_fold (f:=aCode (level E (n)) ⟨0,false⟩ b7_0) (h:=head ⟨0,false⟩ [0,0,1,1,1,0]) (Φ:=outC ⟨0,false⟩ [0,0,1,1,0,0]) (m.bx.take 4) (fun (a : Int) i => ⟨[.junk,.junk,.imm (.ptr [.int .i64 m.kd,enB m.bb m.bx,slD m.tb 1 (m.st.map ic),slD m.db 1 (m.dt.map ub)]),.imm (.int .i64 a),.imm (.int .i64 i),.junk],[],none⟩) (fun _ _ => True)
    (fun a x => ml a (max 0 (min x.ex 200))) (fun a => some (.exit 0,⟨[.junk,.junk,.imm (.ptr [.int .i64 m.kd,enB m.bb m.bx,slD m.tb 1 (m.st.map ic),slD m.db 1 (m.dt.map ub)]),.imm (.int .i64 a),.junk,.junk],[],none⟩)) 1 trivial
    (fun a i x _ h2 h1 => ⟨by
      rw [List.length_take] at h2
      rw [List.getElem?_take_of_lt (by omega)] at h1
      have h4 : (i : Int) < 4:=by omega
      rw [rnd_eq]
      simp only [go_sem,Nat.reduceAdd,Nat.reduceSub,Nat.reduceMul,Nat.reduceDiv,Nat.reduceMod,Nat.reduceLeDiff,Nat.reduceLT,Nat.reduceBEq,Int.reduceToNat,Int.reduceLT,Int.reduceLE,Int.reduceEq,lt_t (show i < m.bx.length by omega),h1,h4,ml,enB]
      rw [wrpS (by omega)],trivial⟩)
    (fun a _ => by
      rw [rnd_eq]
      rw [List.length_take]
      by_cases h5 : m.bx.length ≤ 4
      · rw [Nat.min_eq_right h5]
        simp only [go_sem,Nat.reduceAdd,Nat.reduceSub,Nat.reduceMul,Nat.reduceDiv,Nat.reduceMod,Nat.reduceLeDiff,Nat.reduceLT,Nat.reduceBEq,Int.reduceToNat,Int.reduceLT,Int.reduceLE,Int.reduceEq,lt_f (Nat.le_refl _),enB]
      · rw [Nat.min_eq_left (by omega)]
        have h6 : (4 : Int) < m.bx.length:=by omega
        have h7 : ¬ (4 : Int) < 4:=by omega
        simp only [go_sem,Nat.reduceAdd,Nat.reduceSub,Nat.reduceMul,Nat.reduceDiv,Nat.reduceMod,Nat.reduceLeDiff,Nat.reduceLT,Nat.reduceBEq,Int.reduceToNat,Int.reduceLT,Int.reduceLE,Int.reduceEq,h6,h7,enB])
  rw [cast_0] at h
  try simp only [go_sem,Nat.reduceAdd,Nat.reduceSub,Nat.reduceMul,Nat.reduceDiv,Nat.reduceMod,Nat.reduceLeDiff,Nat.reduceLT,Nat.reduceBEq,Int.reduceToNat,Int.reduceLT,Int.reduceLE,Int.reduceEq] at h
  rw [h,shortI]
  clear h
  generalize (m.bx.take 4).foldl (fun n r => ml n (max 0 (min r.ex 200))) 1 = F
  by_cases h5 : (m.bx.length : Int) ≤ 4
  · have h6 : m.bx.length ≤ 4:=by omega
    by_cases h7 : (m.st.length : Int) ≤ 5
    · have h8 : m.st.length ≤ 5:=by omega
      by_cases h9 : F ≤ 100
      · by_cases h10 : (m.dt.length : Int) ≤ 200
        · have h11 : m.dt.length ≤ 200:=by omega
          simp only [go_sem,Nat.reduceAdd,Nat.reduceSub,Nat.reduceMul,Nat.reduceDiv,Nat.reduceMod,Nat.reduceLeDiff,Nat.reduceLT,Nat.reduceBEq,Int.reduceToNat,Int.reduceLT,Int.reduceLE,Int.reduceEq,h5,h6,h7,h8,h9,h10,h11]
        · have h11 : ¬ m.dt.length ≤ 200:=by omega
          simp only [go_sem,Nat.reduceAdd,Nat.reduceSub,Nat.reduceMul,Nat.reduceDiv,Nat.reduceMod,Nat.reduceLeDiff,Nat.reduceLT,Nat.reduceBEq,Int.reduceToNat,Int.reduceLT,Int.reduceLE,Int.reduceEq,h5,h6,h7,h8,h9,h10,h11]
      · simp only [go_sem,Nat.reduceAdd,Nat.reduceSub,Nat.reduceMul,Nat.reduceDiv,Nat.reduceMod,Nat.reduceLeDiff,Nat.reduceLT,Nat.reduceBEq,Int.reduceToNat,Int.reduceLT,Int.reduceLE,Int.reduceEq,h5,h6,h7,h8,h9,Bool.false_and]
    · have h8 : ¬ m.st.length ≤ 5:=by omega
      simp only [go_sem,Nat.reduceAdd,Nat.reduceSub,Nat.reduceMul,Nat.reduceDiv,Nat.reduceMod,Nat.reduceLeDiff,Nat.reduceLT,Nat.reduceBEq,Int.reduceToNat,Int.reduceLT,Int.reduceLE,Int.reduceEq,h5,h6,h7,h8,Bool.and_false,Bool.false_and]
  · have h6 : ¬ m.bx.length ≤ 4:=by omega
    simp only [go_sem,Nat.reduceAdd,Nat.reduceSub,Nat.reduceMul,Nat.reduceDiv,Nat.reduceMod,Nat.reduceLeDiff,Nat.reduceLT,Nat.reduceBEq,Int.reduceToNat,Int.reduceLT,Int.reduceLE,Int.reduceEq,h5,h6,Bool.false_and]
theorem okRBits (n : Nat) (m : Im) (c : Bool) (p : List Int) (h3 : m.bx.length ≤ 3) (hs : m.bx.length ≤ m.st.length) (hp : m.bx.length ≤ p.length) (k : Nat) (v : Int) (he : elt m.bx p m.st 0 = k) (hv : m.dt[k]? = some v) :
    callP (level E (n+2)) 48 [enIm m,slD c 1 (p.map ic)] = some (.int .u64 v):=by
  rw [p48]
  have h1:=okRElement n m c p h3 hs hp
  rw [he] at h1
  simp only [enIm] at h1
  simp only [go_sem,Nat.reduceAdd,Nat.reduceSub,Nat.reduceMul,Nat.reduceDiv,Nat.reduceMod,Nat.reduceLeDiff,Nat.reduceLT,Nat.reduceBEq,Int.reduceToNat,Int.reduceLT,Int.reduceLE,Int.reduceEq,enIm,h1,hv]
theorem okRMake (n : Nat) (kd : Int) (b c : Bool) (l : Bx) (dt : List Int) (hl : l.length < 1000000) (hd : dt.length < 1000000) : callP (level E (n+2)) 45 [.int .i64 kd,enB b l,slD c 1 (dt.map ub)] = some (enIm ⟨kd,true,l,true,strides 1 l,true,dt⟩):=by
  rw [p45]
  have b1:=okOwnBox n b l hl
  have s1:=okRStrides n b l hl
  have u1:=okOwnBits n c dt hd
  simp only [go_sem,Nat.reduceAdd,Nat.reduceSub,Nat.reduceMul,Nat.reduceDiv,Nat.reduceMod,Nat.reduceLeDiff,Nat.reduceLT,Nat.reduceBEq,Int.reduceToNat,Int.reduceLT,Int.reduceLE,Int.reduceEq,enIm,b1,s1,u1]
end Go.Vm.P4Z

/- Chapter 04,functions: the reference's check of an image. -/
set_option maxRecDepth 100000
set_option maxHeartbeats 4000000
namespace Go.Vm.P4Z
open Go Go.Vm Go.Vm.P4
theorem ia_refN {id sz lw k i : Nat} (h : i < k) : aIaddr none sz (.ref id sz lw k) (i : Int) = some (.ptr id ((lw + i) * sz)):=by
  rw [ia_ref (by omega) (by omega)]; rfl
theorem elt_app : ∀ (l : Bx) (p q s : List Int) (n : Int),l.length ≤ p.length → l.length ≤ s.length → elt l (p ++ q) s n = elt l p s n
  | [],p,q,s,n,_,_ => by cases p <;> cases q <;> cases s <;> rfl
  | r :: l,[],_,_,_,h,_ => by simp at h
  | r :: l,_ :: _,_,[],_,_,h => by simp at h
  | r :: l,x :: p,q,y :: s,n,h1,h2 => by
    rw [List.cons_append,elt,elt,elt_app l p q s _ (by simpa using h1) (by simpa using h2)]
def Oks (s : List Int) : Prop:=∀ x ∈ s,0 ≤ x ∧ x ≤ 4096
theorem elt_nn : ∀ (l : Bx) (p s : List Int) (n : Int),Okr l → InB l p → Oks s → l.length ≤ s.length → 0 ≤ n → n + l.length * 258048 ≤ 1000000000 → 0 ≤ elt l p s n
  | [],[],s,n,_,_,_,_,hn,_ => by cases s <;> simpa [elt] using hn
  | [],_ :: _,_,_,_,h,_,_,_,_ => h.elim
  | _ :: _,[],_,_,_,h,_,_,_,_ => h.elim
  | r :: l,x :: p,[],n,_,_,_,h,_,_ => by simp at h
  | r :: l,x :: p,y :: s,n,h,hi,hs,hl,hn,hb => by
    have hr:=ckRange0 (h r (by simp))
    obtain ⟨a1,a2,a3⟩:=hi
    obtain ⟨b1,b2⟩:=hs y (by simp)
    have e1 : sb x r.lo = x - r.lo:=wrp_ok (by omega)
    have m0 : 0 ≤ (x - r.lo) * y:=Int.mul_nonneg (by omega) b1
    have m1 : (x - r.lo) * y ≤ 63 * 4096:=Int.mul_le_mul (by omega) b2 b1 (by omega)
    have e2 : ml (x - r.lo) y = (x - r.lo) * y:=wrp_ok (by omega)
    simp only [List.length_cons] at hb
    have e3 : ad n ((x - r.lo) * y) = n + (x - r.lo) * y:=wrp_ok (by omega)
    rw [elt,e1,e2,e3]
    exact elt_nn l p s _ h.tl a3 (fun z hz => hs z (List.mem_cons_of_mem _ hz)) (by simpa using hl) (by omega) (by omega)
def tkA (N : Nat) (a : List Int) : List (List D):=(List.range N).map fun (j : Nat) => [D.bool (decide ((j : Int) ∈ a))]
theorem tkA_get {N j : Nat} {a : List Int} (h : j < N) : (tkA N a)[j]? = some [D.bool (decide ((j : Int) ∈ a))]:=by
  simp [tkA,h]
theorem tkA_len (N : Nat) (a : List Int) : (tkA N a).length = N:=by simp [tkA]
theorem tkA_nil (N : Nat) : tkA N [] = List.replicate N [D.bool false]:=by
  apply List.ext_getElem?
  intro j
  by_cases h : j < N
  · rw [tkA_get h]; simp [h]
  · rw [List.getElem?_eq_none (by rw [tkA_len]; omega),List.getElem?_eq_none (by simp; omega)]
theorem tkA_set (N k : Nat) (a : List Int) (h : k < N) : (tkA N a).set k [D.bool true] = tkA N (a ++ [(k : Int)]):=by
  apply List.ext_getElem?
  intro j
  by_cases hj : j < N
  · rw [List.getElem?_set,tkA_get hj,tkA_get hj]
    by_cases e : k = j
    · subst e; simp [tkA_len,h]
    · have e' : ¬ (j : Int) = (k : Int):=by omega
      simp [e,e']
  · rw [List.getElem?_eq_none (by simp [tkA_len]; omega),List.getElem?_eq_none (by rw [tkA_len]; omega)]
def ckI (m : Im) : Int:=ckIm (ckB1 m.kd) m
theorem okRCheckSt (n : Nat) (cs : List AV) (kd : Int) (bx : D) (b db : Bool) (st : List Int) (dt : D) (hl : st.length < 1000000) :
    outC ⟨0,false⟩ [0,1,1,0,0,0,0,0,0,0,0,0,0,0,0,0] (rnd (aCode (level E n) ⟨0,false⟩ b13_0) (head ⟨0,false⟩ [0,0,1,0,1,0,0,0,0,0,0,0,0,0,0,0])
      ⟨[.junk,.junk,.ptr 0 0,.junk,.imm (.int .i64 0),.junk,.junk,.junk,.junk,.junk,.junk,.junk,.junk,.junk,.junk,.junk],[.box [.imm (.int .i64 kd),.imm bx,.imm (slD b 1 (st.map ic)),.imm dt]],none⟩) =
    if st.any (fun x => !(decide (x ≥ 0) && decide (x ≤ 4096))) then some (.ret,⟨[.junk,.imm (.int .i64 3),.ptr 0 0,.junk,.junk,.junk,.junk,.junk,.junk,.junk,.junk,.junk,.junk,.junk,.junk,.junk],[.box [.imm (.int .i64 kd),.imm bx,.imm (slD b 1 (st.map ic)),.imm dt]],none⟩)
    else some (.exit 0,⟨[.junk,.junk,.ptr 0 0,.junk,.junk,.junk,.junk,.junk,.junk,.junk,.junk,.junk,.junk,.junk,.junk,.junk],[.box [.imm (.int .i64 kd),.imm bx,.imm (slD b 1 (st.map ic)),.imm dt]],none⟩):=by
  have h:=loop_run (f:=aCode (level E (n)) ⟨0,false⟩ b13_0) (h:=head ⟨0,false⟩ [0,0,1,0,1,0,0,0,0,0,0,0,0,0,0,0]) (Φ:=outC ⟨0,false⟩ [0,1,1,0,0,0,0,0,0,0,0,0,0,0,0,0]) st (fun (_ : Unit) i => ⟨[.junk,.junk,.ptr 0 0,.junk,.imm (.int .i64 i),.junk,.junk,.junk,.junk,.junk,.junk,.junk,.junk,.junk,.junk,.junk],[.box [.imm (.int .i64 kd),.imm bx,.imm (slD b 1 (st.map ic)),.imm dt]],none⟩) (fun _ _ => True)
    (fun _ x => if (!(decide (x ≥ 0) && decide (x ≤ 4096))) = true then .inr (some (.ret,⟨[.junk,.imm (.int .i64 3),.ptr 0 0,.junk,.junk,.junk,.junk,.junk,.junk,.junk,.junk,.junk,.junk,.junk,.junk,.junk],[.box [.imm (.int .i64 kd),.imm bx,.imm (slD b 1 (st.map ic)),.imm dt]],none⟩)) else .inl ()) (fun _ => some (.exit 0,⟨[.junk,.junk,.ptr 0 0,.junk,.junk,.junk,.junk,.junk,.junk,.junk,.junk,.junk,.junk,.junk,.junk,.junk],[.box [.imm (.int .i64 kd),.imm bx,.imm (slD b 1 (st.map ic)),.imm dt]],none⟩)) () trivial
    (fun _ i x _ h2 h1 => ⟨by
      rw [rnd_eq]
      by_cases k1 : x < 0
      · have k2 : decide (x ≥ 0) = false:=decide_eq_false (by omega)
        simp only [go_sem,Nat.reduceAdd,Nat.reduceSub,Nat.reduceMul,Nat.reduceDiv,Nat.reduceMod,Nat.reduceLeDiff,Nat.reduceLT,Nat.reduceBEq,Int.reduceToNat,Int.reduceLT,Int.reduceLE,Int.reduceEq,lt_t h2,h1,k1,k2,Bool.false_and,Bool.not_false]
      · have k2 : decide (x ≥ 0) = true:=decide_eq_true (by omega)
        by_cases k3 : x > 4096
        · have k4 : decide (x ≤ 4096) = false:=decide_eq_false (by omega)
          simp only [go_sem,Nat.reduceAdd,Nat.reduceSub,Nat.reduceMul,Nat.reduceDiv,Nat.reduceMod,Nat.reduceLeDiff,Nat.reduceLT,Nat.reduceBEq,Int.reduceToNat,Int.reduceLT,Int.reduceLE,Int.reduceEq,lt_t h2,h1,k1,k2,k3,k4,Bool.and_false,Bool.not_false]
        · have k4 : decide (x ≤ 4096) = true:=decide_eq_true (by omega)
          simp only [go_sem,Nat.reduceAdd,Nat.reduceSub,Nat.reduceMul,Nat.reduceDiv,Nat.reduceMod,Nat.reduceLeDiff,Nat.reduceLT,Nat.reduceBEq,Int.reduceToNat,Int.reduceLT,Int.reduceLE,Int.reduceEq,lt_t h2,h1,k1,k2,k3,k4,Bool.and_true,Bool.not_true,Bool.false_eq_true]
          rw [wrpS (by omega)],fun _ _ => trivial⟩)
    (fun _ _ => by
      rw [rnd_eq]
      simp only [go_sem,Nat.reduceAdd,Nat.reduceSub,Nat.reduceMul,Nat.reduceDiv,Nat.reduceMod,Nat.reduceLeDiff,Nat.reduceLT,Nat.reduceBEq,Int.reduceToNat,Int.reduceLT,Int.reduceLE,Int.reduceEq,lt_f (Nat.le_refl _)])
  rw [cast_0] at h
  rw [h]
  have e : ∀ l : List Int,runL (γ:=Option (AExit × S)) (fun (_ : Unit) x => if (!(decide (x ≥ 0) && decide (x ≤ 4096))) = true then .inr (some (.ret,⟨[.junk,.imm (.int .i64 3),.ptr 0 0,.junk,.junk,.junk,.junk,.junk,.junk,.junk,.junk,.junk,.junk,.junk,.junk,.junk],[.box [.imm (.int .i64 kd),.imm bx,.imm (slD b 1 (st.map ic)),.imm dt]],none⟩)) else .inl ()) (fun _ => some (.exit 0,⟨[.junk,.junk,.ptr 0 0,.junk,.junk,.junk,.junk,.junk,.junk,.junk,.junk,.junk,.junk,.junk,.junk,.junk],[.box [.imm (.int .i64 kd),.imm bx,.imm (slD b 1 (st.map ic)),.imm dt]],none⟩)) () l =
      if l.any (fun x => !(decide (x ≥ 0) && decide (x ≤ 4096))) then some (.ret,⟨[.junk,.imm (.int .i64 3),.ptr 0 0,.junk,.junk,.junk,.junk,.junk,.junk,.junk,.junk,.junk,.junk,.junk,.junk,.junk],[.box [.imm (.int .i64 kd),.imm bx,.imm (slD b 1 (st.map ic)),.imm dt]],none⟩)
      else some (.exit 0,⟨[.junk,.junk,.ptr 0 0,.junk,.junk,.junk,.junk,.junk,.junk,.junk,.junk,.junk,.junk,.junk,.junk,.junk],[.box [.imm (.int .i64 kd),.imm bx,.imm (slD b 1 (st.map ic)),.imm dt]],none⟩):=by
    intro l
    induction l with
    | nil => simp [runL_nil]
    | cons x r ih =>
      rw [runL_cons,List.any_cons]
      cases hx : (!(decide (x ≥ 0) && decide (x ≤ 4096)))
      · simp only [Bool.false_eq_true,if_false,Bool.false_or]; exact ih
      · simp only [if_true,Bool.true_or]
  exact e st
theorem okRCheckPts (n : Nat) (m : Im) (hm : ckBox m.bx = 0) (hs : m.bx.length = m.st.length) (ho : Oks m.st) (hd : m.dt.length < 1000000) (N : Nat) (hN : many m.bx = N) :
    outC ⟨0,false⟩ [0,1,0,0,0,0,0,0,0,0,0,0,0,0,0,0] (rnd (aCode (level E (n+1)) ⟨0,false⟩ b13_1) (head ⟨0,false⟩ [0,0,1,0,0,0,1,1,0,0,0,0,0,0,0,0])
      ⟨[.junk,.junk,.ptr 0 0,.junk,.junk,.junk,.ref 1 1 0 m.dt.length,.imm (.int .i64 0),.junk,.junk,.junk,.junk,.junk,.junk,.junk,.junk],[.box [.imm (.int .i64 m.kd),.imm (enB m.bb m.bx),.imm (slD m.tb 1 (m.st.map ic)),.imm (slD m.db 1 (m.dt.map ub))],.arr 1 (tkA m.dt.length [])],none⟩) =
    if ckPts m [] (List.range N) = 0 then some (.exit 2,⟨[.junk,.junk,.junk,.junk,.junk,.junk,.junk,.junk,.junk,.junk,.junk,.junk,.junk,.junk,.junk,.junk],[],none⟩) else some (.ret,⟨[.junk,.imm (.int .i64 (ckPts m [] (List.range N))),.junk,.junk,.junk,.junk,.junk,.junk,.junk,.junk,.junk,.junk,.junk,.junk,.junk,.junk],[],none⟩):=by
  obtain ⟨h1,h3,hr,h4⟩:=ckBox0 hm
  have hN2 : N ≤ 4096:=by omega
  have pr:=okRProduct n m.bb m.bx (by omega)
  have el : ∀ i,i < N → elt m.bx (ptW m.bx (i : Nat)) m.st 0 = elAt m i ∧ 0 ≤ elAt m i:=by
    intro i hi
    have hx:=ex_pos hr (by omega : many m.bx ≠ 0)
    have e1 : ptW m.bx (i : Nat) = digits m.bx i:=ptW_dig m.bx i hr hx (by omega) (by omega)
    have e2:=plc_dig m.bx hr h3 hx i
    have e3 : elAt m i = elt m.bx (digits m.bx i) m.st 0:=by
      rw [elAt,e2,elt_app _ _ _ _ _ (by rw [digits_len]; exact Nat.le_refl _) (by omega)]
    rw [e1,e3]
    refine ⟨rfl,elt_nn _ _ _ _ hr (digits_in _ _ hx) ho (by omega) (by omega) (by omega)⟩
  have h:=loop_run (f:=aCode (level E (n+1)) ⟨0,false⟩ b13_1) (h:=head ⟨0,false⟩ [0,0,1,0,0,0,1,1,0,0,0,0,0,0,0,0]) (Φ:=outC ⟨0,false⟩ [0,1,0,0,0,0,0,0,0,0,0,0,0,0,0,0]) (List.range N) (fun (a : List Int) i => ⟨[.junk,.junk,.ptr 0 0,.junk,.junk,.junk,.ref 1 1 0 m.dt.length,.imm (.int .i64 i),.junk,.junk,.junk,.junk,.junk,.junk,.junk,.junk],[.box [.imm (.int .i64 m.kd),.imm (enB m.bb m.bx),.imm (slD m.tb 1 (m.st.map ic)),.imm (slD m.db 1 (m.dt.map ub))],.arr 1 (tkA m.dt.length a)],none⟩) (fun _ _ => True)
    (fun a i => if (m.dt.length : Int) ≤ elAt m i then .inr (some (.ret,⟨[.junk,.imm (.int .i64 14),.junk,.junk,.junk,.junk,.junk,.junk,.junk,.junk,.junk,.junk,.junk,.junk,.junk,.junk],[],none⟩)) else if elAt m i ∈ a then .inr (some (.ret,⟨[.junk,.imm (.int .i64 26),.junk,.junk,.junk,.junk,.junk,.junk,.junk,.junk,.junk,.junk,.junk,.junk,.junk,.junk],[],none⟩)) else .inl (a ++ [elAt m i])) (fun _ => some (.exit 2,⟨[.junk,.junk,.junk,.junk,.junk,.junk,.junk,.junk,.junk,.junk,.junk,.junk,.junk,.junk,.junk,.junk],[],none⟩)) [] trivial
    (fun a i j _ h2 h5 => ⟨by
      have:=getRange h5
      subst this
      rw [List.length_range] at h2
      have hx:=ex_pos hr (by omega : many m.bx ≠ 0)
      have rp:=okRPoint n m.bb m.bx j (by omega) (fun r hr' => by have:=hx r hr'; omega)
      obtain ⟨e1,e2⟩:=el j h2
      have re:=okRElement n m true (ptW m.bx j) h3 (by omega) (by rw [ptW_dig m.bx j hr hx (by omega) (by omega),digits_len]; exact Nat.le_refl _)
      rw [e1] at re
      have hlt : (j : Int) < many m.bx:=by omega
      rw [rnd_eq]
      simp only [enIm] at re
      by_cases k1 : (m.dt.length : Int) ≤ elAt m j
      · have k1' : elAt m j ≥ (m.dt.length : Int):=k1
        simp only [go_sem,Nat.reduceAdd,Nat.reduceSub,Nat.reduceMul,Nat.reduceDiv,Nat.reduceMod,Nat.reduceLeDiff,Nat.reduceLT,Nat.reduceBEq,Int.reduceToNat,Int.reduceLT,Int.reduceLE,Int.reduceEq,pr,hlt,rp,re,k1,k1',enB]
      · have k1' : ¬ elAt m j ≥ (m.dt.length : Int):=k1
        obtain ⟨k,hk⟩ : ∃ k : Nat,elAt m j = k:=⟨(elAt m j).toNat,by omega⟩
        have hk2 : k < m.dt.length:=by omega
        rw [hk] at re k1 k1' ⊢
        have tg:=tkA_get (a:=a) hk2
        by_cases k2 : (k : Int) ∈ a
        · simp only [go_sem,Nat.reduceAdd,Nat.reduceSub,Nat.reduceMul,Nat.reduceDiv,Nat.reduceMod,Nat.reduceLeDiff,Nat.reduceLT,Nat.reduceBEq,Int.reduceToNat,Int.reduceLT,Int.reduceLE,Int.reduceEq,pr,hlt,rp,re,k1,k1',enB,tg,k2,tkA_len,hk2,ia_refN,Nat.zero_add,Nat.mul_one,Nat.mod_one,Nat.div_one]
        · simp only [go_sem,Nat.reduceAdd,Nat.reduceSub,Nat.reduceMul,Nat.reduceDiv,Nat.reduceMod,Nat.reduceLeDiff,Nat.reduceLT,Nat.reduceBEq,Int.reduceToNat,Int.reduceLT,Int.reduceLE,Int.reduceEq,pr,hlt,rp,re,k1,k1',enB,tg,k2,tkA_len,hk2,ia_refN,Nat.zero_add,Nat.mul_one,Nat.mod_one,Nat.div_one,tkA_set _ _ _ hk2]
          rw [wrpS (by omega)],fun _ _ => trivial⟩)
    (fun a _ => by
      rw [rnd_eq]
      rw [List.length_range]
      have hlt : ¬ (N : Int) < many m.bx:=by omega
      simp only [go_sem,Nat.reduceAdd,Nat.reduceSub,Nat.reduceMul,Nat.reduceDiv,Nat.reduceMod,Nat.reduceLeDiff,Nat.reduceLT,Nat.reduceBEq,Int.reduceToNat,Int.reduceLT,Int.reduceLE,Int.reduceEq,pr,hlt,enB])
  rw [cast_0] at h
  rw [h]
  have e : ∀ (l : List Nat) (a : List Int),runL (γ:=Option (AExit × S)) (fun (a : List Int) i => if (m.dt.length : Int) ≤ elAt m i then .inr (some (.ret,⟨[.junk,.imm (.int .i64 14),.junk,.junk,.junk,.junk,.junk,.junk,.junk,.junk,.junk,.junk,.junk,.junk,.junk,.junk],[],none⟩)) else if elAt m i ∈ a then .inr (some (.ret,⟨[.junk,.imm (.int .i64 26),.junk,.junk,.junk,.junk,.junk,.junk,.junk,.junk,.junk,.junk,.junk,.junk,.junk,.junk],[],none⟩)) else .inl (a ++ [elAt m i])) (fun _ => some (.exit 2,⟨[.junk,.junk,.junk,.junk,.junk,.junk,.junk,.junk,.junk,.junk,.junk,.junk,.junk,.junk,.junk,.junk],[],none⟩)) a l =
      if ckPts m a l = 0 then some (.exit 2,⟨[.junk,.junk,.junk,.junk,.junk,.junk,.junk,.junk,.junk,.junk,.junk,.junk,.junk,.junk,.junk,.junk],[],none⟩) else some (.ret,⟨[.junk,.imm (.int .i64 (ckPts m a l)),.junk,.junk,.junk,.junk,.junk,.junk,.junk,.junk,.junk,.junk,.junk,.junk,.junk,.junk],[],none⟩):=by
    intro l
    induction l with
    | nil => intro a; simp [runL_nil,ckPts]
    | cons i r ih =>
      intro a
      rw [runL_cons,ckPts]
      by_cases k1 : (m.dt.length : Int) ≤ elAt m i
      · simp only [k1,if_true,show ¬ (14 : Int) = 0 by decide,if_false]
      · by_cases k2 : elAt m i ∈ a
        · simp only [k1,k2,if_true,if_false,show ¬ (26 : Int) = 0 by decide]
        · simp only [k1,k2,if_false]; exact ih _
  exact e _ _
def Ok64 (l : List Int) : Prop:=∀ v ∈ l,0 ≤ v ∧ v < 18446744073709551616
theorem any_oks {s : List Int} (h : s.any (fun x => !(decide (x ≥ 0) && decide (x ≤ 4096))) = false) : Oks s:=by
  intro x hx
  have:=List.any_eq_false.1 h x hx
  simp at this
  exact this
theorem okRCheck (n : Nat) (m : Im) (hx : m.bx.length < 1000000) (hs : m.st.length < 1000000) (hd : m.dt.length < 1000000) (hv : Ok64 m.dt) : callP (level E (n+5)) 13 [enIm m] = some (.int .i64 (ckI m)):=by
  rw [p13]
  have k1:=okQCheckKind (n+2) m.kd
  have b1:=okRCheckBox (n+2) m.bb m.bx hx
  have w1 : callP (level E (n+4)) 32 [.bool (decide (¬ (m.st.length : Int) = m.bx.length)),.int .i64 2] = some (.int .i64 (if m.st.length = m.bx.length then 0 else 2)):=by
    rw [okQWhen (n+3)]
    by_cases h : m.st.length = m.bx.length
    · simp [h]
    · have : ¬ (m.st.length : Int) = m.bx.length:=by omega
      simp [h,this]
  have f1 : callP (level E (n+4)) 29 [.sl 1 [[.int .i64 (ckKind m.kd)],[.int .i64 (ckBox m.bx)],[.int .i64 (if m.st.length = m.bx.length then 0 else 2)]]] = some (.int .i64 (ckA m)) :=
    okQFirstL (n+3) _ [ckKind m.kd,ckBox m.bx,if m.st.length = m.bx.length then 0 else 2] rfl (by simp)
  have s1:=okRCheckSt (n+4) [] m.kd (enB m.bb m.bx) m.tb m.db m.st (slD m.db 1 (m.dt.map ub)) hs
  have d1:=okRCheckData n m.db m.kd m.dt hd hv
  have w2 : callP (level E (n+4)) 32 [.bool (decide ((m.dt.length : Int) > 4096)),.int .i64 5] = some (.int .i64 (if 4096 < m.dt.length then 5 else 0)):=by
    rw [okQWhen (n+3)]
    by_cases h : 4096 < m.dt.length
    · have : (4096 : Int) < m.dt.length:=by omega
      simp [h,this]
    · have : ¬ (4096 : Int) < m.dt.length:=by omega
      simp [h,this]
  have f2:=okQFirstL (n+3) [[.int .i64 (if 4096 < m.dt.length then 5 else 0)],[.int .i64 (fnz (m.dt.map (ckB1 m.kd)))]] [if 4096 < m.dt.length then 5 else 0,fnz (m.dt.map (ckB1 m.kd))] rfl (by simp)
  by_cases hA : ckA m = 0
  · obtain ⟨a1,a2,a3⟩:=ckA0 hA
    cases hst : m.st.any (fun x => !(decide (x ≥ 0) && decide (x ≤ 4096)))
    · rw [hst] at s1
      have ho:=any_oks hst
      by_cases h5 : 4096 < m.dt.length
      · have hB : ckB m = 5:=by rw [ckB,hst,if_pos h5]; rfl
        rw [if_pos h5] at w2 f2
        simp only [fnz_cons,show ¬ (5 : Int) = 0 by decide,if_false] at f2
        simp only [Bool.false_eq_true,if_false] at s1
        simp only [go_sem,Nat.reduceAdd,Nat.reduceSub,Nat.reduceMul,Nat.reduceDiv,Nat.reduceMod,Nat.reduceLeDiff,Nat.reduceLT,Nat.reduceBEq,Int.reduceToNat,Int.reduceLT,Int.reduceLE,Int.reduceEq,enIm,k1,b1,w1,f1,hA,s1,d1,w2,f2,ckI,ckIm,hB,ne_eq,not_true_eq_false,show ¬ (5 : Int) = 0 by decide,not_false_eq_true]
      · have hB : ckB m = 0:=by rw [ckB,hst,if_neg h5]; rfl
        rw [if_neg h5] at w2 f2
        have hf : fnz [0,fnz (m.dt.map (ckB1 m.kd))] = fnz (m.dt.map (ckB1 m.kd)):=by
          simp only [fnz_cons,if_true]
          by_cases h0 : fnz (m.dt.map (ckB1 m.kd)) = 0
          · rw [if_pos h0,h0]; rfl
          · rw [if_neg h0]
        rw [hf] at f2
        simp only [Bool.false_eq_true,if_false] at s1
        by_cases h0 : fnz (m.dt.map (ckB1 m.kd)) = 0
        · obtain ⟨N,hN,hN2⟩:=many_nat a2
          have p1:=okRCheckPts (n+3) m a2 a3.symm ho hd N hN
          rw [tkA_nil] at p1
          have hNt : (many m.bx).toNat = N:=by omega
          have e0 : (1 : Int) * (m.dt.length : Int) ≤ 70368744177664:=by omega
          have e2 : (m.dt.length : Int) ≤ 70368744177664:=by omega
          have e3 : (0 : Int) ≤ (m.dt.length : Int):=by omega
          rw [h0] at d1 f2
          by_cases hp : ckPts m [] (List.range N) = 0
          · rw [if_pos hp] at p1
            simp only [go_sem,Nat.reduceAdd,Nat.reduceSub,Nat.reduceMul,Nat.reduceDiv,Nat.reduceMod,Nat.reduceLeDiff,Nat.reduceLT,Nat.reduceBEq,Int.reduceToNat,Int.reduceLT,Int.reduceLE,Int.reduceEq,enIm,k1,b1,w1,f1,hA,s1,d1,w2,f2,ckI,ckIm,hB,h0,e0,e2,e3,hNt,hp,ne_eq,not_true_eq_false]
            rw [p1]
            simp only [go_sem,Nat.reduceAdd,Nat.reduceSub,Nat.reduceMul,Nat.reduceDiv,Nat.reduceMod,Nat.reduceLeDiff,Nat.reduceLT,Nat.reduceBEq,Int.reduceToNat,Int.reduceLT,Int.reduceLE,Int.reduceEq]
          · rw [if_neg hp] at p1
            simp only [go_sem,Nat.reduceAdd,Nat.reduceSub,Nat.reduceMul,Nat.reduceDiv,Nat.reduceMod,Nat.reduceLeDiff,Nat.reduceLT,Nat.reduceBEq,Int.reduceToNat,Int.reduceLT,Int.reduceLE,Int.reduceEq,enIm,k1,b1,w1,f1,hA,s1,d1,w2,f2,ckI,ckIm,hB,h0,e0,e2,e3,hNt,hp,ne_eq,not_true_eq_false]
            rw [p1]
            simp only [go_sem,Nat.reduceAdd,Nat.reduceSub,Nat.reduceMul,Nat.reduceDiv,Nat.reduceMod,Nat.reduceLeDiff,Nat.reduceLT,Nat.reduceBEq,Int.reduceToNat,Int.reduceLT,Int.reduceLE,Int.reduceEq]
        · simp only [go_sem,Nat.reduceAdd,Nat.reduceSub,Nat.reduceMul,Nat.reduceDiv,Nat.reduceMod,Nat.reduceLeDiff,Nat.reduceLT,Nat.reduceBEq,Int.reduceToNat,Int.reduceLT,Int.reduceLE,Int.reduceEq,enIm,k1,b1,w1,f1,hA,s1,d1,w2,f2,ckI,ckIm,hB,h0,ne_eq,not_true_eq_false,not_false_eq_true]
    · rw [hst] at s1
      have hB : ckB m = 3:=by rw [ckB,hst,if_pos rfl,fnz_cons,if_neg (by decide)]
      simp only [if_true] at s1
      simp only [go_sem,Nat.reduceAdd,Nat.reduceSub,Nat.reduceMul,Nat.reduceDiv,Nat.reduceMod,Nat.reduceLeDiff,Nat.reduceLT,Nat.reduceBEq,Int.reduceToNat,Int.reduceLT,Int.reduceLE,Int.reduceEq,enIm,k1,b1,w1,f1,hA,s1,ckI,ckIm,hB,ne_eq,not_true_eq_false,show ¬ (3 : Int) = 0 by decide]
  · simp only [go_sem,Nat.reduceAdd,Nat.reduceSub,Nat.reduceMul,Nat.reduceDiv,Nat.reduceMod,Nat.reduceLeDiff,Nat.reduceLT,Nat.reduceBEq,Int.reduceToNat,Int.reduceLT,Int.reduceLE,Int.reduceEq,enIm,k1,b1,w1,f1,hA,ckI,ckIm,ne_eq,not_false_eq_true]
end Go.Vm.P4Z

/- Chapter 04,plain law: right images: where their elements lie. -/
set_option maxRecDepth 100000
set_option maxHeartbeats 1000000
namespace Go.Vm.P4Z
open Go Go.Vm Go.Vm.P4
def hornE : Bx → List Int → Int
  | r :: b,x :: p => hornE b p * r.ex + (x - r.lo)
  | _,_ => 0
def prodE : Bx → Int
  | [] => 1
  | r :: b => prodE b * r.ex
theorem horn_bd : ∀ (l : Bx) (p : List Int),(∀ r ∈ l,0 < r.ex) → InB l p → 0 ≤ hornE l p ∧ hornE l p < prodE l
  | [],[],_,_ => by simp [hornE,prodE]
  | [],_ :: _,_,h => h.elim
  | _ :: _,[],_,h => h.elim
  | r :: l,x :: p,hx,⟨h1,h2,h3⟩ => by
    have hr:=hx r (by simp)
    obtain ⟨i1,i2⟩:=horn_bd l p (fun y hy => hx y (List.mem_cons_of_mem _ hy)) h3
    have m0 : 0 ≤ hornE l p * r.ex:=Int.mul_nonneg i1 (by omega)
    have m1 : (hornE l p + 1) * r.ex ≤ prodE l * r.ex:=Int.mul_le_mul_of_nonneg_right (by omega) (by omega)
    rw [Int.add_mul,Int.one_mul] at m1
    rw [hornE,prodE]
    constructor <;> omega
theorem digits_horn : ∀ (l : Bx) (p : List Int),(∀ r ∈ l,0 < r.ex) → InB l p → digits l (hornE l p) = p
  | [],[],_,_ => rfl
  | [],_ :: _,_,h => h.elim
  | _ :: _,[],_,h => h.elim
  | r :: l,x :: p,hx,⟨h1,h2,h3⟩ => by
    have hr:=hx r (by simp)
    have ih:=digits_horn l p (fun y hy => hx y (List.mem_cons_of_mem _ hy)) h3
    have e:=(Int.ediv_emod_unique (a:=hornE l p * r.ex + (x - r.lo)) (b:=r.ex) (r:=x - r.lo) (q:=hornE l p) hr).2 ⟨by rw [Int.mul_comm]; omega,by omega,by omega⟩
    rw [hornE,digits,e.1,e.2,ih]
    congr 1; omega
theorem many_prod {l : Bx} (h : Okr l) (h3 : l.length ≤ 3) : many l = prodE l:=by
  rcases l with _ | ⟨r,_ | ⟨s,_ | ⟨t,_ | ⟨u,l⟩⟩⟩⟩
  · rfl
  · have hr:=ckRange0 (h r (by simp))
    obtain ⟨e1,e2,e3⟩:=ml_ok (a:=1) (m:=1) (by omega) (by omega) hr.2.2.1 hr.2.2.2.1 (by omega)
    rw [many_cons1,e1]; rfl
  · have hr:=ckRange0 (h r (by simp))
    have hs:=ckRange0 (h s (by simp))
    obtain ⟨e1,e2,e3⟩:=ml_ok (a:=1) (m:=1) (by omega) (by omega) hr.2.2.1 hr.2.2.2.1 (by omega)
    obtain ⟨f1,f2,f3⟩:=ml_ok (m:=64) e2 (by omega) hs.2.2.1 hs.2.2.2.1 (by omega)
    rw [many_cons2,e1,f1]
    simp only [prodE,Int.one_mul]
    rw [Int.mul_comm]
  · have hr:=ckRange0 (h r (by simp))
    have hs:=ckRange0 (h s (by simp))
    have ht:=ckRange0 (h t (by simp))
    obtain ⟨e1,e2,e3⟩:=ml_ok (a:=1) (m:=1) (by omega) (by omega) hr.2.2.1 hr.2.2.2.1 (by omega)
    obtain ⟨f1,f2,f3⟩:=ml_ok (m:=64) e2 (by omega) hs.2.2.1 hs.2.2.2.1 (by omega)
    obtain ⟨g1,g2,g3⟩:=ml_ok (m:=4096) f2 (by omega) ht.2.2.1 ht.2.2.2.1 (by omega)
    rw [many_cons3,e1,f1,g1]
    simp only [prodE,Int.one_mul]
    rw [Int.mul_comm r.ex s.ex,Int.mul_comm (s.ex * r.ex) t.ex,← Int.mul_assoc]
  · simp at h3
theorem ckPts0 (m : Im) : ∀ (r : List Nat) (T : List Int),ckPts m T r = 0 → (∀ i ∈ r,elAt m i < m.dt.length ∧ elAt m i ∉ T) ∧ (r.map (elAt m)).Nodup
  | [],_,_ => ⟨fun i hi => (nomatch hi),List.nodup_nil⟩
  | i :: r,T,h => by
    unfold ckPts at h
    by_cases h1 : (m.dt.length : Int) ≤ elAt m i
    · rw [if_pos h1] at h; omega
    · rw [if_neg h1] at h
      by_cases h2 : elAt m i ∈ T
      · rw [if_pos h2] at h; omega
      · rw [if_neg h2] at h
        obtain ⟨i1,i2⟩:=ckPts0 m r _ h
        refine ⟨fun j hj => ?_,?_⟩
        · rcases List.mem_cons.1 hj with rfl | hj
          · exact ⟨by omega,h2⟩
          · obtain ⟨j1,j2⟩:=i1 j hj
            exact ⟨j1,fun hc => j2 (List.mem_append_left _ hc)⟩
        · rw [List.map_cons,List.nodup_cons]
          refine ⟨fun hc => ?_,i2⟩
          obtain ⟨j,hj,hje⟩:=List.mem_map.1 hc
          obtain ⟨_,j2⟩:=i1 j hj
          exact j2 (by rw [hje]; simp)
structure Good (m : Im) (N : Nat) : Prop where
  kd : ckKind m.kd = 0
  bx : ckBox m.bx = 0
  stl : m.st.length = m.bx.length
  st : Oks m.st
  many : many m.bx = N
  small : N ≤ 4096
  dtl : m.dt.length ≤ 4096
  dt : fnz (m.dt.map (ckB1 m.kd)) = 0
  pts : ckPts m [] (List.range N) = 0
theorem good_of {m : Im} (h : ckI m = 0) : ∃ N,Good m N:=by
  unfold ckI ckIm at h
  by_cases hA : ckA m = 0
  · rw [if_pos hA] at h
    by_cases hB : ckB m = 0
    · rw [if_pos hB] at h
      by_cases hD : fnz (m.dt.map (ckB1 m.kd)) = 0
      · rw [if_pos hD] at h
        obtain ⟨a1,a2,a3⟩:=ckA0 hA
        obtain ⟨N,hN,hN2⟩:=many_nat a2
        have hs:=fz0 _ hB (if m.st.any (fun x => !(decide (x ≥ 0) && decide (x ≤ 4096))) then 3 else 0) (by simp)
        have hl:=fz0 _ hB (if 4096 < m.dt.length then 5 else 0) (by simp)
        refine ⟨N,a1,a2,a3,any_oks ?_,hN,hN2,?_,hD,?_⟩
        · cases hc : m.st.any (fun x => !(decide (x ≥ 0) && decide (x ≤ 4096)))
          · rfl
          · rw [hc] at hs; exact absurd hs (by decide)
        · split at hl
          · omega
          · omega
        · have : (Go.Vm.P4.many m.bx).toNat = N:=by omega
          rwa [this] at h
      · rw [if_neg hD] at h; exact absurd h hD
    · rw [if_neg hB] at h; exact absurd h hB
  · rw [if_neg hA] at h; exact absurd h hA
namespace Good
variable {m : Im} {N : Nat} (G : Good m N)
include G
theorem okr : Okr m.bx:=(ckBox0 G.bx).2.2.1
theorem len3 : m.bx.length ≤ 3:=(ckBox0 G.bx).2.1
theorem len1 : 1 ≤ m.bx.length:=(ckBox0 G.bx).1
theorem pos (h : N ≠ 0) : ∀ r ∈ m.bx,0 < r.ex:=ex_pos G.okr (by have:=G.many; omega)
theorem elIdx {p : List Int} (hp : InB m.bx p) : (∀ r ∈ m.bx,0 < r.ex) ∧ ∃ i : Nat,i < N ∧ digits m.bx i = p ∧ elAt m i = elt m.bx p m.st 0:=by
  have hx : ∀ r ∈ m.bx,0 < r.ex:=by
    have key : ∀ (l : Bx) (p : List Int),InB l p → ∀ r ∈ l,0 < r.ex:=by
      intro l
      induction l with
      | nil => intro p _ r hr; cases hr
      | cons y l ih =>
        intro p hp r hr
        rcases p with _ | ⟨x,p⟩
        · exact hp.elim
        obtain ⟨h1,h2,h3⟩:=hp
        rcases List.mem_cons.1 hr with rfl | hr
        · omega
        · exact ih p h3 r hr
    exact key _ _ hp
  obtain ⟨h1,h2⟩:=horn_bd m.bx p hx hp
  have h3:=digits_horn m.bx p hx hp
  have h4:=many_prod G.okr G.len3
  have h5:=G.many
  refine ⟨hx,(hornE m.bx p).toNat,by omega,?_,?_⟩
  · rw [show (((hornE m.bx p).toNat : Nat) : Int) = hornE m.bx p by omega]; exact h3
  · have e2:=plc_dig m.bx G.okr G.len3 hx (hornE m.bx p).toNat
    rw [show (((hornE m.bx p).toNat : Nat) : Int) = hornE m.bx p by omega,h3] at e2
    have hl : p.length = m.bx.length:=by rw [← h3,digits_len]
    rw [elAt,e2,elt_app _ _ _ _ _ (by omega) (by have:=G.stl; omega)]
theorem nn {p : List Int} (hp : InB m.bx p) : 0 ≤ elt m.bx p m.st 0 :=
  elt_nn _ _ _ _ G.okr hp G.st (by have:=G.stl; omega) (by omega) (by have:=G.len3; omega)
end Good
def atI (m : Im) (p : List Int) : Int:=(m.dt[(elt m.bx p m.st 0).toNat]?).getD 0
theorem Good.at {m : Im} {N : Nat} (G : Good m N) {p : List Int} (hp : InB m.bx p) : ∃ k : Nat,elt m.bx p m.st 0 = k ∧ k < m.dt.length ∧ m.dt[k]? = some (atI m p):=by
  obtain ⟨hx,i,h1,h2,h3⟩:=G.elIdx hp
  have h4:=((ckPts0 m _ _ G.pts).1 i (by simpa using h1)).1
  have h5:=G.nn hp
  refine ⟨(elt m.bx p m.st 0).toNat,by omega,by omega,?_⟩
  rw [atI,List.getElem?_eq_getElem (show (elt m.bx p m.st 0).toNat < m.dt.length by omega)]; rfl
theorem Good.inj {m : Im} {N : Nat} (G : Good m N) {p q : List Int} (hp : InB m.bx p) (hq : InB m.bx q) (h : elt m.bx p m.st 0 = elt m.bx q m.st 0) : p = q:=by
  obtain ⟨_,i,i1,i2,i3⟩:=G.elIdx hp
  obtain ⟨_,j,j1,j2,j3⟩:=G.elIdx hq
  have nd:=(ckPts0 m _ _ G.pts).2
  have e : i = j:=by
    have h1 : ((List.range N).map (elAt m))[i]? = some (elAt m i):=by simp [i1]
    have h2 : ((List.range N).map (elAt m))[j]? = some (elAt m j):=by simp [j1]
    have h3 : ((List.range N).map (elAt m))[i]? = ((List.range N).map (elAt m))[j]?:=by rw [h1,h2,i3,j3,h]
    exact (List.getElem?_inj (by simpa using i1) nd).1 h3
  rw [← i2,← j2,e]
theorem in_pad {l : Bx} {p : List Int} (h : InB l p) : p.length = l.length:=by
  induction l generalizing p with
  | nil => cases p with | nil => rfl | cons x p => exact h.elim
  | cons r l ih => cases p with | nil => exact h.elim | cons x p => simp [ih h.2.2]
theorem Good.atP {m : Im} {N : Nat} (G : Good m N) {p q : List Int} (hp : InB m.bx p) : ∃ k : Nat,elt m.bx (p ++ q) m.st 0 = k ∧ k < m.dt.length ∧ m.dt[k]? = some (atI m p):=by
  obtain ⟨k,h1,h2⟩:=G.at hp
  exact ⟨k,by rw [elt_app _ _ _ _ _ (by rw [in_pad hp]; exact Nat.le_refl _) (by have:=G.stl; omega)]; exact h1,h2⟩
end Go.Vm.P4Z

/- Chapter 04,functions: Check and Edge,whatever the image. -/
set_option maxRecDepth 100000
set_option maxHeartbeats 4000000
namespace Go.Vm.P4Z
open Go Go.Vm Go.Vm.P4
theorem okCheckI (n : Nat) (m : Im) (hx : m.bx.length < 1000000) (hs : m.st.length < 1000000) (hd : m.dt.length < 1000000) (hv : Ok64 m.dt) : callP (level E (n+9)) 50 [enIm m] = some (.int .i64 (ckI m)) :=
  okCheck n m (ckB1 m.kd) hx hs hd (fun v hv' => okCheckG (n+1) m.kd v (hv v hv').1 (hv v hv').2)
def inn (rule : Nat) (r : Rg) (c : Int) : Int:=match rule with
  | 0 => min (max c r.lo) (r.lo + r.ex - 1)
  | 1 => r.lo + (c - r.lo) % r.ex
  | _ => r.lo + min ((c - r.lo) % (2 * r.ex)) (2 * r.ex - 1 - (c - r.lo) % (2 * r.ex))
theorem pad3 (p : List Int) (h : p.length ≤ 3) : (p ++ [0,0,0]).take 3 = p ++ List.replicate (3 - p.length) 0:=by
  rcases p with _ | ⟨x,_ | ⟨y,_ | ⟨z,_ | ⟨w,p⟩⟩⟩⟩
  · rfl
  · rfl
  · rfl
  · rfl
  · simp at h
end Go.Vm.P4Z

/- Chapter 04: what the laws' arguments hold: images,values,points with values. -/
set_option maxRecDepth 100000
namespace Go.Vm.P4Z
open Go Go.Vm Go.Vm.P4 Go.Proofs Go.ChangeShapes
section
variable {H : Type} {enc : TypeId × Value → H} {W : World} {sp : Nat → Bool} {held : Bool}
theorem cellsU : Tryz.prog.cellsOf 35 = 1:=by kernel_rfl
theorem cellsBits : Tryz.prog.cellsOf 25 = 1:=by kernel_rfl
theorem cellsImage : Tryz.prog.cellsOf 27 = 4:=by kernel_rfl
theorem cellsValue : Tryz.prog.cellsOf 49 = 2:=by kernel_rfl
theorem cellsSpot : Tryz.prog.cellsOf 51 = 3:=by kernel_rfl
theorem u64_range {k : Int} (h : (Lit.int .u64 k).wf = true) : 0 ≤ k ∧ k < 18446744073709551616:=by
  simp [Lit.wf] at h
  have e1 : IntKind.u64.min = 0:=by decide
  have e2 : IntKind.u64.max = 18446744073709551615:=by decide
  rw [e1,e2] at h
  omega
theorem rd_u64 {n : Nat} {cs : List Value} {x : DataW H × List MemPlace} (h : DataW.trod enc Tryz.prog W 0 sp held n 35 cs = some x) : ∃ a : { v : Int // 0 ≤ v ∧ v < 18446744073709551616 },(ub a.1).length = 1 ∧ Holds W (ub a.1) cs:=by
  obtain ⟨k,rfl,_,hw⟩:=DataW.trod_int Tryz.underlying35 h
  exact ⟨⟨k,u64_range hw⟩,rfl,holds_one rfl (.int _ _)⟩
theorem rd_bits {n : Nat} {cs : List Value} {x : DataW H × List MemPlace} (h : DataW.trod enc Tryz.prog W 0 sp held n 25 cs = some x) : ∃ (b : Bool) (l : List Int),Ok64 l ∧ Holds W [slD b 1 (l.map ub)] cs:=by
  obtain ⟨b,l,hl⟩:=rd_slice (en:=fun a : { v : Int // 0 ≤ v ∧ v < 18446744073709551616 } => ub a.1) Tryz.underlying25 cellsU (by decide) (fun _ _ _ h => rd_u64 h) h
  refine ⟨b,l.map (·.1),fun v hv => ?_,?_⟩
  · obtain ⟨a,_,rfl⟩:=List.mem_map.1 hv
    exact a.2
  · rw [List.map_map]; exact hl
theorem rd_image {n : Nat} {cs : List Value} {x : DataW H × List MemPlace} (h : DataW.trod enc Tryz.prog W 0 sp held n 27 cs = some x) : ∃ m : Im,Ok64 m.dt ∧ Holds W [.int .i64 m.kd,enB m.bb m.bx,slD m.tb 1 (m.st.map ic),slD m.db 1 (m.dt.map ub)] cs:=by
  obtain ⟨xs,n',_,_,hl,hn,hf⟩:=DataW.trod_struct Tryz.underlying27 h
  rw [cellsImage] at hl
  obtain ⟨a,b,c,d,rfl⟩:=four_of hl
  have f0:=(hf 0 _ rfl).trans (List.getElem?_eq_getElem (show 0 < xs.length by rw [hn]; decide))
  have f1:=(hf 1 _ rfl).trans (List.getElem?_eq_getElem (show 1 < xs.length by rw [hn]; decide))
  have f2:=(hf 2 _ rfl).trans (List.getElem?_eq_getElem (show 2 < xs.length by rw [hn]; decide))
  have f3:=(hf 3 _ rfl).trans (List.getElem?_eq_getElem (show 3 < xs.length by rw [hn]; decide))
  simp only [List.getElem_toArray,List.getElem_cons_zero,List.getElem_cons_succ,cells3,cellsBox,cellsInts,cellsBits,List.drop_zero,List.drop_succ_cons,List.take_succ_cons,List.take_zero,List.take_nil] at f0 f1 f2 f3
  obtain ⟨p,e1,_,_⟩:=DataW.trod_int Tryz.underlying3 f0
  simp only [List.cons.injEq,and_true] at e1
  subst e1
  obtain ⟨b1,l1,h1⟩:=rd_box f1
  obtain ⟨b2,l2,h2⟩:=rd_ints f2
  obtain ⟨b3,l3,h64,h3⟩:=rd_bits f3
  exact ⟨⟨p,b1,l1,b2,l2,b3,l3⟩,h64,holds_app (a:=[.int .i64 p]) (x:=[.int .i64 p]) (holds_one rfl (.int _ _)) (holds_app (x:=[b]) h1 (holds_app (x:=[c]) h2 h3))⟩
theorem rd_value {n : Nat} {cs : List Value} {x : DataW H × List MemPlace} (h : DataW.trod enc Tryz.prog W 0 sp held n 49 cs = some x) : ∃ k v : Int,(0 ≤ v ∧ v < 18446744073709551616) ∧ Holds W [.int .i64 k,.int .u64 v] cs:=by
  obtain ⟨xs,n',_,_,hl,hn,hf⟩:=DataW.trod_struct Tryz.underlying49 h
  rw [cellsValue] at hl
  obtain ⟨a,b,rfl⟩:=two_of hl
  have f0:=(hf 0 _ rfl).trans (List.getElem?_eq_getElem (show 0 < xs.length by rw [hn]; decide))
  have f1:=(hf 1 _ rfl).trans (List.getElem?_eq_getElem (show 1 < xs.length by rw [hn]; decide))
  simp only [List.getElem_toArray,List.getElem_cons_zero,List.getElem_cons_succ,cells3,cellsU,List.drop_zero,List.drop_succ_cons,List.take_succ_cons,List.take_zero,List.take_nil] at f0 f1
  obtain ⟨p,e1,_,_⟩:=DataW.trod_int Tryz.underlying3 f0
  obtain ⟨q,e2,_,hw⟩:=DataW.trod_int Tryz.underlying35 f1
  simp only [List.cons.injEq,and_true] at e1 e2
  subst e1 e2
  exact ⟨p,q,u64_range hw,holds_app (a:=[.int .i64 p]) (x:=[.int .i64 p]) (holds_one rfl (.int _ _)) (holds_one rfl (.int _ _))⟩
theorem rd_spot {n : Nat} {cs : List Value} {x : DataW H × List MemPlace} (h : DataW.trod enc Tryz.prog W 0 sp held n 51 cs = some x) : ∃ (c : Bool) (l : List Int) (k v : Int),(0 ≤ v ∧ v < 18446744073709551616) ∧ Holds W [slD c 1 (l.map ic),.int .i64 k,.int .u64 v] cs:=by
  obtain ⟨xs,n',_,_,hl,hn,hf⟩:=DataW.trod_struct Tryz.underlying51 h
  rw [cellsSpot] at hl
  obtain ⟨a,b,c,rfl⟩:=three_of hl
  have f0:=(hf 0 _ rfl).trans (List.getElem?_eq_getElem (show 0 < xs.length by rw [hn]; decide))
  have f1:=(hf 1 _ rfl).trans (List.getElem?_eq_getElem (show 1 < xs.length by rw [hn]; decide))
  simp only [List.getElem_toArray,List.getElem_cons_zero,List.getElem_cons_succ,cellsInts,cellsValue,List.drop_zero,List.drop_succ_cons,List.take_succ_cons,List.take_zero,List.take_nil] at f0 f1
  obtain ⟨b1,l1,h1⟩:=rd_ints f0
  obtain ⟨k,v,hr,h2⟩:=rd_value f1
  exact ⟨b1,l1,k,v,hr,holds_app (x:=[a]) h1 h2⟩
theorem arg_image {r : Reach} {b0 : Nat} {v : Value} {d : DataW H} {p : List MemPlace} (hv : Value.okWide Tryz.prog W r b0 27 v) (h : DataW.Trod enc Tryz.prog W 0 sp held 27 v d p) : ∃ m : Im,Ok64 m.dt ∧ RepD (Old W) W (enIm m) v:=by
  obtain ⟨n,h⟩:=h
  obtain ⟨vs,rfl,_⟩:=WideShapes.okWide_struct Tryz.underlying27 hv
  obtain ⟨m,h1,hc⟩:=rd_image h
  exact ⟨m,h1,Go.Vm.P4.ds_agg hc⟩
theorem arg_spot {r : Reach} {b0 : Nat} {v : Value} {d : DataW H} {p : List MemPlace} (hv : Value.okWide Tryz.prog W r b0 51 v) (h : DataW.Trod enc Tryz.prog W 0 sp held 51 v d p) : ∃ (c : Bool) (l : List Int) (ko vo : Int),(0 ≤ vo ∧ vo < 18446744073709551616) ∧ RepD (Old W) W (.agg [slD c 1 (l.map ic),.int .i64 ko,.int .u64 vo]) v:=by
  obtain ⟨n,h⟩:=h
  obtain ⟨vs,rfl,_⟩:=WideShapes.okWide_struct Tryz.underlying51 hv
  obtain ⟨c,l,k,v,h1,hc⟩:=rd_spot h
  exact ⟨c,l,k,v,h1,Go.Vm.P4.ds_agg hc⟩
end
end Go.Vm.P4Z

/- Chapter 04,plain law: parts of an image: points of boxes within boxes,points with two coordinates exchanged,points of planes. -/
set_option maxRecDepth 100000
set_option maxHeartbeats 1000000
namespace Go.Vm.P4Z
open Go Go.Vm Go.Vm.P4
def dnI (kd : Int) (bb : Bool) (l : Bx) (N : Nat) (F : List Int → Int) : Im:=⟨kd,bb,l,true,strides 1 l,true,(List.range N).map fun i => F (digits l (i : Nat))⟩
end Go.Vm.P4Z

/- Chapter 04,functions: Dense,Crop,Slice,Transpose,whatever the image. -/
set_option maxRecDepth 100000
set_option maxHeartbeats 4000000
namespace Go.Vm.P4Z
open Go Go.Vm Go.Vm.P4
instance rgDec : DecidableEq Rg:=fun a b => decidable_of_iff (a.lo = b.lo ∧ a.ex = b.ex) (by rcases a with ⟨_,_⟩; rcases b with ⟨_,_⟩; simp)
def im0 : Im:=⟨0,true,[],true,[],true,[]⟩
theorem view_pts (n : Nat) (m : Im) (M : Nat) (G : Good m M) (l : Bx) (ho : Okr l) (h3 : l.length ≤ 3) (hl : l.length = m.bx.length) (N : Nat) (hN : many l = N) (hin : ∀ p,InB l p → InB m.bx p) :
    ∀ i,i < N → callP (level E (n+2)) 84 ([enIm m] ++ [enP (plc l i)] ++ []) = some (.int .u64 (atI m ((plc l i).take l.length))):=by
  intro i hi
  have hx:=ex_pos ho (by omega : many l ≠ 0)
  have e2:=plc_dig l ho h3 hx i
  obtain ⟨k,k1,k2,k3⟩:=G.atP (q:=List.replicate (3 - l.length) 0) (hin _ (digits_in l i hx))
  rw [← e2] at k1
  rw [plc_take l ho h3 hx]
  exact okViewAt n m (plc l i) k _ (plc_len l i) G.len3 (by have:=G.stl; omega) k1 k3
end Go.Vm.P4Z

/- Chapter 04,functions: Slice and Transpose,whatever the image. -/
set_option maxRecDepth 100000
set_option maxHeartbeats 8000000
namespace Go.Vm.P4Z
open Go Go.Vm Go.Vm.P4
end Go.Vm.P4Z

/- Chapter 04,functions: Slice and Transpose,in one. -/
set_option maxRecDepth 100000
set_option maxHeartbeats 8000000
namespace Go.Vm.P4Z
open Go Go.Vm Go.Vm.P4
end Go.Vm.P4Z

/- Chapter 04,functions: the reference's Edge. -/
set_option maxRecDepth 100000
set_option maxHeartbeats 4000000
namespace Go.Vm.P4Z
open Go Go.Vm Go.Vm.P4
end Go.Vm.P4Z

/- Chapter 04,functions: the reference's parts of images. -/
set_option maxRecDepth 100000
set_option maxHeartbeats 4000000
namespace Go.Vm.P4Z
open Go Go.Vm Go.Vm.P4
abbrev boxI (m : Im) : AO:=.box [.imm (.int .i64 m.kd),.imm (enB m.bb m.bx),.imm (slD m.tb 1 (m.st.map ic)),.imm (slD m.db 1 (m.dt.map ub))]
abbrev boxZ : AO:=.box [.imm (.int .i64 0),.imm .nil,.imm .nil,.imm .nil]
theorem flatB (b : Bool) {l : Bx} (h : l ≠ []) : flatD (enB b l) = false:=by
  rcases l with _ | ⟨r,l⟩
  · exact absurd rfl h
  · cases b <;> rfl
theorem okRCrop (n : Nat) (m : Im) (M : Nat) (G : Good m M) (c : Bool) (l : Bx) (ho : Okr l) (h3 : l.length ≤ 3) (hl : l.length = m.bx.length) (N : Nat) (hN : many l = N) (hN2 : N < 1000000) (hin : N ≠ 0 → ∀ p,InB l p → InB m.bx p) :
    callP (level E (n+3)) 34 [enIm m,enB c l] = some (enIm (dnI m.kd true l N (atI m))):=by
  rw [p34]
  simp only [go_sem,Nat.reduceAdd,Nat.reduceSub,Nat.reduceMul,Nat.reduceDiv,Nat.reduceMod,Nat.reduceLeDiff,Nat.reduceLT,Nat.reduceBEq,Int.reduceToNat,Int.reduceLT,Int.reduceLE,Int.reduceEq,enIm]
  have pr:=okRProduct (n+1) c l (by omega)
  have h:=loop_fold (f:=aCode (level E (n+2)) ⟨0,false⟩ b34_0) (h:=head ⟨0,false⟩ [0,1,1,1,1,1,0]) (Φ:=outC ⟨0,false⟩ [0,1,1,1,1,0,0]) (List.range N) (fun (a : List Int) i => ⟨[.junk,.imm (enB c l),.ptr 0 0,.ptr 1 0,vK 2 1 (a.map ub),.imm (.int .i64 i),.junk],boxZ :: boxI m :: oK 1 (a.map ub),none⟩) (fun a i => a.length = i)
    (fun a i => a ++ [atI m (digits l (i : Nat))]) (fun a => some (.exit 0,⟨[.junk,.imm (enB c l),.ptr 0 0,.ptr 1 0,vK 2 1 (a.map ub),.junk,.junk],boxZ :: boxI m :: oK 1 (a.map ub),none⟩)) [] rfl
    (fun a i x hI h2 h1 => ⟨by
      have:=getRange h1
      subst this
      rw [List.length_range] at h2
      have hx:=ex_pos ho (by omega : many l ≠ 0)
      have rp:=okRPoint (n+1) c l x (by omega) (fun r hr => by have:=hx r hr; omega)
      rw [ptW_dig l x ho hx (by omega) (by omega)] at rp
      obtain ⟨k,k1,k2,k3⟩:=G.at (hin (by omega) _ (digits_in l x hx))
      have rb:=okRBits n m true (digits l x) G.len3 (by have:=G.stl; omega) (by rw [digits_len]; omega) k _ k1 k3
      have hlt : (x : Int) < many l:=by omega
      rw [rnd_eq]
      have e1 : (a.length + 1) * 9 ≤ 70368744177664:=by omega
      simp only [enIm] at rb
      rcases a with _ | ⟨y,t⟩
      · simp only [go_sem,Nat.reduceAdd,Nat.reduceSub,Nat.reduceMul,Nat.reduceDiv,Nat.reduceMod,Nat.reduceLeDiff,Nat.reduceLT,Nat.reduceBEq,Int.reduceToNat,Int.reduceLT,Int.reduceLE,Int.reduceEq,pr,hlt,rp,rb,vK,oK,enB]
        rw [wrpS (by omega)]
      · simp only [List.length_cons] at e1
        simp only [go_sem,Nat.reduceAdd,Nat.reduceSub,Nat.reduceMul,Nat.reduceDiv,Nat.reduceMod,Nat.reduceLeDiff,Nat.reduceLT,Nat.reduceBEq,Int.reduceToNat,Int.reduceLT,Int.reduceLE,Int.reduceEq,pr,hlt,rp,rb,vK,oK,e1,enB]
        rw [wrpS (by omega)],by simp [hI]⟩)
    (fun a _ => by
      rw [rnd_eq]
      rw [List.length_range]
      have hlt : ¬ (N : Int) < many l:=by omega
      rcases a with _ | ⟨y,t⟩ <;> simp only [go_sem,Nat.reduceAdd,Nat.reduceSub,Nat.reduceMul,Nat.reduceDiv,Nat.reduceMod,Nat.reduceLeDiff,Nat.reduceLT,Nat.reduceBEq,Int.reduceToNat,Int.reduceLT,Int.reduceLE,Int.reduceEq,pr,hlt,vK,oK,enB])
  rw [cast_0] at h
  simp only [vK,oK,List.map_nil] at h
  rw [h,fold_snoc,List.nil_append]
  have mk:=okRMake n m.kd c true l ((List.range N).map fun i => atI m (digits l (i : Nat))) (by omega) (by simp; omega)
  rcases hq : (List.range N).map (fun i => atI m (digits l (i : Nat))) with _ | ⟨y,t⟩
  · rw [hq] at mk
    have mk' : callP (level E (n+2)) 45 [.int .i64 m.kd,enB c l,.nil] = some (enIm (dnI m.kd true l N (atI m))):=by
      rw [dnI,hq]; exact mk
    simp only [go_sem,Nat.reduceAdd,Nat.reduceSub,Nat.reduceMul,Nat.reduceDiv,Nat.reduceMod,Nat.reduceLeDiff,Nat.reduceLT,Nat.reduceBEq,Int.reduceToNat,Int.reduceLT,Int.reduceLE,Int.reduceEq,vK,oK,mk']
    simp only [go_sem,Nat.reduceAdd,Nat.reduceSub,Nat.reduceMul,Nat.reduceDiv,Nat.reduceMod,Nat.reduceLeDiff,Nat.reduceLT,Nat.reduceBEq,Int.reduceToNat,Int.reduceLT,Int.reduceLE,Int.reduceEq,enIm]
  · rw [hq] at mk
    have mk' : callP (level E (n+2)) 45 [.int .i64 m.kd,enB c l,.sl 1 ([.int .u64 y] :: t.map ub)] = some (enIm (dnI m.kd true l N (atI m))):=by
      rw [dnI,hq]; exact mk
    have hfe : flatD (enB (dnI m.kd true l N (atI m)).bb (dnI m.kd true l N (atI m)).bx) = false:=flatB true (fun h => by have h : l = []:=h; rw [h] at hl; have:=G.len1; simp at hl; omega)
    simp only [go_sem,Nat.reduceAdd,Nat.reduceSub,Nat.reduceMul,Nat.reduceDiv,Nat.reduceMod,Nat.reduceLeDiff,Nat.reduceLT,Nat.reduceBEq,Int.reduceToNat,Int.reduceLT,Int.reduceLE,Int.reduceEq,vK,oK,mk']
    simp only [go_sem,Nat.reduceAdd,Nat.reduceSub,Nat.reduceMul,Nat.reduceDiv,Nat.reduceMod,Nat.reduceLeDiff,Nat.reduceLT,Nat.reduceBEq,Int.reduceToNat,Int.reduceLT,Int.reduceLE,Int.reduceEq,enIm,hfe,Bool.false_and,Bool.and_false]
theorem okRDense (n : Nat) (m : Im) (N : Nat) (G : Good m N) : callP (level E (n+4)) 33 [enIm m] = some (enIm (dnI m.kd true m.bx N (atI m))):=by
  rw [p33]
  have h:=okRCrop n m N G m.bb m.bx G.okr G.len3 rfl N G.many (by have:=G.small; omega) (fun _ _ h => h)
  simp only [enIm] at h ⊢
  simp only [go_sem,Nat.reduceAdd,Nat.reduceSub,Nat.reduceMul,Nat.reduceDiv,Nat.reduceMod,Nat.reduceLeDiff,Nat.reduceLT,Nat.reduceBEq,Int.reduceToNat,Int.reduceLT,Int.reduceLE,Int.reduceEq,h]
end Go.Vm.P4Z

/- Chapter 04,functions: Make,At,Set. -/
set_option maxRecDepth 100000
set_option maxHeartbeats 4000000
namespace Go.Vm.P4Z
open Go Go.Vm Go.Vm.P4
theorem okCloneU (n : Nat) (b : Bool) (l : List Int) (hl : l.length < 1000000) : callI (level E (n+1)) 98 [slD b 1 (l.map ub)] = some (clV b 1 (l.map ub),clO 1 (l.map ub)):=by
  rw [i98]
  rcases l with _ | ⟨x,t⟩
  · cases b <;> simp only [go_sem,Nat.reduceAdd,Nat.reduceSub,Nat.reduceMul,Nat.reduceDiv,Nat.reduceMod,Nat.reduceLeDiff,Nat.reduceLT,Nat.reduceBEq,Int.reduceToNat,Int.reduceLT,Int.reduceLE,Int.reduceEq,slD,clV,clO,isNilSl,aEq] <;> rfl
  · have e : (t.length + 1) * 9 ≤ 70368744177664:=by simp at hl; omega
    have e0 : slD b 1 ((x :: t).map ub) = .sl 1 ((x :: t).map ub):=by cases b <;> rfl
    have e1 : clV b 1 ((x :: t).map ub) = .ref 0 1 0 (t.length + 1):=by cases b <;> simp [clV]
    rw [e0,e1]
    simp only [go_sem,Nat.reduceAdd,Nat.reduceSub,Nat.reduceMul,Nat.reduceDiv,Nat.reduceMod,Nat.reduceLeDiff,Nat.reduceLT,Nat.reduceBEq,Int.reduceToNat,Int.reduceLT,Int.reduceLE,Int.reduceEq,clO,e,isNilSl,aEq]
    done
def ckM1 (kd : Int) (l : Bx) : Int:=fnz [ckKind kd,ckBox l]
def ckM2 (kd : Int) (l : Bx) (dt : List Int) : Int:=fnz [if (dt.length : Int) = many l then 0 else 2,fnz (dt.map (ckB1 kd))]
def makeR (kd : Int) (l : Bx) (dt : List Int) : Im × Int :=
  if ckM1 kd l = 0 then (if ckM2 kd l dt = 0 then (⟨kd,true,l,true,strides 1 l,true,dt⟩,0) else (im0,ckM2 kd l dt)) else (im0,ckM1 kd l)
theorem okMakeG (n : Nat) (kd : Int) (l : Bx) (dt : List Int) (hl : l.length < 1000000) (hd : dt.length < 1000000) (hv : Ok64 dt) :
    callP (level E (n+10)) 37 [.int .i64 kd,enB true l,slD true 1 (dt.map ub)] = some (.tup [enIm (makeR kd l dt).1,.int .i64 (makeR kd l dt).2]):=by
  rw [p37]
  have k1:=okCheckKind (n+7) kd
  have b1:=okCheckBox (n+5) true l hl
  have f1 : callP (level E (n+9)) 65 [.sl 1 [[.int .i64 (ckKind kd)],[.int .i64 (ckBox l)]]] = some (.int .i64 (ckM1 kd l)):=okFirstL (n+8) _ [ckKind kd,ckBox l] rfl (by simp)
  have m1:=okMany (n+8) true l (by omega)
  have w1 : callP (level E (n+9)) 64 [.bool (decide (¬ (dt.length : Int) = many l)),.int .i64 2] = some (.int .i64 (if (dt.length : Int) = many l then 0 else 2)):=by
    rw [okWhen (n+8)]
    by_cases h : (dt.length : Int) = many l <;> simp [h]
  have e1:=okElements (n+5) true kd dt (ckB1 kd) hd (fun v hv' => okCheckG (n+2) kd v (hv v hv').1 (hv v hv').2)
  have f2 : callP (level E (n+9)) 65 [.sl 1 [[.int .i64 (if (dt.length : Int) = many l then 0 else 2)],[.int .i64 (fnz (dt.map (ckB1 kd)))]]] = some (.int .i64 (ckM2 kd l dt)):=okFirstL (n+8) _ [if (dt.length : Int) = many l then 0 else 2,fnz (dt.map (ckB1 kd))] rfl (by simp)
  generalize (if (dt.length : Int) = many l then 0 else 2 : Int) = x2 at w1 f2
  generalize fnz (dt.map (ckB1 kd)) = x3 at e1 f2
  have d1:=okDense (n+8) true l (by omega)
  unfold makeR
  by_cases h1 : ckM1 kd l = 0
  · have h2':=fz0 _ h1 (ckBox l) (by simp)
    obtain ⟨q1,q2,q3,q4⟩:=ckBox0 h2'
    rw [h1] at f1
    rw [if_pos h1]
    have c1:=okCloneB (n+8) true l hl
    have c2:=okCloneU (n+8) true dt hd
    by_cases h2 : ckM2 kd l dt = 0
    · rw [h2] at f2
      rw [if_pos h2]
      rcases l with _ | ⟨r,t⟩
      · simp at q1
      rcases dt with _ | ⟨y,dt⟩
      · simp only [clV,clO,enB,slD_c,slD,List.map_nil,List.map_cons,enR,strides,ic] at c1 c2 d1 m1 b1 e1
        simp only [List.length_cons,List.length_nil,cast_0] at w1
        simp only [go_sem,Nat.reduceAdd,Nat.reduceSub,Nat.reduceMul,Nat.reduceDiv,Nat.reduceMod,Nat.reduceLeDiff,Nat.reduceLT,Nat.reduceBEq,Int.reduceToNat,Int.reduceLT,Int.reduceLE,Int.reduceEq,k1,b1,f1,m1,w1,e1,f2,c1,c2,d1,enB,enR,slD_c,slD,clV,clO,ne_eq,not_true_eq_false,enIm,strides,ic]
      · simp only [clV,clO,enB,slD_c,slD,List.map_nil,List.map_cons,enR,ub,strides,ic] at c1 c2 d1 m1 b1 e1
        simp only [List.length_cons,List.length_nil,cast_0] at w1
        simp only [go_sem,Nat.reduceAdd,Nat.reduceSub,Nat.reduceMul,Nat.reduceDiv,Nat.reduceMod,Nat.reduceLeDiff,Nat.reduceLT,Nat.reduceBEq,Int.reduceToNat,Int.reduceLT,Int.reduceLE,Int.reduceEq,k1,b1,f1,m1,w1,e1,f2,c1,c2,d1,enB,enR,slD_c,slD,clV,clO,ne_eq,not_true_eq_false,enIm,strides,ic]
    · rw [if_neg h2]
      simp only [enB] at b1 m1
      simp only [go_sem,Nat.reduceAdd,Nat.reduceSub,Nat.reduceMul,Nat.reduceDiv,Nat.reduceMod,Nat.reduceLeDiff,Nat.reduceLT,Nat.reduceBEq,Int.reduceToNat,Int.reduceLT,Int.reduceLE,Int.reduceEq,k1,b1,f1,m1,w1,e1,f2,h2,enB,ne_eq,not_true_eq_false,not_false_eq_true]
      rfl
  · rw [if_neg h1]
    simp only [enB] at b1
    simp only [go_sem,Nat.reduceAdd,Nat.reduceSub,Nat.reduceMul,Nat.reduceDiv,Nat.reduceMod,Nat.reduceLeDiff,Nat.reduceLT,Nat.reduceBEq,Int.reduceToNat,Int.reduceLT,Int.reduceLE,Int.reduceEq,k1,b1,f1,h1,enB,ne_eq,not_false_eq_true]
    rfl
def ckAtI (m : Im) (p : List Int) : Int:=ckAt (ckB1 m.kd) m p
theorem ckAt0 {m : Im} {p : List Int} (h : ckAtI m p = 0) : ckI m = 0 ∧ p.length = m.bx.length ∧ hasB m.bx p = true:=by
  unfold ckAtI ckAt at h
  by_cases z : fnz [ckIm (ckB1 m.kd) m,if p.length = m.bx.length then 0 else 13] = 0
  · have g1:=fz0 _ z (ckIm (ckB1 m.kd) m) (by simp)
    have g2:=fz0 _ z (if p.length = m.bx.length then 0 else 13) (by simp)
    rw [if_pos z] at h
    refine ⟨g1,?_,?_⟩
    · split at g2; assumption; omega
    · split at h; assumption; omega
  · rw [if_neg z] at h; exact absurd h z
theorem okCheckAtI (n : Nat) (m : Im) (c : Bool) (p : List Int) (hx : m.bx.length < 1000000) (hs : m.st.length < 1000000) (hd : m.dt.length < 1000000) (hv : Ok64 m.dt) :
    callP (level E (n+10)) 99 [enIm m,slD c 1 (p.map ic)] = some (.int .i64 (ckAtI m p)) :=
  okCheckAt n m c p (ckB1 m.kd) hx hs hd (fun v hv' => okCheckG (n+1) m.kd v (hv v hv').1 (hv v hv').2)
theorem at_pad {m : Im} {p : List Int} (h : ckAtI m p = 0) : ∃ k : Nat,elt m.bx ((p ++ [0,0,0]).take 3) m.st 0 = k ∧ k < m.dt.length ∧ m.dt[k]? = some (atI m p) ∧ p.length ≤ 3 ∧ m.bx.length ≤ 3 ∧ m.st.length = m.bx.length ∧ elt m.bx p m.st 0 = k:=by
  obtain ⟨h1,h2,h3⟩:=ckAt0 h
  obtain ⟨N,G⟩:=good_of h1
  have hp:=(hasB_in m.bx p G.okr h2).1 h3
  have l3:=G.len3
  have l1:=G.len1
  obtain ⟨k,k1,k2,k3⟩:=G.at hp
  obtain ⟨k',j1,j2,j3⟩:=G.atP (q:=List.replicate (3 - p.length) 0) hp
  have e : (p ++ [0,0,0]).take 3 = p ++ List.replicate (3 - p.length) 0:=pad3 p (by omega)
  have e2:=elt_app m.bx p (List.replicate (3 - p.length) 0) m.st 0
  refine ⟨k',by rw [e]; exact j1,j2,j3,by omega,l3,G.stl,?_⟩
  rw [elt_app _ _ _ _ _ (by omega) (by have:=G.stl; omega)] at j1
  exact j1
theorem okAtG (n : Nat) (m : Im) (c : Bool) (p : List Int) (hx : m.bx.length < 1000000) (hs : m.st.length < 1000000) (hd : m.dt.length < 1000000) (hv : Ok64 m.dt) :
    callP (level E (n+11)) 39 [enIm m,slD c 1 (p.map ic)] = some (.tup [if ckAtI m p = 0 then .agg [.int .i64 m.kd,.int .u64 (atI m p)] else .agg [.int .i64 0,.int .u64 0],.int .i64 (ckAtI m p)]):=by
  have h1:=okCheckAtI n m c p hx hs hd hv
  by_cases h : ckAtI m p = 0
  · rw [h] at h1
    obtain ⟨k,k1,k2,k3,k4,k5,k6,_⟩:=at_pad h
    rw [if_pos h,h]
    exact okAtS n m c p h1 k5 k4 (by omega) k _ k1 k3
  · rw [if_neg h]
    exact okAtE n m c p _ h h1
def ckSet (m : Im) (p : List Int) (k v : Int) : Int:=fnz [ckAtI m p,ckVal k v,if k = m.kd then 0 else 12]
def setR (m : Im) (p : List Int) (k v : Int) : Im × Int :=
  if ckSet m p k v = 0 then (⟨m.kd,m.bb,m.bx,m.tb,m.st,false,m.dt.set (elt m.bx p m.st 0).toNat v⟩,0) else (im0,ckSet m p k v)
theorem okSetG (n : Nat) (m : Im) (c : Bool) (p : List Int) (ko vo : Int) (hx : m.bx.length < 1000000) (hs : m.st.length < 1000000) (hd : m.dt.length < 1000000) (hv : Ok64 m.dt) (h0 : 0 ≤ vo) (h1 : vo < 18446744073709551616) :
    callP (level E (n+11)) 40 [enIm m,slD c 1 (p.map ic),.agg [.int .i64 ko,.int .u64 vo]] = some (.tup [enIm (setR m p ko vo).1,.int .i64 (setR m p ko vo).2]):=by
  rw [p40]
  have a1:=okCheckAtI n m c p hx hs hd hv
  have v1:=okCheckValue (n+7) ko vo h0 h1
  have w1 : callP (level E (n+10)) 64 [.bool (decide (¬ ko = m.kd)),.int .i64 12] = some (.int .i64 (if ko = m.kd then 0 else 12)):=by
    rw [okWhen (n+9)]
    by_cases h : ko = m.kd <;> simp [h]
  have f1 : callP (level E (n+10)) 65 [.sl 1 [[.int .i64 (ckAtI m p)],[.int .i64 (ckVal ko vo)],[.int .i64 (if ko = m.kd then 0 else 12)]]] = some (.int .i64 (ckSet m p ko vo)):=okFirstL (n+9) _ [ckAtI m p,ckVal ko vo,if ko = m.kd then 0 else 12] rfl (by simp)
  unfold setR
  by_cases h : ckSet m p ko vo = 0
  · have g1:=fz0 _ h (ckAtI m p) (by simp)
    obtain ⟨k,k1,k2,k3,k4,k5,k6,k7⟩:=at_pad g1
    obtain ⟨g2,_,_⟩:=ckAt0 g1
    obtain ⟨N,G⟩:=good_of g2
    have l1:=G.len1
    rw [h,g1] at f1
    rw [if_pos h,k7]
    generalize (if ko = m.kd then 0 else 12 : Int) = x at w1 f1
    have c1:=okCloneB (n+9) m.bb m.bx hx
    have c2:=okCloneI (n+9) m.tb m.st hs
    have o1:=okOf (n+9) c p k4
    have e1:=okElement (n+9) m.bb m.tb m.bx m.st ((p ++ [0,0,0]).take 3) k5 (by omega) (by simp)
    rw [k1] at e1
    simp only [enIm] at a1
    rcases m with ⟨kd,bb,bx,tb,st,db,dt⟩
    dsimp only at *
    rcases bx with _ | ⟨r,bt⟩
    · simp at l1
    rcases st with _ | ⟨s,stt⟩
    · simp at k6
    rcases dt with _ | ⟨y,dtt⟩
    · simp at k2
    rw [g1] at a1
    simp only [clV,clO,enB,slD_c,List.map_cons,enR,ub,ic] at a1 c1 c2 e1
    have mk : ∀ nid,mkC nid 1 8 [.int .u64 0] (some ((dtt.length + 1 : Nat) : Int)) (some ((dtt.length + 1 : Nat) : Int)) = some (.ref nid 1 0 (dtt.length + 1),[.arr 1 (List.replicate (dtt.length + 1) [.int .u64 0])]):=by
      intro nid
      rw [mk_ok (by omega) (by simp only [List.length_cons] at hd; omega) (by simp only [List.length_cons] at hd; omega),Int.toNat_natCast]
    have cp : ∀ (vars : List AV) (ext : Option Ext) (st : List AO) (id : Nat),coK st vars ext id 1 0 (dtt.length + 1) ([.int .u64 y] :: dtt.map ub) (some (.arr 1 (List.replicate (dtt.length + 1) [.int .u64 0]))) = some (.imm (.int .i64 ((dtt.length + 1 : Nat) : Int)),⟨vars,st.set id (.arr 1 ([.int .u64 y] :: dtt.map ub)),ext⟩):=by
      intro vars ext st id
      rw [ck_arr (by simp)]
      simp [Vm.setRange,List.take_of_length_le]
    have hk : (k : Int) < ((dtt.length + 1 : Nat) : Int):=by simp only [List.length_cons] at k2; omega
    have ir : aIaddr none 1 (.ref 3 1 0 (dtt.length + 1)) (k : Int) = some (.ptr 3 k):=by
      rw [ia_ref (by omega) hk]; simp
    have hg : ([D.int .u64 y] :: dtt.map ub)[k]? = some [.int .u64 (((y :: dtt)[k]?).getD 0)]:=by
      have : ([D.int .u64 y] :: dtt.map ub) = (y :: dtt).map ub:=rfl
      rw [this,List.getElem?_map,k3]; rfl
    have sr : srC 1 0 (dtt.length + 1) (some (.arr 1 (([D.int .u64 y] :: dtt.map ub).set k [.int .u64 vo]))) = some (1,([D.int .u64 y] :: dtt.map ub).set k [.int .u64 vo]):=by
      rw [sr_arr (by simp)]
      rw [List.drop_zero,List.take_of_length_le (by simp)]
    have hs2 : slD false 1 (((y :: dtt).set k vo).map ub) = .sl 1 (([D.int .u64 y] :: dtt.map ub).set k [.int .u64 vo]):=by
      have : ([D.int .u64 y] :: dtt.map ub) = (y :: dtt).map ub:=rfl
      rw [this,List.map_set]
      rcases k with _ | k <;> rfl
    simp only [go_sem,Nat.reduceAdd,Nat.reduceSub,Nat.reduceMul,Nat.reduceDiv,Nat.reduceMod,Nat.reduceLeDiff,Nat.reduceLT,Nat.reduceBEq,Int.reduceToNat,Int.reduceLT,Int.reduceLE,Int.reduceEq,enIm,enB,enR,ic,slD_c,g1,a1,v1,w1,f1,c1,c2,o1,e1,mk,cp,ir,hg,sr,hs2,Nat.div_one,Nat.mod_one,ne_eq,not_true_eq_false]
  · rw [if_neg h]
    generalize (if ko = m.kd then 0 else 12 : Int) = x at w1 f1
    simp only [enIm] at a1
    simp only [go_sem,Nat.reduceAdd,Nat.reduceSub,Nat.reduceMul,Nat.reduceDiv,Nat.reduceMod,Nat.reduceLeDiff,Nat.reduceLT,Nat.reduceBEq,Int.reduceToNat,Int.reduceLT,Int.reduceLE,Int.reduceEq,enIm,a1,v1,w1,f1,h,ne_eq,not_false_eq_true]
    rfl
end Go.Vm.P4Z

/- Chapter 04,functions: the reference's Set and Same. -/
set_option maxRecDepth 100000
set_option maxHeartbeats 4000000
namespace Go.Vm.P4Z
open Go Go.Vm Go.Vm.P4
theorem zip_run {α γ : Type} [DecidableEq α] (T F : γ) : ∀ l o : List α,l.length = o.length → runL (γ:=γ) (fun (_ : Unit) (x : α × α) => if x.1 = x.2 then .inl () else .inr F) (fun _ => T) () (List.zip l o) = if l = o then T else F
  | [],[],_ => rfl
  | [],_ :: _,h => by simp at h
  | _ :: _,[],h => by simp at h
  | x :: l,y :: o,h => by
    rw [List.zip_cons_cons,runL_cons]
    by_cases q : x = y
    · subst q
      simp only [if_true,zip_run T F l o (by simpa using h),List.cons.injEq,true_and]
    · simp only [q,if_false,List.cons.injEq,false_and]
theorem okSameBoxG (n : Nat) (b c : Bool) (l o : Bx) (hl : l.length < 1000000000) (ho : o.length < 1000000000) : callP (level E (n+1)) 59 [enB b l,enB c o] = some (.bool (decide (l = o))):=by
  by_cases hlo : l.length = o.length
  · have h:=loop_run (f:=aCode (level E (n)) ⟨0,false⟩ b59_0) (h:=head ⟨0,false⟩ [1,1,0,1,0,0,0]) (Φ:=outC ⟨0,false⟩ [0,0,1,0,0,0,0]) (List.zip l o) (fun (_ : Unit) i => ⟨[.imm (slD b 2 (l.map enR)),.imm (slD c 2 (o.map enR)),.junk,.imm (.int .i64 i),.junk,.junk,.junk],[],none⟩) (fun _ _ => True)
      (fun _ x => if x.1 = x.2 then .inl () else .inr (some (.ret,⟨[.junk,.junk,.imm (.bool false),.junk,.junk,.junk,.junk],[],none⟩))) (fun _ => some (.exit 0,⟨[.junk,.junk,.junk,.junk,.junk,.junk,.junk],[],none⟩)) () trivial
      (fun _ i x _ h2 h1 => ⟨by
        rw [List.length_zip] at h2
        have hil : i < l.length:=by omega
        have g1 : l[i]? = some x.1:=by
          rw [List.getElem?_zip_eq_some] at h1; exact h1.1
        have g2 : o[i]? = some x.2:=by
          rw [List.getElem?_zip_eq_some] at h1; exact h1.2
        rw [rnd_eq]
        rcases x with ⟨⟨a1,a2⟩,⟨b1,b2⟩⟩
        dsimp only at g1 g2 ⊢
        by_cases q1 : a1 = b1
        · by_cases q2 : a2 = b2
          · subst q1; subst q2
            simp only [go_sem,Nat.reduceAdd,Nat.reduceSub,Nat.reduceMul,Nat.reduceDiv,Nat.reduceMod,Nat.reduceLeDiff,Nat.reduceLT,Nat.reduceBEq,Int.reduceToNat,Int.reduceLT,Int.reduceLE,Int.reduceEq,lt_t hil,g1,g2,aEq,eqL,eqE,intEq,beq_self_eq_true]
            rw [wrpS (by omega)]
          · have z2 : (a2 == b2) = false:=by simpa using q2
            subst q1
            simp only [go_sem,Nat.reduceAdd,Nat.reduceSub,Nat.reduceMul,Nat.reduceDiv,Nat.reduceMod,Nat.reduceLeDiff,Nat.reduceLT,Nat.reduceBEq,Int.reduceToNat,Int.reduceLT,Int.reduceLE,Int.reduceEq,lt_t hil,g1,g2,aEq,eqL,eqE,intEq,beq_self_eq_true,z2,q2,Rg.mk.injEq,and_false]
        · have z1 : (a1 == b1) = false:=by simpa using q1
          simp only [go_sem,Nat.reduceAdd,Nat.reduceSub,Nat.reduceMul,Nat.reduceDiv,Nat.reduceMod,Nat.reduceLeDiff,Nat.reduceLT,Nat.reduceBEq,Int.reduceToNat,Int.reduceLT,Int.reduceLE,Int.reduceEq,lt_t hil,g1,g2,aEq,eqL,eqE,intEq,z1,q1,Rg.mk.injEq,false_and],fun _ _ => trivial⟩)
      (fun _ _ => by
        rw [rnd_eq]
        rw [List.length_zip,← hlo,Nat.min_self]
        simp only [go_sem,Nat.reduceAdd,Nat.reduceSub,Nat.reduceMul,Nat.reduceDiv,Nat.reduceMod,Nat.reduceLeDiff,Nat.reduceLT,Nat.reduceBEq,Int.reduceToNat,Int.reduceLT,Int.reduceLE,Int.reduceEq,lt_f (Nat.le_refl _)])
    rw [cast_0,zip_run _ _ l o hlo] at h
    have hz : (l.length : Int) = o.length:=by omega
    rw [p59]
    simp only [go_sem,Nat.reduceAdd,Nat.reduceSub,Nat.reduceMul,Nat.reduceDiv,Nat.reduceMod,Nat.reduceLeDiff,Nat.reduceLT,Nat.reduceBEq,Int.reduceToNat,Int.reduceLT,Int.reduceLE,Int.reduceEq,hz,ne_eq,not_true_eq_false]
    by_cases q : l = o
    · rw [if_pos q] at h
      rw [h]
      simp only [go_sem,Nat.reduceAdd,Nat.reduceSub,Nat.reduceMul,Nat.reduceDiv,Nat.reduceMod,Nat.reduceLeDiff,Nat.reduceLT,Nat.reduceBEq,Int.reduceToNat,Int.reduceLT,Int.reduceLE,Int.reduceEq,q]
    · rw [if_neg q] at h
      rw [h]
      simp only [go_sem,Nat.reduceAdd,Nat.reduceSub,Nat.reduceMul,Nat.reduceDiv,Nat.reduceMod,Nat.reduceLeDiff,Nat.reduceLT,Nat.reduceBEq,Int.reduceToNat,Int.reduceLT,Int.reduceLE,Int.reduceEq,q]
  · have hz : ¬ (l.length : Int) = o.length:=by omega
    have q : ¬ l = o:=fun h => hlo (by rw [h])
    rw [p59]
    simp only [go_sem,Nat.reduceAdd,Nat.reduceSub,Nat.reduceMul,Nat.reduceDiv,Nat.reduceMod,Nat.reduceLeDiff,Nat.reduceLT,Nat.reduceBEq,Int.reduceToNat,Int.reduceLT,Int.reduceLE,Int.reduceEq,hz,q,ne_eq,not_false_eq_true]
theorem okSameBitsG (n : Nat) (b c : Bool) (l o : List Int) (hl : l.length < 1000000000) (ho : o.length < 1000000000) : callP (level E (n+1)) 60 [slD b 1 (l.map ub),slD c 1 (o.map ub)] = some (.bool (decide (l = o))):=by
  by_cases hlo : l.length = o.length
  · have h:=loop_run (f:=aCode (level E (n)) ⟨0,false⟩ b60_0) (h:=head ⟨0,false⟩ [1,1,0,1,0,0,0]) (Φ:=outC ⟨0,false⟩ [0,0,1,0,0,0,0]) (List.zip l o) (fun (_ : Unit) i => ⟨[.imm (slD b 1 (l.map ub)),.imm (slD c 1 (o.map ub)),.junk,.imm (.int .i64 i),.junk,.junk,.junk],[],none⟩) (fun _ _ => True)
      (fun _ x => if x.1 = x.2 then .inl () else .inr (some (.ret,⟨[.junk,.junk,.imm (.bool false),.junk,.junk,.junk,.junk],[],none⟩))) (fun _ => some (.exit 0,⟨[.junk,.junk,.junk,.junk,.junk,.junk,.junk],[],none⟩)) () trivial
      (fun _ i x _ h2 h1 => ⟨by
        rw [List.length_zip] at h2
        have hil : i < l.length:=by omega
        have g1 : l[i]? = some x.1:=by
          rw [List.getElem?_zip_eq_some] at h1; exact h1.1
        have g2 : o[i]? = some x.2:=by
          rw [List.getElem?_zip_eq_some] at h1; exact h1.2
        rw [rnd_eq]
        rcases x with ⟨a1,b1⟩
        dsimp only at g1 g2 ⊢
        by_cases q1 : a1 = b1
        · subst q1
          simp only [go_sem,Nat.reduceAdd,Nat.reduceSub,Nat.reduceMul,Nat.reduceDiv,Nat.reduceMod,Nat.reduceLeDiff,Nat.reduceLT,Nat.reduceBEq,Int.reduceToNat,Int.reduceLT,Int.reduceLE,Int.reduceEq,lt_t hil,g1,g2,ne_eq,not_true_eq_false]
          rw [wrpS (by omega)]
        · simp only [go_sem,Nat.reduceAdd,Nat.reduceSub,Nat.reduceMul,Nat.reduceDiv,Nat.reduceMod,Nat.reduceLeDiff,Nat.reduceLT,Nat.reduceBEq,Int.reduceToNat,Int.reduceLT,Int.reduceLE,Int.reduceEq,lt_t hil,g1,g2,q1,ne_eq,not_false_eq_true],fun _ _ => trivial⟩)
      (fun _ _ => by
        rw [rnd_eq]
        rw [List.length_zip,← hlo,Nat.min_self]
        simp only [go_sem,Nat.reduceAdd,Nat.reduceSub,Nat.reduceMul,Nat.reduceDiv,Nat.reduceMod,Nat.reduceLeDiff,Nat.reduceLT,Nat.reduceBEq,Int.reduceToNat,Int.reduceLT,Int.reduceLE,Int.reduceEq,lt_f (Nat.le_refl _)])
    rw [cast_0,zip_run _ _ l o hlo] at h
    have hz : (l.length : Int) = o.length:=by omega
    rw [p60]
    simp only [go_sem,Nat.reduceAdd,Nat.reduceSub,Nat.reduceMul,Nat.reduceDiv,Nat.reduceMod,Nat.reduceLeDiff,Nat.reduceLT,Nat.reduceBEq,Int.reduceToNat,Int.reduceLT,Int.reduceLE,Int.reduceEq,hz,ne_eq,not_true_eq_false]
    by_cases q : l = o
    · rw [if_pos q] at h
      rw [h]
      simp only [go_sem,Nat.reduceAdd,Nat.reduceSub,Nat.reduceMul,Nat.reduceDiv,Nat.reduceMod,Nat.reduceLeDiff,Nat.reduceLT,Nat.reduceBEq,Int.reduceToNat,Int.reduceLT,Int.reduceLE,Int.reduceEq,q]
    · rw [if_neg q] at h
      rw [h]
      simp only [go_sem,Nat.reduceAdd,Nat.reduceSub,Nat.reduceMul,Nat.reduceDiv,Nat.reduceMod,Nat.reduceLeDiff,Nat.reduceLT,Nat.reduceBEq,Int.reduceToNat,Int.reduceLT,Int.reduceLE,Int.reduceEq,q]
  · have hz : ¬ (l.length : Int) = o.length:=by omega
    have q : ¬ l = o:=fun h => hlo (by rw [h])
    rw [p60]
    simp only [go_sem,Nat.reduceAdd,Nat.reduceSub,Nat.reduceMul,Nat.reduceDiv,Nat.reduceMod,Nat.reduceLeDiff,Nat.reduceLT,Nat.reduceBEq,Int.reduceToNat,Int.reduceLT,Int.reduceLE,Int.reduceEq,hz,q,ne_eq,not_false_eq_true]
end Go.Vm.P4Z

/- Chapter 04,functions: the reference's Set and Same. -/
set_option maxRecDepth 100000
set_option maxHeartbeats 4000000
namespace Go.Vm.P4Z
open Go Go.Vm Go.Vm.P4
theorem okRSet (n : Nat) (m : Im) (c : Bool) (p : List Int) (v : Int) (h3 : m.bx.length ≤ 3) (hs : m.bx.length ≤ m.st.length) (hp : m.bx.length ≤ p.length) (hs2 : m.st.length < 1000000) (hd : m.dt.length < 1000000) (k : Nat) (he : elt m.bx p m.st 0 = k) (hk : k < m.dt.length) :
    callP (level E (n+3)) 49 [enIm m,slD c 1 (p.map ic),.int .u64 v] = some (enIm { m.own with dt:=m.dt.set k v }):=by
  rw [p49]
  have o1:=okOwnImageI n m (by omega) hs2 hd
  have e1:=okRElement (n+1) m c p h3 hs hp
  rw [he] at e1
  rcases m with ⟨kd,bb,bx,tb,st,db,dt⟩
  dsimp only at *
  rcases dt with _ | ⟨y,dtt⟩
  · simp at hk
  have hk1 : (k : Int) < ((dtt.length + 1 : Nat) : Int):=by simp only [List.length_cons] at hk; omega
  have ir : aIaddr none 1 (.ref 2 1 0 (dtt.length + 1)) (k : Int) = some (.ptr 2 k):=by
    rw [ia_ref (by omega) hk1]; simp
  have hg : ∃ z,([D.int .u64 y] :: dtt.map ub)[k]? = some [.int .u64 z]:=by
    have : ([D.int .u64 y] :: dtt.map ub) = (y :: dtt).map ub:=rfl
    exact ⟨(y :: dtt)[k],by rw [this,List.getElem?_map,List.getElem?_eq_getElem hk]; rfl⟩
  obtain ⟨z,hg⟩:=hg
  have sr : srC 1 0 (dtt.length + 1) (some (.arr 1 (([D.int .u64 y] :: dtt.map ub).set k [.int .u64 v]))) = some (1,([D.int .u64 y] :: dtt.map ub).set k [.int .u64 v]):=by
    rw [sr_arr (by simp)]
    rw [List.drop_zero,List.take_of_length_le (by simp)]
  have hs2 : slD true 1 (((y :: dtt).set k v).map ub) = .sl 1 (([D.int .u64 y] :: dtt.map ub).set k [.int .u64 v]):=by
    have : ([D.int .u64 y] :: dtt.map ub) = (y :: dtt).map ub:=rfl
    rw [this,List.map_set]
    rcases k with _ | k <;> rfl
  simp only [vK,oK,enIm,enB,List.map_cons,ub] at o1 e1
  simp only [go_sem,Nat.reduceAdd,Nat.reduceSub,Nat.reduceMul,Nat.reduceDiv,Nat.reduceMod,Nat.reduceLeDiff,Nat.reduceLT,Nat.reduceBEq,Int.reduceToNat,Int.reduceLT,Int.reduceLE,Int.reduceEq] at o1
  simp only [go_sem,Nat.reduceAdd,Nat.reduceSub,Nat.reduceMul,Nat.reduceDiv,Nat.reduceMod,Nat.reduceLeDiff,Nat.reduceLT,Nat.reduceBEq,Int.reduceToNat,Int.reduceLT,Int.reduceLE,Int.reduceEq,enIm,enB,o1,e1,ir,hg,sr,hs2,Nat.div_one,Nat.mod_one,Im.own]
theorem okRSame (n : Nat) (m o : Im) (M O : Nat) (G : Good m M) (H : Good o O) :
    callP (level E (n+5)) 51 [enIm m,enIm o] = some (.bool (decide (m.kd = o.kd ∧ m.bx = o.bx ∧ (List.range M).map (fun i => atI m (digits m.bx (i : Nat))) = (List.range O).map (fun i => atI o (digits o.bx (i : Nat)))))):=by
  rw [p51]
  have b1:=okSameBoxG (n+3) m.bb o.bb m.bx o.bx (by have:=G.len3; omega) (by have:=H.len3; omega)
  have d1:=okRDense n m M G
  have d2:=okRDense n o O H
  have u1:=okSameBitsG (n+3) true true ((List.range M).map (fun i => atI m (digits m.bx (i : Nat)))) ((List.range O).map (fun i => atI o (digits o.bx (i : Nat)))) (by simp; have:=G.small; omega) (by simp; have:=H.small; omega)
  simp only [enIm,enB,dnI] at b1 d1 d2 u1
  by_cases k1 : m.kd = o.kd
  · by_cases k2 : m.bx = o.bx
    · simp only [k1,k2,decide_true] at b1 d1 d2 u1
      simp only [go_sem,Nat.reduceAdd,Nat.reduceSub,Nat.reduceMul,Nat.reduceDiv,Nat.reduceMod,Nat.reduceLeDiff,Nat.reduceLT,Nat.reduceBEq,Int.reduceToNat,Int.reduceLT,Int.reduceLE,Int.reduceEq,enIm,enB,k1,k2,b1,d1,d2,u1,ne_eq,not_true_eq_false,true_and]
    · simp only [go_sem,Nat.reduceAdd,Nat.reduceSub,Nat.reduceMul,Nat.reduceDiv,Nat.reduceMod,Nat.reduceLeDiff,Nat.reduceLT,Nat.reduceBEq,Int.reduceToNat,Int.reduceLT,Int.reduceLE,Int.reduceEq,enIm,enB,k1,k2,b1,ne_eq,not_true_eq_false,false_and,and_false]
  · simp only [go_sem,Nat.reduceAdd,Nat.reduceSub,Nat.reduceMul,Nat.reduceDiv,Nat.reduceMod,Nat.reduceLeDiff,Nat.reduceLT,Nat.reduceBEq,Int.reduceToNat,Int.reduceLT,Int.reduceLE,Int.reduceEq,enIm,enB,k1,ne_eq,not_false_eq_true,false_and]
end Go.Vm.P4Z

/- Chapter 04,functions: Same. -/
set_option maxRecDepth 100000
set_option maxHeartbeats 4000000
namespace Go.Vm.P4Z
open Go Go.Vm Go.Vm.P4
theorem aEqB (a b c d : Int) : aEq (.agg [(0,.agg [(0,.int),(1,.int)])]) (.imm (.agg [.int .i64 a,.int .i64 b])) (.imm (.agg [.int .i64 c,.int .i64 d])) = some (decide (a = c ∧ b = d)):=by
  by_cases h1 : a = c
  · by_cases h2 : b = d
    · simp [aEq,eqL,eqE,intEq,h1,h2]
    · have z : (b == d) = false:=by simpa using h2
      simp [aEq,eqL,eqE,intEq,h1,h2,z]
  · have z : (a == c) = false:=by simpa using h1
    simp [aEq,eqL,eqE,intEq,h1,z]
noncomputable def lpAt' {γ : Type} {f : S → Option (AExit × S)} {h : S → S} {Φ : Option (AExit × S) → γ} (t : S) : γ:=Φ (rnd f h t)
theorem okBequal (n : Nat) (r s : Rg) : callP (level E (n+1)) 101 [.agg [.int .i64 r.lo,.int .i64 r.ex],.agg [.int .i64 s.lo,.int .i64 s.ex]] = some (.bool (decide (r = s))):=by
  have e : decide (r = s) = decide (r.lo = s.lo ∧ r.ex = s.ex):=by
    rcases r with ⟨a,b⟩; rcases s with ⟨c,d⟩; simp only [Rg.mk.injEq]
  rw [e,p101]
  simp only [go_sem,Nat.reduceAdd,Nat.reduceSub,Nat.reduceMul,Nat.reduceDiv,Nat.reduceMod,Nat.reduceLeDiff,Nat.reduceLT,Nat.reduceBEq,Int.reduceToNat,Int.reduceLT,Int.reduceLE,Int.reduceEq,aEqB]
def ckSm (m o : Im) : Int:=fnz [ckI m,ckI o]
theorem okSame1 (n : Nat) (m o : Im) (hx : m.bx.length < 1000000) (hs : m.st.length < 1000000) (hd : m.dt.length < 1000000) (hv : Ok64 m.dt) (hx' : o.bx.length < 1000000) (hs' : o.st.length < 1000000) (hd' : o.dt.length < 1000000) (hv' : Ok64 o.dt) (h : ckSm m o ≠ 0 ∨ ckSm m o = 0 ∧ ¬ (m.kd = o.kd ∧ m.bx.length = o.bx.length)) :
    callP (level E (n+10)) 41 [enIm m,enIm o] = some (.tup [.bool false,.int .i64 (ckSm m o)]):=by
  have c1:=okCheckI n m hx hs hd hv
  have c2:=okCheckI n o hx' hs' hd' hv'
  have f1 : callP (level E (n+9)) 65 [.sl 1 [[.int .i64 (ckI m)],[.int .i64 (ckI o)]]] = some (.int .i64 (ckSm m o)):=okFirstL (n+8) _ [ckI m,ckI o] rfl (by simp)
  rw [p41]
  simp only [enIm] at c1 c2 ⊢
  rcases h with h | ⟨h,h2⟩
  · simp only [go_sem,Nat.reduceAdd,Nat.reduceSub,Nat.reduceMul,Nat.reduceDiv,Nat.reduceMod,Nat.reduceLeDiff,Nat.reduceLT,Nat.reduceBEq,Int.reduceToNat,Int.reduceLT,Int.reduceLE,Int.reduceEq,c1,c2,f1,h,ne_eq,not_false_eq_true]
  · rw [h] at f1 ⊢
    by_cases k1 : m.kd = o.kd
    · have k2 : ¬ (m.bx.length : Int) = o.bx.length:=fun e => h2 ⟨k1,by omega⟩
      simp only [enB,k1] at c1 c2
      simp only [go_sem,Nat.reduceAdd,Nat.reduceSub,Nat.reduceMul,Nat.reduceDiv,Nat.reduceMod,Nat.reduceLeDiff,Nat.reduceLT,Nat.reduceBEq,Int.reduceToNat,Int.reduceLT,Int.reduceLE,Int.reduceEq,c1,c2,f1,enB,k1,k2,ne_eq,not_true_eq_false,not_false_eq_true]
    · simp only [enB] at c1 c2
      simp only [go_sem,Nat.reduceAdd,Nat.reduceSub,Nat.reduceMul,Nat.reduceDiv,Nat.reduceMod,Nat.reduceLeDiff,Nat.reduceLT,Nat.reduceBEq,Int.reduceToNat,Int.reduceLT,Int.reduceLE,Int.reduceEq,c1,c2,f1,enB,k1,ne_eq,not_true_eq_false,not_false_eq_true]
abbrev bqF : AV:=.imm (.fn 101 [] [])
abbrev smV (m : Im) : AV:=.imm (.ptr [.int .i64 m.kd,enB m.bb m.bx,slD m.tb 1 (m.st.map ic),slD m.db 1 (m.dt.map ub)])
theorem okSameL (n : Nat) (m o : Im) (hl : m.bx.length = o.bx.length) (hx : m.bx.length < 1000000) :
    lpAt' (f:=aCode (level E (n+1)) ⟨0,false⟩ b41_0) (h:=head ⟨0,false⟩ [0,0,1,1,1,1,0,1,0,0,0,0,0,0,1,1,0,0,0,0,0,0]) (Φ:=outC ⟨0,false⟩ [0,0,1,1,1,1,0,0,0,0,0,0,0,0,0,0,0,0,0,0,0,0]) (⟨[.junk,.junk,.ptr 0 0,.ptr 1 0,smV m,smV o,.junk,bqF,.junk,.junk,.junk,.junk,.junk,.junk,.imm (.int .i64 o.bx.length),.imm (.int .i64 0),.junk,.junk,.junk,.junk,.junk,.junk],[.box [.imm (.bool false)],.box [.imm (.int .i64 0)]],none⟩) =
      if m.bx = o.bx then some (.exit 0,⟨[.junk,.junk,.ptr 0 0,.ptr 1 0,smV m,smV o,.junk,.junk,.junk,.junk,.junk,.junk,.junk,.junk,.junk,.junk,.junk,.junk,.junk,.junk,.junk,.junk],[.box [.imm (.bool false)],.box [.imm (.int .i64 0)]],none⟩) else some (.ret,⟨[.junk,.junk,.ptr 0 0,.ptr 1 0,smV m,smV o,.junk,.junk,.junk,.junk,.junk,.junk,.junk,.junk,.junk,.junk,.junk,.junk,.junk,.junk,.junk,.junk],[.box [.imm (.bool false)],.box [.imm (.int .i64 0)]],none⟩):=by
  have h:=loop_run (f:=aCode (level E (n+1)) ⟨0,false⟩ b41_0) (h:=head ⟨0,false⟩ [0,0,1,1,1,1,0,1,0,0,0,0,0,0,1,1,0,0,0,0,0,0]) (Φ:=outC ⟨0,false⟩ [0,0,1,1,1,1,0,0,0,0,0,0,0,0,0,0,0,0,0,0,0,0]) (List.zip m.bx o.bx) (fun (_ : Unit) i => ⟨[.junk,.junk,.ptr 0 0,.ptr 1 0,smV m,smV o,.junk,bqF,.junk,.junk,.junk,.junk,.junk,.junk,.imm (.int .i64 o.bx.length),.imm (.int .i64 i),.junk,.junk,.junk,.junk,.junk,.junk],[.box [.imm (.bool false)],.box [.imm (.int .i64 0)]],none⟩) (fun _ _ => True)
    (fun _ x => if x.1 = x.2 then .inl () else .inr (some (.ret,⟨[.junk,.junk,.ptr 0 0,.ptr 1 0,smV m,smV o,.junk,.junk,.junk,.junk,.junk,.junk,.junk,.junk,.junk,.junk,.junk,.junk,.junk,.junk,.junk,.junk],[.box [.imm (.bool false)],.box [.imm (.int .i64 0)]],none⟩))) (fun _ => some (.exit 0,⟨[.junk,.junk,.ptr 0 0,.ptr 1 0,smV m,smV o,.junk,.junk,.junk,.junk,.junk,.junk,.junk,.junk,.junk,.junk,.junk,.junk,.junk,.junk,.junk,.junk],[.box [.imm (.bool false)],.box [.imm (.int .i64 0)]],none⟩)) () trivial
    (fun _ i x _ h2 h1 => ⟨by
      rw [List.length_zip] at h2
      have hil : i < m.bx.length:=by omega
      have hio : i < o.bx.length:=by omega
      have hlt : (i : Int) < (o.bx.length : Int):=by omega
      have g1 : m.bx[i]? = some x.1:=by
        rw [List.getElem?_zip_eq_some] at h1; exact h1.1
      have g2 : o.bx[i]? = some x.2:=by
        rw [List.getElem?_zip_eq_some] at h1; exact h1.2
      have be:=okBequal n x.1 x.2
      rw [rnd_eq]
      by_cases q : x.1 = x.2
      · simp only [q,decide_true] at be g1
        simp only [go_sem,Nat.reduceAdd,Nat.reduceSub,Nat.reduceMul,Nat.reduceDiv,Nat.reduceMod,Nat.reduceLeDiff,Nat.reduceLT,Nat.reduceBEq,Int.reduceToNat,Int.reduceLT,Int.reduceLE,Int.reduceEq,enB,enR,hlt,g1,g2,be,q]
        rw [wrpS (by omega)]
      · simp only [q,decide_false] at be
        simp only [go_sem,Nat.reduceAdd,Nat.reduceSub,Nat.reduceMul,Nat.reduceDiv,Nat.reduceMod,Nat.reduceLeDiff,Nat.reduceLT,Nat.reduceBEq,Int.reduceToNat,Int.reduceLT,Int.reduceLE,Int.reduceEq,enB,enR,hlt,g1,g2,be,q],fun _ _ => trivial⟩)
    (fun _ _ => by
      rw [rnd_eq]
      have hlt : ¬ (o.bx.length : Int) < (o.bx.length : Int):=by omega
      rw [List.length_zip,hl,Nat.min_self]
      simp only [go_sem,Nat.reduceAdd,Nat.reduceSub,Nat.reduceMul,Nat.reduceDiv,Nat.reduceMod,Nat.reduceLeDiff,Nat.reduceLT,Nat.reduceBEq,Int.reduceToNat,Int.reduceLT,Int.reduceLE,Int.reduceEq,enB,hlt])
  rw [cast_0,zip_run _ _ _ _ hl] at h
  unfold lpAt'
  rw [h]
def SmV (m o : Im) : List AV:=[.junk,.junk,.ptr 0 0,.ptr 1 0,.imm (.ptr [.int .i64 o.kd,slD m.bb 2 (m.bx.map enR),slD m.tb 1 (m.st.map ic),slD m.db 1 (m.dt.map ub)]),.imm (.ptr [.int .i64 o.kd,slD o.bb 2 (o.bx.map enR),slD o.tb 1 (o.st.map ic),slD o.db 1 (o.dt.map ub)]),.junk,.junk,.junk,.ptr 2 0,.ptr 3 0,.junk,.junk,.junk,.junk,.junk,.junk,.junk,.imm (.fn 125 [] [.ptr [slD m.bb 2 (m.bx.map enR)]]),.junk,.junk,.junk]
def SmO (m o : Im) : List AO:=[.box [.imm (.bool false)],.box [.imm (.int .i64 0)],.box [.imm (.int .i64 o.kd),.imm (slD m.bb 2 (m.bx.map enR)),.imm (slD m.tb 1 (m.st.map ic)),.imm (slD m.db 1 (m.dt.map ub))],.box [.imm (.int .i64 o.kd),.imm (slD o.bb 2 (o.bx.map enR)),.imm (slD o.tb 1 (o.st.map ic)),.imm (slD o.db 1 (o.dt.map ub))]]
def SmSt (m o : Im) (_ : Unit) : Ext:=⟨[19,20],b41_1,b41_2,SmV m o,SmO m o,0,none⟩
def SmEnd (m o : Im) : Ext:=⟨[19,20],b41_1,b41_2,SmV m o,SmO m o,0,some .ret⟩
theorem okSameR (n : Nat) (m o : Im) (hk : m.kd = o.kd) (l : Bx) (i : Nat) (u v : Int) (h1 : callP (level E (n+2)) 84 [enIm m,enP (plc l i)] = some (.int .u64 u)) (h2 : callP (level E (n+2)) 84 [enIm o,enP (plc l i)] = some (.int .u64 v)) :
    (level E (n+3)).round (SmSt m o ()) [.int .i64 (i : Int),enP (plc l i)] = if u = v then some (SmSt m o (),true) else some (SmEnd m o,false):=by
  obtain ⟨x,y,z,hp⟩ : ∃ x y z,plc l i = [x,y,z]:=by
    match hh : plc l i,plc_len l i with
    | [x,y,z],_ => exact ⟨x,y,z,rfl⟩
  rw [hp] at h1 h2 ⊢
  simp only [enP,List.map_cons,List.map_nil,enIm,enB,hk] at h1 h2
  unfold SmSt SmEnd
  rw [round_go rfl]
  simp only [SmV,SmO,enP]
  by_cases q : u = v
  · simp only [go_sem,Nat.reduceAdd,Nat.reduceSub,Nat.reduceMul,Nat.reduceDiv,Nat.reduceMod,Nat.reduceLeDiff,Nat.reduceLT,Nat.reduceBEq,Int.reduceToNat,Int.reduceLT,Int.reduceLE,Int.reduceEq,h1,h2,q,ne_eq,not_true_eq_false]
  · simp only [go_sem,Nat.reduceAdd,Nat.reduceSub,Nat.reduceMul,Nat.reduceDiv,Nat.reduceMod,Nat.reduceLeDiff,Nat.reduceLT,Nat.reduceBEq,Int.reduceToNat,Int.reduceLT,Int.reduceLE,Int.reduceEq,h1,h2,q,ne_eq,not_false_eq_true]
theorem map_run {γ : Type} (a b : Nat → Int) (T : Unit → γ) (F : γ) : ∀ r : List Nat,runL (γ:=γ) (fun (_ : Unit) i => if a i = b i then .inl () else .inr F) T () r = if r.map a = r.map b then T () else F
  | [] => rfl
  | i :: r => by
    rw [runL_cons]
    by_cases q : a i = b i
    · simp only [q,if_true,map_run a b T F r,List.map_cons,List.cons.injEq,true_and]
    · simp only [q,if_false,List.map_cons,List.cons.injEq,false_and]
theorem okSame2 (n : Nat) (m o : Im) (hx : m.bx.length < 1000000) (hs : m.st.length < 1000000) (hd : m.dt.length < 1000000) (hv : Ok64 m.dt) (hx' : o.bx.length < 1000000) (hs' : o.st.length < 1000000) (hd' : o.dt.length < 1000000) (hv' : Ok64 o.dt) (M O : Nat) (G : Good m M) (H : Good o O) (h : ckSm m o = 0) (hk : m.kd = o.kd) (hl : m.bx.length = o.bx.length) :
    callP (level E (n+10)) 41 [enIm m,enIm o] = some (.tup [.bool (decide (m.bx = o.bx ∧ (List.range M).map (fun i => atI m (digits m.bx (i : Nat))) = (List.range O).map (fun i => atI o (digits o.bx (i : Nat))))),.int .i64 0]):=by
  have c1:=okCheckI n m hx hs hd hv
  have c2:=okCheckI n o hx' hs' hd' hv'
  have f1 : callP (level E (n+9)) 65 [.sl 1 [[.int .i64 (ckI m)],[.int .i64 (ckI o)]]] = some (.int .i64 (ckSm m o)):=okFirstL (n+8) _ [ckI m,ckI o] rfl (by simp)
  rw [h] at f1
  rw [p41]
  have hl' : (m.bx.length : Int) = o.bx.length:=by omega
  simp only [enIm,enB,hk] at c1 c2 ⊢
  simp only [go_sem,Nat.reduceAdd,Nat.reduceSub,Nat.reduceMul,Nat.reduceDiv,Nat.reduceMod,Nat.reduceLeDiff,Nat.reduceLT,Nat.reduceBEq,Int.reduceToNat,Int.reduceLT,Int.reduceLE,Int.reduceEq,c1,c2,f1,enB,hk,hl',ne_eq,not_true_eq_false]
  have hL:=okSameL (n+8) m o hl hx
  unfold lpAt' at hL
  simp only [smV,bqF,enB,hk] at hL
  rw [hL]
  by_cases q : m.bx = o.bx
  · have a1:=okAll (n+8) m.bb m.bx
    simp only [enB] at a1
    have eMO : M = O:=by have g1:=G.many; have g2:=H.many; rw [q] at g1; omega
    have hr:=okAll1 (n+7) m.bb m.bx G.len3 M G.many (by have:=G.small; omega) (SmSt m o) (fun _ _ => True) (fun _ i => if atI m (digits m.bx (i : Nat)) = atI o (digits o.bx (i : Nat)) then .inl () else .inr (SmEnd m o)) () trivial
      (fun _ i _ hi => ⟨by
        have hxx:=ex_pos G.okr (by have:=G.many; omega : many m.bx ≠ 0)
        have pt:=plc_take m.bx G.okr G.len3 hxx i
        have u1:=view_pts (n+5) m M G m.bx G.okr G.len3 rfl M G.many (fun _ h => h) i hi
        have v1:=view_pts (n+5) o O H m.bx G.okr G.len3 (by rw [q]) M G.many (fun _ h => by rw [q] at h; exact h) i hi
        rw [pt] at u1 v1
        rw [okSameR (n+5) m o hk m.bx i _ _ u1 v1,← q]
        by_cases z : atI m (digits m.bx (i : Nat)) = atI o (digits m.bx (i : Nat))
        · simp only [z,if_true]
        · simp only [z,if_false],fun _ _ => trivial⟩)
    rw [map_run (fun i => atI m (digits m.bx (i : Nat))) (fun i => atI o (digits o.bx (i : Nat)))] at hr
    rw [if_pos q,← eMO]
    simp only [go_sem,Nat.reduceAdd,Nat.reduceSub,Nat.reduceMul,Nat.reduceDiv,Nat.reduceMod,Nat.reduceLeDiff,Nat.reduceLT,Nat.reduceBEq,Int.reduceToNat,Int.reduceLT,Int.reduceLE,Int.reduceEq,a1]
    simp only [SmSt,SmV,SmO,enB] at hr
    rw [hr]
    by_cases z : (List.range M).map (fun i => atI m (digits m.bx (i : Nat))) = (List.range M).map (fun i => atI o (digits o.bx (i : Nat)))
    · rw [if_pos z]
      simp only [q] at z
      simp only [go_sem,Nat.reduceAdd,Nat.reduceSub,Nat.reduceMul,Nat.reduceDiv,Nat.reduceMod,Nat.reduceLeDiff,Nat.reduceLT,Nat.reduceBEq,Int.reduceToNat,Int.reduceLT,Int.reduceLE,Int.reduceEq,q,z,true_and,decide_true,SmSt,SmV,SmO]
    · rw [if_neg z]
      simp only [go_sem,Nat.reduceAdd,Nat.reduceSub,Nat.reduceMul,Nat.reduceDiv,Nat.reduceMod,Nat.reduceLeDiff,Nat.reduceLT,Nat.reduceBEq,Int.reduceToNat,Int.reduceLT,Int.reduceLE,Int.reduceEq,SmEnd,SmV,SmO,z,and_false]
  · rw [if_neg q]
    simp only [go_sem,Nat.reduceAdd,Nat.reduceSub,Nat.reduceMul,Nat.reduceDiv,Nat.reduceMod,Nat.reduceLeDiff,Nat.reduceLT,Nat.reduceBEq,Int.reduceToNat,Int.reduceLT,Int.reduceLE,Int.reduceEq,q,false_and]
end Go.Vm.P4Z

/- Chapter 04,functions: the reference's Slice and Transpose. -/
set_option maxRecDepth 100000
set_option maxHeartbeats 8000000
namespace Go.Vm.P4Z
open Go Go.Vm Go.Vm.P4
end Go.Vm.P4Z

/- Chapter 04,functions: the reference's Transpose. -/
set_option maxRecDepth 100000
set_option maxHeartbeats 8000000
namespace Go.Vm.P4Z
open Go Go.Vm Go.Vm.P4
end Go.Vm.P4Z

/- Chapter 04,plain law: what the parts of an image answer,with the reference's errors. -/
set_option maxRecDepth 100000
set_option maxHeartbeats 1000000
namespace Go.Vm.P4Z
open Go Go.Vm Go.Vm.P4
def Alike (m o : Im) : Prop:=o.kd = m.kd ∧ o.bx = m.bx ∧ o.st = m.st ∧ o.dt = m.dt ∧ m.bx.length < 1000000 ∧ m.st.length < 1000000 ∧ m.dt.length < 1000000
theorem alike_im0 : Alike im0 im0:=⟨rfl,rfl,rfl,rfl,by decide,by decide,by decide⟩
end Go.Vm.P4Z

/- Chapter 04: the law ImageEdges,given the examples. -/
set_option maxRecDepth 100000
set_option maxHeartbeats 4000000
namespace Go.Vm.P4Z
open Go Go.Vm Go.Vm.P4
theorem aEqV (k v : Int) : aEq (.agg [(0,.int),(1,.int)]) (.imm (.agg [.int .i64 k,.int .u64 v])) (.imm (.agg [.int .i64 k,.int .u64 v])) = some true:=by
  simp [aEq,eqL,eqE,intEq]
theorem shortI_len {m : Im} (h : shortI m = true) : m.bx.length ≤ 4 ∧ m.st.length ≤ 5 ∧ m.dt.length ≤ 200:=by
  simp [shortI] at h
  omega
theorem ckPts_own (m : Im) : ∀ (l : List Nat) (T : List Int),ckPts m.own T l = ckPts m T l
  | [],_ => rfl
  | i :: l,T => by
    unfold ckPts
    rw [ckPts_own m l]
    rfl
theorem ckI_own (m : Im) : ckI m.own = ckI m:=by
  unfold ckI ckIm
  rw [ckPts_own]
  rfl
end Go.Vm.P4Z

/- Chapter 04: the law ImageParts,given the examples (printed by gen4p.py). -/
set_option maxRecDepth 100000
set_option maxHeartbeats 8000000
namespace Go.Vm.P4Z
open Go Go.Vm Go.Vm.P4
theorem seq_step {lo : Lower} {cx : Cx} {a b : IR} {s s' : S} (h : aCode lo cx a s = some (.normal,s')) : aCode lo cx (.seq a b) s = aCode lo cx b s':=by rw [ac_seq,h]; rfl
theorem okAlike (n : Nat) {m o : Im} (h : Alike m o) : callP (level E (n+2)) 18 [enIm m,enIm o] = some (.bool true):=by
  obtain ⟨h1,h2,h3,h4,h5,h6,h7⟩:=h
  exact okSameImage n m o h1 h2 h3 h4 h5 h6 h7
end Go.Vm.P4Z

/- Chapter 04: the law ImageElements,given the examples (printed by gen4l.py). -/
set_option maxRecDepth 100000
set_option maxHeartbeats 8000000
namespace Go.Vm.P4Z
open Go Go.Vm Go.Vm.P4
def ckMk (m : Im) : Int:=if ckM1 m.kd m.bx = 0 then ckM2 m.kd m.bx m.dt else ckM1 m.kd m.bx
def wMake (m : Im) : Im:=if ckMk m = 0 then ⟨m.kd,true,m.bx,true,strides 1 m.bx,true,m.dt⟩ else im0
def wSet (m : Im) (p : List Int) (ko vo : Int) : Im:=if ckSet m p ko vo = 0 then { m.own with dt:=m.dt.set (elt m.bx p m.st 0).toNat vo } else im0
theorem aEqBl (a : Bool) : aEq .bool (.imm (.bool a)) (.imm (.bool a)) = some true:=by cases a <;> rfl
def sq2 : IR → IR | .seq _ b => b | x => x
theorem elemTail (n : Nat) (hA : callP (level E (n+60)) 8 [] = some (.bool true)) (m o mkI wrI : Im) (c : Bool) (p : List Int) (ko vo rk rv : Int) (sb : Bool) (hv : Ok64 m.dt) (hv' : Ok64 o.dt) (lx : m.bx.length < 1000000) (ls : m.st.length < 1000000) (ld : m.dt.length < 1000000) (lx' : o.bx.length < 1000000) (ls' : o.st.length < 1000000) (ld' : o.dt.length < 1000000) (lp : p.length < 1000000) (h0 : 0 ≤ vo) (h1 : vo < 18446744073709551616)
    (amk : Alike mkI (wMake m)) (awr : Alike wrI (wSet m p ko vo)) (erk : rk = if ckAtI m p = 0 then m.kd else 0) (erv : rv = if ckAtI m p = 0 then atI m p else 0)
    (chk : callP (level E (n+60)) 50 [enIm m.own] = some (.int .i64 (ckI m)))
    (wmk : ckMk m = 0 → callP (level E (n+60)) 45 [.int .i64 m.kd,enB m.bb m.bx,slD m.db 1 (m.dt.map ub)] = some (enIm (wMake m))) (rh : fnz [ckI m,if p.length = m.bx.length then 0 else 13] = 0 → callP (level E (n+60)) 47 [enB m.bb m.bx,slD c 1 (p.map ic)] = some (.bool (hasB m.bx p)))
    (wbt : ckAtI m p = 0 → callP (level E (n+60)) 48 [enIm m,slD c 1 (p.map ic)] = some (.int .u64 (atI m p))) (wst : ckSet m p ko vo = 0 → callP (level E (n+60)) 49 [enIm m,slD c 1 (p.map ic),.int .u64 vo] = some (enIm (wSet m p ko vo)))
    (rs : ckSm m o = 0 → callP (level E (n+60)) 51 [enIm m,enIm o] = some (.bool sb)) (rs0 : ckSm m o ≠ 0 → sb = false) (v0 v1 v2 v3 v23 v24 : AV) :
    pdC (fin [.v 3] (aCode (level E (n+60)) ⟨0,false⟩ (sq2 (sq2 (sq2 (sq2 (sq2 (sq2 (sq2 (sq2 c6)))))))) (⟨[v0,v1,v2,v3,.ptr 0 0,.ptr 1 0,.ptr 2 0,.ptr 3 0,.imm (.int .i64 (ckMk m)),.ptr 4 0,.imm (.int .i64 (ckAtI m p)),.ptr 5 0,.imm (.int .i64 (ckSet m p ko vo)),.imm (.bool sb),.imm (.int .i64 (ckSm m o)),.imm (.int .i64 (ckMk m)),.junk,.junk,.junk,.junk,.junk,.junk,.junk,v23,v24,.junk,.junk,.junk,.junk,.junk],[boxI m,boxI o,.box [.imm (slD c 1 (p.map ic)),.imm (.int .i64 ko),.imm (.int .u64 vo)],boxI mkI,.box [.imm (.int .i64 rk),.imm (.int .u64 rv)],boxI wrI],none⟩))) = some (.bool true):=by
  have o1:=okOwnImage (n+58) m lx ls ld
  have ck:=okRCheck (n+55) m lx ls ld hv
  have ck2:=okRCheck (n+55) o lx' ls' ld' hv'
  have cp:=okRCheckPoint (n+58) m.bb c m.bx p
  have f2 : callP (level E (n+60)) 29 [.sl 1 [[.int .i64 (ckI m)],[.int .i64 (if p.length = m.bx.length then 0 else 13)]]] = some (.int .i64 (fnz [ckI m,if p.length = m.bx.length then 0 else 13])):=okQFirstL (n+59) _ [ckI m,if p.length = m.bx.length then 0 else 13] rfl (by simp)
  have qv:=okQCheckValue (n+57) ko vo h0 h1
  have w12 : callP (level E (n+60)) 32 [.bool (decide (¬ ko = m.kd)),.int .i64 12] = some (.int .i64 (if ko = m.kd then 0 else 12)):=by
    rw [okQWhen (n+59)]
    by_cases h : ko = m.kd <;> simp [h]
  have f3 : callP (level E (n+60)) 29 [.sl 1 [[.int .i64 (ckAtI m p)],[.int .i64 (ckVal ko vo)],[.int .i64 (if ko = m.kd then 0 else 12)]]] = some (.int .i64 (ckSet m p ko vo)):=okQFirstL (n+59) _ [ckAtI m p,ckVal ko vo,if ko = m.kd then 0 else 12] rfl (by simp)
  have f4 : callP (level E (n+60)) 29 [.sl 1 [[.int .i64 (ckI m)],[.int .i64 (ckI o)]]] = some (.int .i64 (ckSm m o)):=okQFirstL (n+59) _ [ckI m,ckI o] rfl (by simp)
  have w14:=okQWhen (n+59) true 14
  have w140:=okQWhen (n+59) false 14
  have am1:=okAlike (n+58) amk
  have aw1:=okAlike (n+58) awr
  generalize (if ko = m.kd then 0 else 12 : Int) = x12 at w12 f3
  simp only [enIm,enB,Im.own] at o1 ck ck2 cp am1 aw1 chk
  simp only [enB] at rh
  simp only [Bool.false_eq_true,if_true,if_false] at w14 w140
  unfold sq2 c6
  dsimp only
  rw [seq_step (s':=⟨[v0,v1,v2,v3,.ptr 0 0,.ptr 1 0,.ptr 2 0,.ptr 3 0,.imm (.int .i64 (ckMk m)),.ptr 4 0,.imm (.int .i64 (ckAtI m p)),.ptr 5 0,.imm (.int .i64 (ckSet m p ko vo)),.imm (.bool sb),.imm (.int .i64 (ckSm m o)),.imm (.int .i64 (ckMk m)),.junk,.ptr 6 0,.ptr 7 0,.junk,.junk,.junk,.junk,v23,v24,.junk,.junk,.junk,.junk,.junk],[boxI m,boxI o,.box [.imm (slD c 1 (p.map ic)),.imm (.int .i64 ko),.imm (.int .u64 vo)],boxI mkI,.box [.imm (.int .i64 rk),.imm (.int .u64 rv)],boxI wrI,boxZ,boxZ],none⟩)]
  rotate_left
  · simp only [go_sem,Nat.reduceAdd,Nat.reduceSub,Nat.reduceMul,Nat.reduceDiv,Nat.reduceMod,Nat.reduceLeDiff,Nat.reduceLT,Nat.reduceBEq,Int.reduceToNat,Int.reduceLT,Int.reduceLE,Int.reduceEq,enIm,enB]
  rw [seq_step (s':=⟨[v0,v1,v2,v3,.ptr 0 0,.ptr 1 0,.ptr 2 0,.ptr 3 0,.imm (.int .i64 (ckMk m)),.ptr 4 0,.imm (.int .i64 (ckAtI m p)),.ptr 5 0,.imm (.int .i64 (ckSet m p ko vo)),.imm (.bool sb),.imm (.int .i64 (ckSm m o)),.imm (.int .i64 (ckMk m)),.junk,.ptr 6 0,.ptr 7 0,.junk,.junk,.junk,.junk,v23,v24,.junk,.imm (.bool (decide (ckMk m = 0))),.junk,.junk,.junk],[boxI m,boxI o,.box [.imm (slD c 1 (p.map ic)),.imm (.int .i64 ko),.imm (.int .u64 vo)],boxI mkI,.box [.imm (.int .i64 rk),.imm (.int .u64 rv)],boxI wrI,boxI (wMake m),boxZ],none⟩)]
  rotate_left
  · by_cases h : ckMk m = 0
    · have f:=wmk h
      simp only [enIm,enB] at f
      simp only [go_sem,Nat.reduceAdd,Nat.reduceSub,Nat.reduceMul,Nat.reduceDiv,Nat.reduceMod,Nat.reduceLeDiff,Nat.reduceLT,Nat.reduceBEq,Int.reduceToNat,Int.reduceLT,Int.reduceLE,Int.reduceEq,enIm,enB,h,f]
    · have e0 : wMake m = im0:=by unfold wMake; rw [if_neg h]
      simp only [go_sem,Nat.reduceAdd,Nat.reduceSub,Nat.reduceMul,Nat.reduceDiv,Nat.reduceMod,Nat.reduceLeDiff,Nat.reduceLT,Nat.reduceBEq,Int.reduceToNat,Int.reduceLT,Int.reduceLE,Int.reduceEq,enIm,enB,h,e0]
      rfl
  rw [seq_step (s':=⟨[v0,v1,v2,v3,.ptr 0 0,.ptr 1 0,.ptr 2 0,.ptr 3 0,.imm (.int .i64 (ckMk m)),.ptr 4 0,.imm (.int .i64 (ckAtI m p)),.ptr 5 0,.imm (.int .i64 (ckSet m p ko vo)),.imm (.bool sb),.imm (.int .i64 (ckSm m o)),.imm (.int .i64 (ckMk m)),.junk,.ptr 6 0,.ptr 7 0,.imm (.int .i64 (fnz [ckI m,if p.length = m.bx.length then 0 else 13])),.junk,.junk,.junk,v23,v24,.junk,.imm (.bool (decide (ckMk m = 0))),.junk,.junk,.junk],[boxI m,boxI o,.box [.imm (slD c 1 (p.map ic)),.imm (.int .i64 ko),.imm (.int .u64 vo)],boxI mkI,.box [.imm (.int .i64 rk),.imm (.int .u64 rv)],boxI wrI,boxI (wMake m),boxZ],none⟩)]
  rotate_left
  · simp only [go_sem,Nat.reduceAdd,Nat.reduceSub,Nat.reduceMul,Nat.reduceDiv,Nat.reduceMod,Nat.reduceLeDiff,Nat.reduceLT,Nat.reduceBEq,Int.reduceToNat,Int.reduceLT,Int.reduceLE,Int.reduceEq,enIm,enB,ck,cp,f2]
  rw [seq_step (s':=⟨[v0,v1,v2,v3,.ptr 0 0,.ptr 1 0,.ptr 2 0,.ptr 3 0,.imm (.int .i64 (ckMk m)),.ptr 4 0,.imm (.int .i64 (ckAtI m p)),.ptr 5 0,.imm (.int .i64 (ckSet m p ko vo)),.imm (.bool sb),.imm (.int .i64 (ckSm m o)),.imm (.int .i64 (ckMk m)),.junk,.ptr 6 0,.ptr 7 0,.imm (.int .i64 (ckAtI m p)),.junk,.junk,.junk,v23,v24,.junk,.imm (.bool (decide (ckMk m = 0))),.imm (.bool (decide (fnz [ckI m,if p.length = m.bx.length then 0 else 13] = 0))),.junk,.junk],[boxI m,boxI o,.box [.imm (slD c 1 (p.map ic)),.imm (.int .i64 ko),.imm (.int .u64 vo)],boxI mkI,.box [.imm (.int .i64 rk),.imm (.int .u64 rv)],boxI wrI,boxI (wMake m),boxZ],none⟩)]
  rotate_left
  · unfold ckAtI ckAt
    by_cases h : fnz [ckI m,if p.length = m.bx.length then 0 else 13] = 0
    · have hh:=rh h
      have h' : fnz [ckIm (ckB1 m.kd) m,if p.length = m.bx.length then 0 else 13] = 0:=h
      rw [if_pos h']
      cases hb : hasB m.bx p
      · rw [hb] at hh
        simp only [go_sem,Nat.reduceAdd,Nat.reduceSub,Nat.reduceMul,Nat.reduceDiv,Nat.reduceMod,Nat.reduceLeDiff,Nat.reduceLT,Nat.reduceBEq,Int.reduceToNat,Int.reduceLT,Int.reduceLE,Int.reduceEq,enIm,enB,h,hh,w14,Bool.false_eq_true]
      · rw [hb] at hh
        simp only [go_sem,Nat.reduceAdd,Nat.reduceSub,Nat.reduceMul,Nat.reduceDiv,Nat.reduceMod,Nat.reduceLeDiff,Nat.reduceLT,Nat.reduceBEq,Int.reduceToNat,Int.reduceLT,Int.reduceLE,Int.reduceEq,enIm,enB,h,hh,w140]
    · have h' : ¬ fnz [ckIm (ckB1 m.kd) m,if p.length = m.bx.length then 0 else 13] = 0:=h
      rw [if_neg h']
      simp only [go_sem,Nat.reduceAdd,Nat.reduceSub,Nat.reduceMul,Nat.reduceDiv,Nat.reduceMod,Nat.reduceLeDiff,Nat.reduceLT,Nat.reduceBEq,Int.reduceToNat,Int.reduceLT,Int.reduceLE,Int.reduceEq,enIm,enB,h]
      rfl
  rw [seq_step (s':=⟨[v0,v1,v2,v3,.ptr 0 0,.ptr 1 0,.ptr 2 0,.ptr 3 0,.imm (.int .i64 (ckMk m)),.ptr 4 0,.imm (.int .i64 (ckAtI m p)),.ptr 5 0,.imm (.int .i64 (ckSet m p ko vo)),.imm (.bool sb),.imm (.int .i64 (ckSm m o)),.imm (.int .i64 (ckMk m)),.junk,.ptr 6 0,.ptr 7 0,.imm (.int .i64 (ckAtI m p)),.imm (.int .i64 (ckSet m p ko vo)),.junk,.junk,v23,v24,.junk,.imm (.bool (decide (ckMk m = 0))),.imm (.bool (decide (fnz [ckI m,if p.length = m.bx.length then 0 else 13] = 0))),.junk,.junk],[boxI m,boxI o,.box [.imm (slD c 1 (p.map ic)),.imm (.int .i64 ko),.imm (.int .u64 vo)],boxI mkI,.box [.imm (.int .i64 rk),.imm (.int .u64 rv)],boxI wrI,boxI (wMake m),boxZ],none⟩)]
  rotate_left
  · simp only [go_sem,Nat.reduceAdd,Nat.reduceSub,Nat.reduceMul,Nat.reduceDiv,Nat.reduceMod,Nat.reduceLeDiff,Nat.reduceLT,Nat.reduceBEq,Int.reduceToNat,Int.reduceLT,Int.reduceLE,Int.reduceEq,enIm,enB,qv,w12,f3]
  rw [seq_step (s':=⟨[v0,v1,v2,v3,.ptr 0 0,.ptr 1 0,.ptr 2 0,.ptr 3 0,.imm (.int .i64 (ckMk m)),.ptr 4 0,.imm (.int .i64 (ckAtI m p)),.ptr 5 0,.imm (.int .i64 (ckSet m p ko vo)),.imm (.bool sb),.imm (.int .i64 (ckSm m o)),.imm (.int .i64 (ckMk m)),.junk,.ptr 6 0,.ptr 7 0,.imm (.int .i64 (ckAtI m p)),.imm (.int .i64 (ckSet m p ko vo)),.ptr 8 0,.junk,v23,v24,.junk,.imm (.bool (decide (ckMk m = 0))),.imm (.bool (decide (fnz [ckI m,if p.length = m.bx.length then 0 else 13] = 0))),.junk,.junk],[boxI m,boxI o,.box [.imm (slD c 1 (p.map ic)),.imm (.int .i64 ko),.imm (.int .u64 vo)],boxI mkI,.box [.imm (.int .i64 rk),.imm (.int .u64 rv)],boxI wrI,boxI (wMake m),boxZ,.box [.imm (.int .i64 0),.imm (.int .u64 0)]],none⟩)]
  rotate_left
  · simp only [go_sem,Nat.reduceAdd,Nat.reduceSub,Nat.reduceMul,Nat.reduceDiv,Nat.reduceMod,Nat.reduceLeDiff,Nat.reduceLT,Nat.reduceBEq,Int.reduceToNat,Int.reduceLT,Int.reduceLE,Int.reduceEq,enIm,enB]
  rw [seq_step (s':=⟨[v0,v1,v2,v3,.ptr 0 0,.ptr 1 0,.ptr 2 0,.ptr 3 0,.imm (.int .i64 (ckMk m)),.ptr 4 0,.imm (.int .i64 (ckAtI m p)),.ptr 5 0,.imm (.int .i64 (ckSet m p ko vo)),.imm (.bool sb),.imm (.int .i64 (ckSm m o)),.imm (.int .i64 (ckMk m)),.junk,.ptr 6 0,.ptr 7 0,.imm (.int .i64 (ckAtI m p)),.imm (.int .i64 (ckSet m p ko vo)),.ptr 8 0,.junk,v23,v24,.junk,.imm (.bool (decide (ckMk m = 0))),.imm (.bool (decide (fnz [ckI m,if p.length = m.bx.length then 0 else 13] = 0))),.imm (.bool (decide (ckAtI m p = 0))),.junk],[boxI m,boxI o,.box [.imm (slD c 1 (p.map ic)),.imm (.int .i64 ko),.imm (.int .u64 vo)],boxI mkI,.box [.imm (.int .i64 rk),.imm (.int .u64 rv)],boxI wrI,boxI (wMake m),boxZ,.box [.imm (.int .i64 rk),.imm (.int .u64 rv)]],none⟩)]
  rotate_left
  · by_cases h : ckAtI m p = 0
    · have f:=wbt h
      rw [if_pos h] at erk erv
      simp only [enIm,enB] at f
      simp only [go_sem,Nat.reduceAdd,Nat.reduceSub,Nat.reduceMul,Nat.reduceDiv,Nat.reduceMod,Nat.reduceLeDiff,Nat.reduceLT,Nat.reduceBEq,Int.reduceToNat,Int.reduceLT,Int.reduceLE,Int.reduceEq,enIm,enB,h,f,erk,erv]
    · rw [if_neg h] at erk erv
      simp only [go_sem,Nat.reduceAdd,Nat.reduceSub,Nat.reduceMul,Nat.reduceDiv,Nat.reduceMod,Nat.reduceLeDiff,Nat.reduceLT,Nat.reduceBEq,Int.reduceToNat,Int.reduceLT,Int.reduceLE,Int.reduceEq,enIm,enB,h,erk,erv]
  rw [seq_step (s':=⟨[v0,v1,v2,v3,.ptr 0 0,.ptr 1 0,.ptr 2 0,.ptr 3 0,.imm (.int .i64 (ckMk m)),.ptr 4 0,.imm (.int .i64 (ckAtI m p)),.ptr 5 0,.imm (.int .i64 (ckSet m p ko vo)),.imm (.bool sb),.imm (.int .i64 (ckSm m o)),.imm (.int .i64 (ckMk m)),.junk,.ptr 6 0,.ptr 7 0,.imm (.int .i64 (ckAtI m p)),.imm (.int .i64 (ckSet m p ko vo)),.ptr 8 0,.junk,v23,v24,.junk,.imm (.bool (decide (ckMk m = 0))),.imm (.bool (decide (fnz [ckI m,if p.length = m.bx.length then 0 else 13] = 0))),.imm (.bool (decide (ckAtI m p = 0))),.imm (.bool (decide (ckSet m p ko vo = 0)))],[boxI m,boxI o,.box [.imm (slD c 1 (p.map ic)),.imm (.int .i64 ko),.imm (.int .u64 vo)],boxI mkI,.box [.imm (.int .i64 rk),.imm (.int .u64 rv)],boxI wrI,boxI (wMake m),boxI (wSet m p ko vo),.box [.imm (.int .i64 rk),.imm (.int .u64 rv)]],none⟩)]
  rotate_left
  · by_cases h : ckSet m p ko vo = 0
    · have f:=wst h
      simp only [enIm,enB] at f
      simp only [go_sem,Nat.reduceAdd,Nat.reduceSub,Nat.reduceMul,Nat.reduceDiv,Nat.reduceMod,Nat.reduceLeDiff,Nat.reduceLT,Nat.reduceBEq,Int.reduceToNat,Int.reduceLT,Int.reduceLE,Int.reduceEq,enIm,enB,h,f]
    · have e0 : wSet m p ko vo = im0:=by unfold wSet; rw [if_neg h]
      simp only [go_sem,Nat.reduceAdd,Nat.reduceSub,Nat.reduceMul,Nat.reduceDiv,Nat.reduceMod,Nat.reduceLeDiff,Nat.reduceLT,Nat.reduceBEq,Int.reduceToNat,Int.reduceLT,Int.reduceLE,Int.reduceEq,enIm,enB,h,e0]
      rfl
  rw [seq_step (s':=⟨[v0,v1,v2,v3,.ptr 0 0,.ptr 1 0,.ptr 2 0,.ptr 3 0,.imm (.int .i64 (ckMk m)),.ptr 4 0,.imm (.int .i64 (ckAtI m p)),.ptr 5 0,.imm (.int .i64 (ckSet m p ko vo)),.imm (.bool sb),.imm (.int .i64 (ckSm m o)),.imm (.int .i64 (ckMk m)),.junk,.ptr 6 0,.ptr 7 0,.imm (.int .i64 (ckAtI m p)),.imm (.int .i64 (ckSet m p ko vo)),.ptr 8 0,.imm (.int .i64 (ckSm m o)),v23,v24,.junk,.imm (.bool (decide (ckMk m = 0))),.imm (.bool (decide (fnz [ckI m,if p.length = m.bx.length then 0 else 13] = 0))),.imm (.bool (decide (ckAtI m p = 0))),.imm (.bool (decide (ckSet m p ko vo = 0)))],[boxI m,boxI o,.box [.imm (slD c 1 (p.map ic)),.imm (.int .i64 ko),.imm (.int .u64 vo)],boxI mkI,.box [.imm (.int .i64 rk),.imm (.int .u64 rv)],boxI wrI,boxI (wMake m),boxI (wSet m p ko vo),.box [.imm (.int .i64 rk),.imm (.int .u64 rv)]],none⟩)]
  rotate_left
  · simp only [go_sem,Nat.reduceAdd,Nat.reduceSub,Nat.reduceMul,Nat.reduceDiv,Nat.reduceMod,Nat.reduceLeDiff,Nat.reduceLT,Nat.reduceBEq,Int.reduceToNat,Int.reduceLT,Int.reduceLE,Int.reduceEq,enIm,enB,ck,ck2,f4]
  by_cases z : ckSm m o = 0
  · have r1:=rs z
    simp only [enIm,enB] at r1
    cases sb
    · simp only [go_sem,Nat.reduceAdd,Nat.reduceSub,Nat.reduceMul,Nat.reduceDiv,Nat.reduceMod,Nat.reduceLeDiff,Nat.reduceLT,Nat.reduceBEq,Int.reduceToNat,Int.reduceLT,Int.reduceLE,Int.reduceEq,enIm,enB,Im.own,o1,ck,chk,am1,aw1,aEqV,aEqBl,z,r1,hA]
    · simp only [go_sem,Nat.reduceAdd,Nat.reduceSub,Nat.reduceMul,Nat.reduceDiv,Nat.reduceMod,Nat.reduceLeDiff,Nat.reduceLT,Nat.reduceBEq,Int.reduceToNat,Int.reduceLT,Int.reduceLE,Int.reduceEq,enIm,enB,Im.own,o1,ck,chk,am1,aw1,aEqV,aEqBl,z,r1,hA]
  · have r1:=rs0 z
    subst r1
    simp only [go_sem,Nat.reduceAdd,Nat.reduceSub,Nat.reduceMul,Nat.reduceDiv,Nat.reduceMod,Nat.reduceLeDiff,Nat.reduceLT,Nat.reduceBEq,Int.reduceToNat,Int.reduceLT,Int.reduceLE,Int.reduceEq,enIm,enB,Im.own,o1,ck,chk,am1,aw1,aEqV,aEqBl,z,hA]
theorem ml_run {γ : Type} (k : Int → Int) (E : Int → γ) : ∀ (r : List Int) (a : Int),runL (γ:=γ) (fun (a : Int) x => if a = 0 then .inl (k x) else .inr (E a)) E a r = E (if a = 0 then fnz (r.map k) else a)
  | [],a => by rw [runL_nil]; by_cases h : a = 0 <;> simp [h,fnz]
  | x :: r,a => by
    rw [runL_cons]
    by_cases h : a = 0
    · simp only [h,if_true,ml_run k E r]
      rw [List.map_cons,fnz_cons]
    · simp only [h,if_false]
theorem elemHead (n : Nat) (hA : callP (level E (n+60)) 8 [] = some (.bool true)) (m o mkI wrI : Im) (c : Bool) (p : List Int) (ko vo rk rv : Int) (sb : Bool) (hv : Ok64 m.dt) (hv' : Ok64 o.dt) (lx : m.bx.length < 1000000) (ls : m.st.length < 1000000) (ld : m.dt.length < 1000000) (lx' : o.bx.length < 1000000) (ls' : o.st.length < 1000000) (ld' : o.dt.length < 1000000) (lp : p.length < 1000000) (h0 : 0 ≤ vo) (h1 : vo < 18446744073709551616)
    (amk : Alike mkI (wMake m)) (awr : Alike wrI (wSet m p ko vo)) (erk : rk = if ckAtI m p = 0 then m.kd else 0) (erv : rv = if ckAtI m p = 0 then atI m p else 0)
    (chk : callP (level E (n+60)) 50 [enIm m.own] = some (.int .i64 (ckI m)))
    (wmk : ckMk m = 0 → callP (level E (n+60)) 45 [.int .i64 m.kd,enB m.bb m.bx,slD m.db 1 (m.dt.map ub)] = some (enIm (wMake m))) (rh : fnz [ckI m,if p.length = m.bx.length then 0 else 13] = 0 → callP (level E (n+60)) 47 [enB m.bb m.bx,slD c 1 (p.map ic)] = some (.bool (hasB m.bx p)))
    (wbt : ckAtI m p = 0 → callP (level E (n+60)) 48 [enIm m,slD c 1 (p.map ic)] = some (.int .u64 (atI m p))) (wst : ckSet m p ko vo = 0 → callP (level E (n+60)) 49 [enIm m,slD c 1 (p.map ic),.int .u64 vo] = some (enIm (wSet m p ko vo)))
    (rs : ckSm m o = 0 → callP (level E (n+60)) 51 [enIm m,enIm o] = some (.bool sb)) (rs0 : ckSm m o ≠ 0 → sb = false)
    (s1 : callP (level E (n+60)) 7 [enIm m] = some (.bool true)) (s2 : callP (level E (n+60)) 7 [enIm o] = some (.bool true)) (hp5 : ¬ (p.length : Int) > 5)
    (q1 : callP (level E (n+60)) 20 [slD c 1 (p.map ic)] = some (slD false 1 (p.map ic)))
    (mk : callP (level E (n+60)) 37 [.int .i64 m.kd,enB true m.bx,slD true 1 (m.dt.map ub)] = some (.tup [enIm mkI,.int .i64 (ckMk m)]))
    (rd : callP (level E (n+60)) 39 [enIm m.own,slD false 1 (p.map ic)] = some (.tup [.agg [.int .i64 rk,.int .u64 rv],.int .i64 (ckAtI m p)]))
    (wr : callP (level E (n+60)) 40 [enIm m.own,slD false 1 (p.map ic),.agg [.int .i64 ko,.int .u64 vo]] = some (.tup [enIm wrI,.int .i64 (ckSet m p ko vo)]))
    (sm : callP (level E (n+60)) 41 [enIm m.own,enIm o.own] = some (.tup [.bool sb,.int .i64 (ckSm m o)])) :
    callP (level E (n+61)) 6 [enIm m,enIm o,.agg [slD c 1 (p.map ic),.int .i64 ko,.int .u64 vo]] = some (.bool true):=by
  have o1:=okOwnImage (n+58) m lx ls ld
  have o2:=okOwnImage (n+58) o lx' ls' ld'
  have ob:=okOwnBox (n+59) m.bb m.bx lx
  have od:=okOwnBits (n+59) m.db m.dt ld
  have kk:=okQCheckKind (n+58) m.kd
  have rb:=okRCheckBox (n+58) m.bb m.bx lx
  have f1 : callP (level E (n+60)) 29 [.sl 1 [[.int .i64 (ckKind m.kd)],[.int .i64 (ckBox m.bx)]]] = some (.int .i64 (ckM1 m.kd m.bx)):=okQFirstL (n+59) _ [ckKind m.kd,ckBox m.bx] rfl (by simp)
  have tail:=fun v0 v1 v2 v3 v23 v24 => elemTail n hA m o mkI wrI c p ko vo rk rv sb hv hv' lx ls ld lx' ls' ld' lp h0 h1 amk awr erk erv chk wmk rh wbt wst rs rs0 v0 v1 v2 v3 v23 v24
  have pr:=okRProduct (n+59) m.bb m.bx (by omega)
  have w2 : callP (level E (n+60)) 32 [.bool (decide (¬ (m.dt.length : Int) = many m.bx)),.int .i64 2] = some (.int .i64 (if (m.dt.length : Int) = many m.bx then 0 else 2)):=by
    rw [okQWhen (n+59)]
    by_cases h : (m.dt.length : Int) = many m.bx <;> simp [h]
  have w1:=okQWhen (n+59) true 1
  have w0:=okQWhen (n+59) false 1
  simp only [enIm,enB,Im.own] at s1 s2 mk rd wr sm o1 o2 ob od rb pr
  simp only [Bool.false_eq_true,if_true,if_false] at w1 w0
  rw [p6]
  unfold c6
  rw [seq_step (s':=⟨[.imm (enIm m),.imm (enIm o),.imm (.agg [slD c 1 (p.map ic),.int .i64 ko,.int .u64 vo]),.imm (.bool false),.ptr 0 0,.ptr 1 0,.ptr 2 0,.junk,.junk,.junk,.junk,.junk,.junk,.junk,.junk,.junk,.junk,.junk,.junk,.junk,.junk,.junk,.junk,.junk,.junk,.junk,.junk,.junk,.junk,.junk],[boxI m,boxI o,.box [.imm (slD c 1 (p.map ic)),.imm (.int .i64 ko),.imm (.int .u64 vo)]],none⟩)]
  rotate_left
  · simp only [go_sem,Nat.reduceAdd,Nat.reduceSub,Nat.reduceMul,Nat.reduceDiv,Nat.reduceMod,Nat.reduceLeDiff,Nat.reduceLT,Nat.reduceBEq,Int.reduceToNat,Int.reduceLT,Int.reduceLE,Int.reduceEq,enIm,enB]
  rw [seq_step (s':=⟨[.imm (enIm m),.imm (enIm o),.imm (.agg [slD c 1 (p.map ic),.int .i64 ko,.int .u64 vo]),.imm (.bool false),.ptr 0 0,.ptr 1 0,.ptr 2 0,.junk,.junk,.junk,.junk,.junk,.junk,.junk,.junk,.junk,.junk,.junk,.junk,.junk,.junk,.junk,.junk,.imm (.bool false),.junk,.junk,.junk,.junk,.junk,.junk],[boxI m,boxI o,.box [.imm (slD c 1 (p.map ic)),.imm (.int .i64 ko),.imm (.int .u64 vo)]],none⟩)]
  rotate_left
  · simp only [go_sem,Nat.reduceAdd,Nat.reduceSub,Nat.reduceMul,Nat.reduceDiv,Nat.reduceMod,Nat.reduceLeDiff,Nat.reduceLT,Nat.reduceBEq,Int.reduceToNat,Int.reduceLT,Int.reduceLE,Int.reduceEq,enIm,enB,s1,s2,hp5]
  rw [seq_step (s':=⟨[.imm (enIm m),.imm (enIm o),.imm (.agg [slD c 1 (p.map ic),.int .i64 ko,.int .u64 vo]),.imm (.bool false),.ptr 0 0,.ptr 1 0,.ptr 2 0,.ptr 3 0,.imm (.int .i64 (ckMk m)),.junk,.junk,.junk,.junk,.junk,.junk,.junk,.junk,.junk,.junk,.junk,.junk,.junk,.junk,.imm (.bool false),.junk,.junk,.junk,.junk,.junk,.junk],[boxI m,boxI o,.box [.imm (slD c 1 (p.map ic)),.imm (.int .i64 ko),.imm (.int .u64 vo)],boxI mkI],none⟩)]
  rotate_left
  · simp only [go_sem,Nat.reduceAdd,Nat.reduceSub,Nat.reduceMul,Nat.reduceDiv,Nat.reduceMod,Nat.reduceLeDiff,Nat.reduceLT,Nat.reduceBEq,Int.reduceToNat,Int.reduceLT,Int.reduceLE,Int.reduceEq,enIm,enB,Im.own,ob,od,mk]
  rw [seq_step (s':=⟨[.imm (enIm m),.imm (enIm o),.imm (.agg [slD c 1 (p.map ic),.int .i64 ko,.int .u64 vo]),.imm (.bool false),.ptr 0 0,.ptr 1 0,.ptr 2 0,.ptr 3 0,.imm (.int .i64 (ckMk m)),.ptr 4 0,.imm (.int .i64 (ckAtI m p)),.junk,.junk,.junk,.junk,.junk,.junk,.junk,.junk,.junk,.junk,.junk,.junk,.imm (.bool false),.junk,.junk,.junk,.junk,.junk,.junk],[boxI m,boxI o,.box [.imm (slD c 1 (p.map ic)),.imm (.int .i64 ko),.imm (.int .u64 vo)],boxI mkI,.box [.imm (.int .i64 rk),.imm (.int .u64 rv)]],none⟩)]
  rotate_left
  · simp only [go_sem,Nat.reduceAdd,Nat.reduceSub,Nat.reduceMul,Nat.reduceDiv,Nat.reduceMod,Nat.reduceLeDiff,Nat.reduceLT,Nat.reduceBEq,Int.reduceToNat,Int.reduceLT,Int.reduceLE,Int.reduceEq,enIm,enB,Im.own,o1,q1,rd]
  rw [seq_step (s':=⟨[.imm (enIm m),.imm (enIm o),.imm (.agg [slD c 1 (p.map ic),.int .i64 ko,.int .u64 vo]),.imm (.bool false),.ptr 0 0,.ptr 1 0,.ptr 2 0,.ptr 3 0,.imm (.int .i64 (ckMk m)),.ptr 4 0,.imm (.int .i64 (ckAtI m p)),.ptr 5 0,.imm (.int .i64 (ckSet m p ko vo)),.junk,.junk,.junk,.junk,.junk,.junk,.junk,.junk,.junk,.junk,.imm (.bool false),.junk,.junk,.junk,.junk,.junk,.junk],[boxI m,boxI o,.box [.imm (slD c 1 (p.map ic)),.imm (.int .i64 ko),.imm (.int .u64 vo)],boxI mkI,.box [.imm (.int .i64 rk),.imm (.int .u64 rv)],boxI wrI],none⟩)]
  rotate_left
  · simp only [go_sem,Nat.reduceAdd,Nat.reduceSub,Nat.reduceMul,Nat.reduceDiv,Nat.reduceMod,Nat.reduceLeDiff,Nat.reduceLT,Nat.reduceBEq,Int.reduceToNat,Int.reduceLT,Int.reduceLE,Int.reduceEq,enIm,enB,Im.own,o1,q1,wr]
  rw [seq_step (s':=⟨[.imm (enIm m),.imm (enIm o),.imm (.agg [slD c 1 (p.map ic),.int .i64 ko,.int .u64 vo]),.imm (.bool false),.ptr 0 0,.ptr 1 0,.ptr 2 0,.ptr 3 0,.imm (.int .i64 (ckMk m)),.ptr 4 0,.imm (.int .i64 (ckAtI m p)),.ptr 5 0,.imm (.int .i64 (ckSet m p ko vo)),.imm (.bool sb),.imm (.int .i64 (ckSm m o)),.junk,.junk,.junk,.junk,.junk,.junk,.junk,.junk,.imm (.bool false),.junk,.junk,.junk,.junk,.junk,.junk],[boxI m,boxI o,.box [.imm (slD c 1 (p.map ic)),.imm (.int .i64 ko),.imm (.int .u64 vo)],boxI mkI,.box [.imm (.int .i64 rk),.imm (.int .u64 rv)],boxI wrI],none⟩)]
  rotate_left
  · simp only [go_sem,Nat.reduceAdd,Nat.reduceSub,Nat.reduceMul,Nat.reduceDiv,Nat.reduceMod,Nat.reduceLeDiff,Nat.reduceLT,Nat.reduceBEq,Int.reduceToNat,Int.reduceLT,Int.reduceLE,Int.reduceEq,enIm,enB,Im.own,o1,o2,sm]
  rw [seq_step (s':=⟨[.imm (enIm m),.imm (enIm o),.imm (.agg [slD c 1 (p.map ic),.int .i64 ko,.int .u64 vo]),.imm (.bool false),.ptr 0 0,.ptr 1 0,.ptr 2 0,.ptr 3 0,.imm (.int .i64 (ckMk m)),.ptr 4 0,.imm (.int .i64 (ckAtI m p)),.ptr 5 0,.imm (.int .i64 (ckSet m p ko vo)),.imm (.bool sb),.imm (.int .i64 (ckSm m o)),.imm (.int .i64 (ckM1 m.kd m.bx)),.junk,.junk,.junk,.junk,.junk,.junk,.junk,.imm (.bool false),.junk,.junk,.junk,.junk,.junk,.junk],[boxI m,boxI o,.box [.imm (slD c 1 (p.map ic)),.imm (.int .i64 ko),.imm (.int .u64 vo)],boxI mkI,.box [.imm (.int .i64 rk),.imm (.int .u64 rv)],boxI wrI],none⟩)]
  rotate_left
  · simp only [go_sem,Nat.reduceAdd,Nat.reduceSub,Nat.reduceMul,Nat.reduceDiv,Nat.reduceMod,Nat.reduceLeDiff,Nat.reduceLT,Nat.reduceBEq,Int.reduceToNat,Int.reduceLT,Int.reduceLE,Int.reduceEq,enIm,enB,kk,rb,f1]
  by_cases z : ckM1 m.kd m.bx = 0
  · have hc : ckMk m = (if (if (m.dt.length : Int) = many m.bx then 0 else 2 : Int) = 0 then fnz (m.dt.map (ckB1 m.kd)) else (if (m.dt.length : Int) = many m.bx then 0 else 2)):=by
      rw [ckMk,if_pos z,ckM2,fnz_cons]
      simp only [fnz]
      split <;> (try split) <;> simp_all
    generalize (if (m.dt.length : Int) = many m.bx then 0 else 2 : Int) = x2 at w2 hc
    have h:=loop_run (f:=aCode (level E (n+60)) ⟨0,false⟩ b6_0) (h:=head ⟨0,false⟩ [0,0,0,0,1,1,1,1,1,1,1,1,1,1,1,1,1,0,0,0,0,0,0,0,0,0,0,0,0,0]) (Φ:=outC ⟨0,false⟩ [0,0,0,0,1,1,1,1,1,1,1,1,1,1,1,1,0,0,0,0,0,0,0,0,0,0,0,0,0,0]) m.dt (fun (a : Int) i => ⟨[.junk,.junk,.junk,.junk,.ptr 0 0,.ptr 1 0,.ptr 2 0,.ptr 3 0,.imm (.int .i64 (ckMk m)),.ptr 4 0,.imm (.int .i64 (ckAtI m p)),.ptr 5 0,.imm (.int .i64 (ckSet m p ko vo)),.imm (.bool sb),.imm (.int .i64 (ckSm m o)),.imm (.int .i64 a),.imm (.int .i64 i),.junk,.junk,.junk,.junk,.junk,.junk,.junk,.junk,.junk,.junk,.junk,.junk,.junk],[boxI m,boxI o,.box [.imm (slD c 1 (p.map ic)),.imm (.int .i64 ko),.imm (.int .u64 vo)],boxI mkI,.box [.imm (.int .i64 rk),.imm (.int .u64 rv)],boxI wrI],none⟩) (fun _ _ => True)
      (fun (a : Int) x => if a = 0 then .inl (ckB1 m.kd x) else .inr (some (.exit 0,⟨[.junk,.junk,.junk,.junk,.ptr 0 0,.ptr 1 0,.ptr 2 0,.ptr 3 0,.imm (.int .i64 (ckMk m)),.ptr 4 0,.imm (.int .i64 (ckAtI m p)),.ptr 5 0,.imm (.int .i64 (ckSet m p ko vo)),.imm (.bool sb),.imm (.int .i64 (ckSm m o)),.imm (.int .i64 a),.junk,.junk,.junk,.junk,.junk,.junk,.junk,.junk,.junk,.junk,.junk,.junk,.junk,.junk],[boxI m,boxI o,.box [.imm (slD c 1 (p.map ic)),.imm (.int .i64 ko),.imm (.int .u64 vo)],boxI mkI,.box [.imm (.int .i64 rk),.imm (.int .u64 rv)],boxI wrI],none⟩))) (fun a => some (.exit 0,⟨[.junk,.junk,.junk,.junk,.ptr 0 0,.ptr 1 0,.ptr 2 0,.ptr 3 0,.imm (.int .i64 (ckMk m)),.ptr 4 0,.imm (.int .i64 (ckAtI m p)),.ptr 5 0,.imm (.int .i64 (ckSet m p ko vo)),.imm (.bool sb),.imm (.int .i64 (ckSm m o)),.imm (.int .i64 a),.junk,.junk,.junk,.junk,.junk,.junk,.junk,.junk,.junk,.junk,.junk,.junk,.junk,.junk],[boxI m,boxI o,.box [.imm (slD c 1 (p.map ic)),.imm (.int .i64 ko),.imm (.int .u64 vo)],boxI mkI,.box [.imm (.int .i64 rk),.imm (.int .u64 rv)],boxI wrI],none⟩)) x2 trivial
      (fun a i x _ h2 h1 => ⟨by
        rw [rnd_eq]
        by_cases q : a = 0
        · have xr:=hv x (List.mem_of_getElem? h1)
          have cv:=okQCheckValue (n+57) m.kd x xr.1 xr.2
          by_cases q2 : ckVal m.kd x = 0
          · simp only [go_sem,Nat.reduceAdd,Nat.reduceSub,Nat.reduceMul,Nat.reduceDiv,Nat.reduceMod,Nat.reduceLeDiff,Nat.reduceLT,Nat.reduceBEq,Int.reduceToNat,Int.reduceLT,Int.reduceLE,Int.reduceEq,enB,q,lt_t h2,h1,cv,q2,w0,ckB1,ne_eq,not_true_eq_false]
            rw [wrpS (by omega)]
          · simp only [go_sem,Nat.reduceAdd,Nat.reduceSub,Nat.reduceMul,Nat.reduceDiv,Nat.reduceMod,Nat.reduceLeDiff,Nat.reduceLT,Nat.reduceBEq,Int.reduceToNat,Int.reduceLT,Int.reduceLE,Int.reduceEq,enB,q,lt_t h2,h1,cv,q2,w1,ckB1,ne_eq,not_false_eq_true]
            rw [wrpS (by omega)]
        · simp only [go_sem,Nat.reduceAdd,Nat.reduceSub,Nat.reduceMul,Nat.reduceDiv,Nat.reduceMod,Nat.reduceLeDiff,Nat.reduceLT,Nat.reduceBEq,Int.reduceToNat,Int.reduceLT,Int.reduceLE,Int.reduceEq,enB,q],fun _ _ => trivial⟩)
      (fun a _ => by
        rw [rnd_eq]
        by_cases q : a = 0
        · simp only [go_sem,Nat.reduceAdd,Nat.reduceSub,Nat.reduceMul,Nat.reduceDiv,Nat.reduceMod,Nat.reduceLeDiff,Nat.reduceLT,Nat.reduceBEq,Int.reduceToNat,Int.reduceLT,Int.reduceLE,Int.reduceEq,enB,q,lt_f (Nat.le_refl _)]
        · simp only [go_sem,Nat.reduceAdd,Nat.reduceSub,Nat.reduceMul,Nat.reduceDiv,Nat.reduceMod,Nat.reduceLeDiff,Nat.reduceLT,Nat.reduceBEq,Int.reduceToNat,Int.reduceLT,Int.reduceLE,Int.reduceEq,enB,q])
    rw [cast_0,ml_run,← hc] at h
    rw [seq_step (s':=⟨[.junk,.junk,.junk,.junk,.ptr 0 0,.ptr 1 0,.ptr 2 0,.ptr 3 0,.imm (.int .i64 (ckMk m)),.ptr 4 0,.imm (.int .i64 (ckAtI m p)),.ptr 5 0,.imm (.int .i64 (ckSet m p ko vo)),.imm (.bool sb),.imm (.int .i64 (ckSm m o)),.imm (.int .i64 (ckMk m)),.junk,.junk,.junk,.junk,.junk,.junk,.junk,.junk,.junk,.junk,.junk,.junk,.junk,.junk],[boxI m,boxI o,.box [.imm (slD c 1 (p.map ic)),.imm (.int .i64 ko),.imm (.int .u64 vo)],boxI mkI,.box [.imm (.int .i64 rk),.imm (.int .u64 rv)],boxI wrI],none⟩)]
    rotate_left
    · simp only [go_sem,Nat.reduceAdd,Nat.reduceSub,Nat.reduceMul,Nat.reduceDiv,Nat.reduceMod,Nat.reduceLeDiff,Nat.reduceLT,Nat.reduceBEq,Int.reduceToNat,Int.reduceLT,Int.reduceLE,Int.reduceEq,enIm,enB,z,pr,w2]
      try simp only [go_sem,Nat.reduceAdd,Nat.reduceSub,Nat.reduceMul,Nat.reduceDiv,Nat.reduceMod,Nat.reduceLeDiff,Nat.reduceLT,Nat.reduceBEq,Int.reduceToNat,Int.reduceLT,Int.reduceLE,Int.reduceEq,enB] at h
      rw [h]
      try simp only [go_sem,Nat.reduceAdd,Nat.reduceSub,Nat.reduceMul,Nat.reduceDiv,Nat.reduceMod,Nat.reduceLeDiff,Nat.reduceLT,Nat.reduceBEq,Int.reduceToNat,Int.reduceLT,Int.reduceLE,Int.reduceEq,enB]
    exact tail .junk .junk .junk .junk .junk .junk
  · have hc : ckMk m = ckM1 m.kd m.bx:=by rw [ckMk,if_neg z]
    rw [seq_step (s':=⟨[.imm (enIm m),.imm (enIm o),.imm (.agg [slD c 1 (p.map ic),.int .i64 ko,.int .u64 vo]),.imm (.bool false),.ptr 0 0,.ptr 1 0,.ptr 2 0,.ptr 3 0,.imm (.int .i64 (ckMk m)),.ptr 4 0,.imm (.int .i64 (ckAtI m p)),.ptr 5 0,.imm (.int .i64 (ckSet m p ko vo)),.imm (.bool sb),.imm (.int .i64 (ckSm m o)),.imm (.int .i64 (ckMk m)),.junk,.junk,.junk,.junk,.junk,.junk,.junk,.imm (.bool false),.imm (.bool false),.junk,.junk,.junk,.junk,.junk],[boxI m,boxI o,.box [.imm (slD c 1 (p.map ic)),.imm (.int .i64 ko),.imm (.int .u64 vo)],boxI mkI,.box [.imm (.int .i64 rk),.imm (.int .u64 rv)],boxI wrI],none⟩)]
    rotate_left
    · simp only [go_sem,Nat.reduceAdd,Nat.reduceSub,Nat.reduceMul,Nat.reduceDiv,Nat.reduceMod,Nat.reduceLeDiff,Nat.reduceLT,Nat.reduceBEq,Int.reduceToNat,Int.reduceLT,Int.reduceLE,Int.reduceEq,enIm,enB,z,hc]
    exact tail (.imm (enIm m)) (.imm (enIm o)) (.imm (.agg [slD c 1 (p.map ic),.int .i64 ko,.int .u64 vo])) (.imm (.bool false)) (.imm (.bool false)) (.imm (.bool false))
end Go.Vm.P4Z

/- Chapter 04: the law ImageElements. -/
set_option maxRecDepth 100000
set_option maxHeartbeats 4000000
namespace Go.Vm.P4Z
open Go Go.Vm Go.Vm.P4
theorem ckAtI_own (m : Im) (p : List Int) : ckAtI m.own p = ckAtI m p:=by
  unfold ckAtI ckAt
  have e : ckIm (ckB1 m.own.kd) m.own = ckIm (ckB1 m.kd) m:=ckI_own m
  rw [e]
  rfl
theorem ckSet_own (m : Im) (p : List Int) (k v : Int) : ckSet m.own p k v = ckSet m p k v:=by
  unfold ckSet; rw [ckAtI_own]; rfl
theorem makeE (m : Im) (hx : m.bx.length < 1000000) (hd : m.dt.length < 1000000) : (makeR m.kd m.bx m.dt).2 = ckMk m ∧ Alike (makeR m.kd m.bx m.dt).1 (wMake m):=by
  unfold makeR wMake ckMk
  by_cases h1 : ckM1 m.kd m.bx = 0
  · by_cases h2 : ckM2 m.kd m.bx m.dt = 0
    · simp only [h1,h2,if_true]
      exact ⟨trivial,rfl,rfl,rfl,rfl,hx,by show (strides 1 m.bx).length < _; rw [strides_len]; exact hx,hd⟩
    · simp only [h1,h2,if_true,if_false]
      exact ⟨trivial,alike_im0⟩
  · simp only [h1,if_false]
    exact ⟨trivial,alike_im0⟩
theorem setE (m : Im) (p : List Int) (ko vo : Int) (hx : m.bx.length < 1000000) (hs : m.st.length < 1000000) (hd : m.dt.length < 1000000) : (setR m.own p ko vo).2 = ckSet m p ko vo ∧ Alike (setR m.own p ko vo).1 (wSet m p ko vo):=by
  unfold setR wSet
  rw [ckSet_own]
  by_cases h : ckSet m p ko vo = 0
  · simp only [h,if_true]
    exact ⟨trivial,rfl,rfl,rfl,rfl,hx,hs,by show (m.dt.set _ _).length < _; rw [List.length_set]; exact hd⟩
  · simp only [h,if_false]
    exact ⟨trivial,alike_im0⟩
theorem okImageElements (n : Nat) (hA : callP (level E (n+60)) 8 [] = some (.bool true)) (m o : Im) (c : Bool) (p : List Int) (ko vo : Int) (hv : Ok64 m.dt) (hv' : Ok64 o.dt) (h0 : 0 ≤ vo) (h1 : vo < 18446744073709551616) :
    callP (level E (n+61)) 6 [enIm m,enIm o,.agg [slD c 1 (p.map ic),.int .i64 ko,.int .u64 vo]] = some (.bool true):=by
  have s1:=okShortImage (n+59) m
  have s2:=okShortImage (n+59) o
  cases hs1 : shortI m with
  | false =>
    rw [hs1] at s1
    rw [p6]
    simp only [enIm,enB] at s1
    simp only [go_sem,Nat.reduceAdd,Nat.reduceSub,Nat.reduceMul,Nat.reduceDiv,Nat.reduceMod,Nat.reduceLeDiff,Nat.reduceLT,Nat.reduceBEq,Int.reduceToNat,Int.reduceLT,Int.reduceLE,Int.reduceEq,enIm,enB,s1,hA]
  | true =>
    rw [hs1] at s1
    cases hs2 : shortI o with
    | false =>
      rw [hs2] at s2
      rw [p6]
      simp only [enIm,enB] at s1 s2
      simp only [go_sem,Nat.reduceAdd,Nat.reduceSub,Nat.reduceMul,Nat.reduceDiv,Nat.reduceMod,Nat.reduceLeDiff,Nat.reduceLT,Nat.reduceBEq,Int.reduceToNat,Int.reduceLT,Int.reduceLE,Int.reduceEq,enIm,enB,s1,s2,hA]
    | true =>
      rw [hs2] at s2
      by_cases hp5 : (p.length : Int) > 5
      · rw [p6]
        simp only [enIm,enB] at s1 s2
        simp only [go_sem,Nat.reduceAdd,Nat.reduceSub,Nat.reduceMul,Nat.reduceDiv,Nat.reduceMod,Nat.reduceLeDiff,Nat.reduceLT,Nat.reduceBEq,Int.reduceToNat,Int.reduceLT,Int.reduceLE,Int.reduceEq,enIm,enB,s1,s2,hp5,hA]
      obtain ⟨l1,l2,l3⟩:=shortI_len hs1
      obtain ⟨j1,j2,j3⟩:=shortI_len hs2
      have lp : p.length < 1000000:=by omega
      have lx : m.bx.length < 1000000:=by omega
      have ls : m.st.length < 1000000:=by omega
      have ld : m.dt.length < 1000000:=by omega
      have lx' : o.bx.length < 1000000:=by omega
      have ls' : o.st.length < 1000000:=by omega
      have ld' : o.dt.length < 1000000:=by omega
      have mk:=okMakeG (n+50) m.kd m.bx m.dt lx ld hv
      have rd:=okAtG (n+49) m.own false p lx ls ld hv
      have wr:=okSetG (n+49) m.own false p ko vo lx ls ld hv h0 h1
      have chk:=okCheckI (n+51) m.own lx ls ld hv
      obtain ⟨e1,a1⟩:=makeE m lx ld
      obtain ⟨e2,a2⟩:=setE m p ko vo lx ls ld
      rw [e1] at mk
      rw [e2] at wr
      rw [ckI_own] at chk
      rw [ckAtI_own] at rd
      have rd' : callP (level E (n+60)) 39 [enIm m.own,slD false 1 (p.map ic)] = some (.tup [.agg [.int .i64 (if ckAtI m p = 0 then m.kd else 0),.int .u64 (if ckAtI m p = 0 then atI m p else 0)],.int .i64 (ckAtI m p)]):=by
        rw [rd]
        by_cases h : ckAtI m p = 0
        · simp only [h,if_true]; rfl
        · simp only [h,if_false]
      have esm : ckSm m.own o.own = ckSm m o:=by unfold ckSm; rw [ckI_own,ckI_own]
      obtain ⟨sb,sm,rs,rs0⟩ : ∃ sb : Bool,callP (level E (n+60)) 41 [enIm m.own,enIm o.own] = some (.tup [.bool sb,.int .i64 (ckSm m o)]) ∧ (ckSm m o = 0 → callP (level E (n+60)) 51 [enIm m,enIm o] = some (.bool sb)) ∧ (ckSm m o ≠ 0 → sb = false):=by
        by_cases z : ckSm m o = 0
        · have g1:=fz0 _ z (ckI m) (by simp)
          have g2:=fz0 _ z (ckI o) (by simp)
          obtain ⟨M,G⟩:=good_of g1
          obtain ⟨O,H⟩:=good_of g2
          obtain ⟨M',G'⟩:=good_of (m:=m.own) (by rw [ckI_own]; exact g1)
          obtain ⟨O',H'⟩:=good_of (m:=o.own) (by rw [ckI_own]; exact g2)
          have eM : M' = M:=by have q1:=G.many; have q2:=G'.many; have : many m.own.bx = many m.bx:=rfl; omega
          have eO : O' = O:=by have q1:=H.many; have q2:=H'.many; have : many o.own.bx = many o.bx:=rfl; omega
          subst eM eO
          have r:=okRSame (n+55) m o M' O' G H
          by_cases hk : m.kd = o.kd ∧ m.bx.length = o.bx.length
          · have s:=okSame2 (n+50) m.own o.own lx ls ld hv lx' ls' ld' hv' M' O' G' H' (by rw [esm]; exact z) hk.1 hk.2
            have ea : ∀ (m : Im) (N : Nat),(List.range N).map (fun i => atI m.own (digits m.own.bx (i : Nat))) = (List.range N).map (fun i => atI m (digits m.bx (i : Nat))):=fun _ _ => rfl
            rw [ea,ea] at s
            generalize (List.range M').map (fun i => atI m (digits m.bx (i : Nat))) = A at s r
            generalize (List.range O').map (fun i => atI o (digits o.bx (i : Nat))) = B at s r
            refine ⟨decide (m.bx = o.bx ∧ A = B),by rw [z]; exact s,fun _ => ?_,fun h => absurd z h⟩
            rw [r]
            simp only [hk.1,true_and]
          · have s:=okSame1 (n+50) m.own o.own lx ls ld hv lx' ls' ld' hv' (.inr ⟨by rw [esm]; exact z,hk⟩)
            rw [esm] at s
            refine ⟨false,s,fun _ => ?_,fun _ => rfl⟩
            rw [r,decide_eq_false (fun h => hk ⟨h.1,by rw [h.2.1]⟩)]
        · have s:=okSame1 (n+50) m.own o.own lx ls ld hv lx' ls' ld' hv' (.inl (by rw [esm]; exact z))
          rw [esm] at s
          exact ⟨false,s,fun h => absurd h z,fun _ => rfl⟩
      refine elemHead n hA m o _ _ c p ko vo _ _ sb hv hv' lx ls ld lx' ls' ld' lp h0 h1 a1 a2 rfl rfl chk ?_ ?_ ?_ ?_ rs rs0 s1 s2 hp5 (okLPoint (n+59) c p lp) mk rd' wr sm
      · intro h
        rw [wMake,if_pos h]
        exact okRMake (n+58) m.kd m.bb m.db m.bx m.dt lx ld
      · intro h
        have g2:=fz0 _ h (if p.length = m.bx.length then 0 else 13) (by simp)
        have g2 : p.length = m.bx.length:=by split at g2; assumption; omega
        exact okRHas (n+59) m.bb c m.bx p (by omega) (by omega)
      · intro h
        obtain ⟨k,k1,k2,k3,k4,k5,k6,k7⟩:=at_pad h
        obtain ⟨_,g2,_⟩:=ckAt0 h
        exact okRBits (n+58) m c p k5 (by omega) (by omega) k _ k7 k3
      · intro h
        have g1:=fz0 _ h (ckAtI m p) (by simp)
        obtain ⟨k,k1,k2,k3,k4,k5,k6,k7⟩:=at_pad g1
        obtain ⟨_,g2,_⟩:=ckAt0 g1
        rw [wSet,if_pos h,k7,Int.toNat_natCast]
        exact okRSet (n+57) m c p vo k5 (by omega) (by omega) ls ld k k7 k2
end Go.Vm.P4Z

/- Chapter 04: ImageElements: the row and the card. -/
set_option maxRecDepth 100000
namespace Go.Proofs.YtgbmhofpndjdoaaGreatDoor
open Go Go.Vm Go.Vm.P4 Go.Vm.P4Z Go.ChangeShapes Go.WideShapes Go.ChangeAt Go.RowKit
theorem readImage : Tryz.prog.readableRec 27 = true:=by kernel_rfl
theorem rowImage : 27 < Tryz.prog.types.size:=of_decide_eq_true (by kernel_rfl)
theorem readSpot : Tryz.prog.readableRec 51 = true:=by kernel_rfl
theorem rowSpot : 51 < Tryz.prog.types.size:=of_decide_eq_true (by kernel_rfl)
theorem liftedImageElements (os : Os) (started : os.Started) (H : Type) (enc : TypeId × Value → H) :
    ReturnsInHanded {} Tryz.checked os 6 .any (fun w args => (Rows.imageElementsSpec.pre enc Tryz.prog Tryz.f6 [] false w args ∧ laidMetH Tryz.prog laidW w) ∧ sizedMet enc Tryz.prog Tryz.f6 (OpenSpec.ofChange Rows.imageElementsSpec) false w args)
      (Rows.imageElementsSpec.post enc Tryz.prog Tryz.f6 false true false false):=by
  refine returnsInHanded_of_change_and (C:=Tryz.checked) (X:=fun w _ => laidMetH Tryz.prog laidW w) (fun _ _ _ hh h => h.of_heap hh) ownT started (by kernel_rfl) Tryz.func6
    (ChangeSpec.witness_shaped (enc:=enc) (C:=Tryz.checked) (os:=os) (X:=fun w _ => laidMetH Tryz.prog laidW w) false (World.doorLaid Tryz.prog 2000 os) #[.agg #[.int .i64 0,.slice none 0 0,.slice none 0 0,.slice none 0 0],.agg #[.int .i64 0,.slice none 0 0,.slice none 0 0,.slice none 0 0],.agg #[.slice none 0 0,.int .i64 0,.int .u64 0]] 8 rfl (World.shaped_of_RefB (by kernel_rfl) (by kernel_rfl)) (by kernel_rfl) (by kernel_rfl) (by kernel_rfl) (door_met os _)) ?_
  intro W base args ds gs before hval0 hW _ _ hL _
  have hW':=hW
  have hlt:=hW.lt
  obtain ⟨p,q,hA0,hV,rfl,hfz,hnd⟩:=hW
  have hA : DataW.TrodAll enc Tryz.prog W 0 (fun _ => true) true Tryz.f6.params.toList args.toList ds p:=hA0
  rw [Tryz.params6] at hA
  obtain ⟨v0,v1,v2,d0,d1,d2,p0,p1,p2,rfl,rfl,rfl,h0,h1,h2⟩:=trodAll_three hA
  obtain ⟨rfl,rfl⟩:=trodVars_none hV
  have hval : ∀ (j : Nat) t v,Tryz.f6.params[j]? = some t → (#[v0,v1,v2] : Array Value)[j]? = some v → Value.okWide Tryz.prog W .any base t v:=hval0
  rw [Tryz.params6] at hval
  obtain ⟨m0,g0,r0⟩:=arg_image (hval 0 27 v0 rfl rfl) h0
  obtain ⟨m1,g1,r1⟩:=arg_image (hval 1 27 v1 rfl rfl) h1
  obtain ⟨b2,l2,k2,u2,g2,r2⟩:=arg_spot (hval 2 51 v2 rfl rfl) h2
  refine (call_ok anyXP (okImageElements 0 (okAwake 0) m0 m1 b2 l2 k2 u2 g0 g1 g2.1 g2.2) hL rfl (fun j d hj => ?_)).mono fun e w ⟨r,F,he,htr,hr⟩ => ?_
  · match j,hj with
    | 0,hj => injection hj with hj; subst hj; exact r0
    | 1,hj => injection hj with hj; subst hj; exact r1
    | 2,hj => injection hj with hj; subst hj; exact r2
    | j + 3,hj => simp at hj
  · subst he
    have hb:=below_of htr
    obtain rfl:=bool_of hr
    refine ⟨_,rfl,[d0,d1,d2],[],p0 ++ p1 ++ p2 ++ [],[],p0 ++ (p1 ++ p2),[],hW',trodAll_mk1 (shut_bool Tryz.underlying4 _),?_,rfl,hb.frame _,nofun⟩
    exact trodAll_mk3 (Below.trod laidOutT readImage rowImage h0 hb fun x hx => hlt x (by simp [hx])) (Below.trod laidOutT readImage rowImage h1 hb fun x hx => hlt x (by simp [hx])) (Below.trod laidOutT readSpot rowSpot h2 hb fun x hx => hlt x (by simp [hx]))
theorem imageElements_said : Rows.ImageElementsSaid :=
  OpenClaim.holds_of_wide 6 Tryz.f6 rfl rfl rfl rfl rfl rfl rfl ⟨rfl,rfl,rfl,rfl,rfl⟩ rfl rfl rfl rfl rfl (by kernel_rfl) Tryz.func6 (by kernel_rfl)
    (of_decide_eq_true (by kernel_rfl)) (by unfold Func.isWrapper; first | (rw [if_pos (by decide +kernel)]; kernel_rfl) | (rw [if_neg (by decide +kernel)]; exact ⟨rfl,rfl⟩))
    (fun os started H enc _ => liftedImageElements os started H enc)
theorem imageElements_holds : Rows.ImageElementsCardSaid :=
  Claim7.holds_tied_plain_at .later [] [.data,.funcs] true (true, "47b693bda246c1c9613a75da3a0118561ee6bcc2ec34998d3f5c399ab10df9b5") false
    imageElements_said (fun _ h => by cases h) (by kernel_rfl) (fun _ h => by cases h) imageElements_row_tie rfl ⟨rfl,rfl⟩ (by kernel_rfl) rfl
    (fun f fn hf hfn => by
      obtain rfl : f = 6:=Option.some.inj ((show Tryz.prog.funcNamed "halation/halationlaw04.ImageElements" = some 6 by kernel_rfl).symm.trans hf) |>.symm
      obtain rfl : fn = Tryz.f6:=(Option.some.inj (Tryz.func6.symm.trans hfn)).symm
      exact ⟨by kernel_rfl,fun j t ht => by
        rw [Tryz.params6] at ht
        have hm : t ∈ [27,27,51]:=by simpa using Array.mem_of_getElem? ht
        have hall : ([27,27,51].all fun u => !Tryz.prog.wantsStandIn u) = true:=by kernel_rfl
        exact (show Tryz.prog.wantsStandIn t = false by simpa using List.all_eq_true.1 hall t hm)⟩)
    (by kernel_rfl)
#print axioms imageElements_holds
end Go.Proofs.YtgbmhofpndjdoaaGreatDoor
