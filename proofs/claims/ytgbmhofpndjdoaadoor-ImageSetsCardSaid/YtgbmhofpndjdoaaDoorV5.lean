/- A part of the proof that the law answers true for every input; the conditions are those of the card: the listed variable reads as the program lays it. -/
import Derived.Test.YtgbmhofpndjdoaaDoorV4
set_option linter.unusedSimpArgs false
set_option linter.unusedVariables false
/- Chapter 04,functions: elements of points,images made of a function. -/
set_option maxRecDepth 100000
set_option maxHeartbeats 4000000
namespace Go.Vm.P4D
open Go Go.Vm Go.Vm.P4
theorem okViewAt (n : Nat) (m : Im) (p : List Int) (k : Nat) (v : Int) (hp : p.length = 3) (h3 : m.bx.length ≤ 3) (hs : m.bx.length ≤ m.st.length) (he : elt m.bx p m.st 0 = k) (hv : m.dt[k]? = some v) :
    callP (level E (n+2)) 62 [enIm m,enP p] = some (.int .u64 v):=by
  rw [p62]
  have h1:=okElement n m.bb m.tb m.bx m.st p h3 hs hp
  obtain ⟨x,y,z,rfl⟩ : ∃ x y z,p = [x,y,z]:=by
    match p,hp with
    | [x,y,z],_ => exact ⟨x,y,z,rfl⟩
  rw [he] at h1
  simp only [enP,List.map_cons,List.map_nil] at h1 ⊢
  simp only [go_sem,Nat.reduceAdd,Nat.reduceSub,Nat.reduceMul,Nat.reduceDiv,Nat.reduceMod,Nat.reduceLeDiff,Nat.reduceLT,Nat.reduceBEq,Int.reduceToNat,Int.reduceLT,Int.reduceLE,Int.reduceEq,enIm,h1,hv]
def ckAt (cb : Int → Int) (m : Im) (p : List Int) : Int:=if fnz [ckIm cb m,if p.length = m.bx.length then 0 else 13] = 0 then (if hasB m.bx p then 0 else 14) else fnz [ckIm cb m,if p.length = m.bx.length then 0 else 13]
theorem okCheckAt (n : Nat) (m : Im) (c : Bool) (p : List Int) (cb : Int → Int) (hx : m.bx.length < 1000000) (hs : m.st.length < 1000000) (hd : m.dt.length < 1000000) (H : ∀ v ∈ m.dt,callP (level E (n+5)) 61 [.int .i64 m.kd,.int .u64 v] = some (.int .i64 (cb v))) :
    callP (level E (n+10)) 76 [enIm m,slD c 1 (p.map ic)] = some (.int .i64 (ckAt cb m p)):=by
  rw [p76]
  have h1:=okCheck n m cb hx hs hd H
  have f1:=okFirstL (n+8) [[.int .i64 (ckIm cb m)],[.int .i64 (if p.length = m.bx.length then 0 else 13)]] [ckIm cb m,if p.length = m.bx.length then 0 else 13] rfl (by simp)
  have w1 : callP (level E (n+9)) 54 [.bool (decide (¬ (p.length : Int) = m.bx.length)),.int .i64 13] = some (.int .i64 (if p.length = m.bx.length then 0 else 13)):=by
    rw [okWhen (n+8)]
    by_cases h : p.length = m.bx.length
    · simp [h]
    · have : ¬ (p.length : Int) = m.bx.length:=by omega
      simp [h,this]
  by_cases h2 : fnz [ckIm cb m,if p.length = m.bx.length then 0 else 13] = 0
  · have h4:=fz0 _ h2 (if p.length = m.bx.length then 0 else 13) (by simp)
    have h5 : p.length = m.bx.length:=by
      split at h4
      · assumption
      · omega
    have h6:=okHas0 (n+8) m.bb c m.bx p (by omega) (by omega)
    rw [h2] at f1
    simp only [enIm] at h1
    cases h7 : hasB m.bx p
    · rw [h7] at h6
      simp only [go_sem,Nat.reduceAdd,Nat.reduceSub,Nat.reduceMul,Nat.reduceDiv,Nat.reduceMod,Nat.reduceLeDiff,Nat.reduceLT,Nat.reduceBEq,Int.reduceToNat,Int.reduceLT,Int.reduceLE,Int.reduceEq,enIm,h1,w1,f1,h2,h6,h7,okWhen,ckAt,ne_eq,not_true_eq_false,Bool.false_eq_true]
    · rw [h7] at h6
      simp only [go_sem,Nat.reduceAdd,Nat.reduceSub,Nat.reduceMul,Nat.reduceDiv,Nat.reduceMod,Nat.reduceLeDiff,Nat.reduceLT,Nat.reduceBEq,Int.reduceToNat,Int.reduceLT,Int.reduceLE,Int.reduceEq,enIm,h1,w1,f1,h2,h6,h7,okWhen,ckAt,ne_eq,not_true_eq_false,Bool.false_eq_true]
  · simp only [enIm] at h1
    simp only [go_sem,Nat.reduceAdd,Nat.reduceSub,Nat.reduceMul,Nat.reduceDiv,Nat.reduceMod,Nat.reduceLeDiff,Nat.reduceLT,Nat.reduceBEq,Int.reduceToNat,Int.reduceLT,Int.reduceLE,Int.reduceEq,enIm,h1,w1,f1,h2,ckAt,ne_eq,not_false_eq_true]
theorem okAtE (n : Nat) (m : Im) (c : Bool) (p : List Int) (e : Int) (he : e ≠ 0) (h1 : callP (level E (n+10)) 76 [enIm m,slD c 1 (p.map ic)] = some (.int .i64 e)) :
    callP (level E (n+11)) 24 [enIm m,slD c 1 (p.map ic)] = some (.tup [.agg [.int .i64 0,.int .u64 0],.int .i64 e]):=by
  rw [p24]
  simp only [enIm] at h1
  simp only [go_sem,Nat.reduceAdd,Nat.reduceSub,Nat.reduceMul,Nat.reduceDiv,Nat.reduceMod,Nat.reduceLeDiff,Nat.reduceLT,Nat.reduceBEq,Int.reduceToNat,Int.reduceLT,Int.reduceLE,Int.reduceEq,enIm,h1,he,ne_eq,not_false_eq_true]
theorem okAtS (n : Nat) (m : Im) (c : Bool) (p : List Int) (h1 : callP (level E (n+10)) 76 [enIm m,slD c 1 (p.map ic)] = some (.int .i64 0)) (h3 : m.bx.length ≤ 3) (hpl : p.length ≤ 3) (hs : m.bx.length ≤ m.st.length)
    (k : Nat) (v : Int) (he : elt m.bx ((p ++ [0,0,0]).take 3) m.st 0 = k) (hv : m.dt[k]? = some v) :
    callP (level E (n+11)) 24 [enIm m,slD c 1 (p.map ic)] = some (.tup [.agg [.int .i64 m.kd,.int .u64 v],.int .i64 0]):=by
  rw [p24]
  have h2:=okOf (n+9) c p hpl
  have h4:=okViewAt (n+8) m ((p ++ [0,0,0]).take 3) k v (by simp) h3 hs he hv
  simp only [enIm] at h1 h4
  simp only [go_sem,Nat.reduceAdd,Nat.reduceSub,Nat.reduceMul,Nat.reduceDiv,Nat.reduceMod,Nat.reduceLeDiff,Nat.reduceLT,Nat.reduceBEq,Int.reduceToNat,Int.reduceLT,Int.reduceLE,Int.reduceEq,enIm,h1,h2,h4,ne_eq,not_true_eq_false]
end Go.Vm.P4D

/- Chapter 04,functions: images made of a function. -/
set_option maxRecDepth 100000
set_option maxHeartbeats 4000000
namespace Go.Vm.P4D
open Go Go.Vm Go.Vm.P4
def CoV (kd : Int) (b : Bool) (l : Bx) (f : D) (q : Nat) : List AV:=[.imm (.int .i64 kd),.imm (enB b l),.imm f,.ptr 0 0,.imm (.ptr [f]),.ptr q 0,.junk,.imm (.fn 95 [] [.ptr [enB b l]]),.junk,.junk]
def z4 : List AV:=[.imm (.int .i64 0),.imm .nil,.imm .nil,.imm .nil]
def CoSt (kd : Int) (b : Bool) (l : Bx) (f : D) : List (List D) → Ext
  | [] => ⟨[8,9],b63_0,b63_1,CoV kd b l f 2,[.box z4,.arr 2 (l.map enR),.box [.imm (.int .i64 kd),.ref 1 2 0 l.length,.imm (slD true 1 ((strides 1 l).map ic)),.imm .nil]],0,none⟩
  | acc => ⟨[8,9],b63_0,b63_1,CoV kd b l f 1,[.box z4,.box [.imm (.int .i64 kd),.ref 2 2 0 l.length,.imm (slD true 1 ((strides 1 l).map ic)),.ref 3 1 0 acc.length],.arr 2 (l.map enR),.arr 1 acc],0,none⟩
theorem dL_cat (st : List AO) (fs cs : List D) (a : D) : deepL st (fs.map AV.imm ++ [.imm a] ++ cs.map AV.imm) = some (fs ++ [a] ++ cs):=by
  rw [show fs.map AV.imm ++ [.imm a] ++ cs.map AV.imm = (fs ++ [a] ++ cs).map AV.imm from by simp]
  exact dL_map _
theorem iL_cat (fs cs : List D) (a : D) : idsL (fs.map AV.imm ++ [.imm a] ++ cs.map AV.imm) = []:=by
  rw [show fs.map AV.imm ++ [.imm a] ++ cs.map AV.imm = (fs ++ [a] ++ cs).map AV.imm from by simp]
  exact iL_map _
theorem okCollectR (n : Nat) (kd : Int) (b : Bool) (l : Bx) (fid : FuncId) (fs cs : List D) (F : List Int → Int) (acc : List (List D)) (i : Nat) (ha : acc.length = i) (hi : i < 1000000)
    (H : callP (level E (n+1)) fid (fs ++ [enP (plc l i)] ++ cs) = some (.int .u64 (F (plc l i)))) :
    (level E (n+2)).round (CoSt kd b l (.fn fid fs cs) acc) [.int .i64 (i : Int),enP (plc l i)] = some (CoSt kd b l (.fn fid fs cs) (acc ++ [ub (F (plc l i))]),true):=by
  obtain ⟨x,y,z,hp⟩ : ∃ x y z,plc l i = [x,y,z]:=by
    match hh : plc l i,plc_len l i with
    | [x,y,z],_ => exact ⟨x,y,z,rfl⟩
  rw [hp] at H ⊢
  have e1 : (acc.length + 1) * 9 ≤ 70368744177664:=by omega
  simp only [enP,List.map_cons,List.map_nil] at H
  rcases acc with _ | ⟨w,acc⟩
  · unfold CoSt
    dsimp only
    rw [round_go rfl]
    simp only [CoV,enP,z4]
    simp only [go_sem,Nat.reduceAdd,Nat.reduceSub,Nat.reduceMul,Nat.reduceDiv,Nat.reduceMod,Nat.reduceLeDiff,Nat.reduceLT,Nat.reduceBEq,Int.reduceToNat,Int.reduceLT,Int.reduceLE,Int.reduceEq,dL_cat,iL_cat,H]
  · simp only [List.length_cons] at e1
    unfold CoSt
    dsimp only
    rw [round_go rfl]
    simp only [CoV,enP,z4]
    simp only [go_sem,Nat.reduceAdd,Nat.reduceSub,Nat.reduceMul,Nat.reduceDiv,Nat.reduceMod,Nat.reduceLeDiff,Nat.reduceLT,Nat.reduceBEq,Int.reduceToNat,Int.reduceLT,Int.reduceLE,Int.reduceEq,e1,dL_cat,iL_cat,H]
def mkIm (kd : Int) (l : Bx) (N : Nat) (F : List Int → Int) : Im:=⟨kd,false,l,true,strides 1 l,true,(List.range N).map fun i => F (plc l i)⟩
theorem okCollect (n : Nat) (kd : Int) (b : Bool) (l : Bx) (fid : FuncId) (fs cs : List D) (F : List Int → Int) (h1 : 1 ≤ l.length) (h3 : l.length ≤ 3) (N : Nat) (hN : many l = N) (hN2 : N < 1000000)
    (H : ∀ i,i < N → callP (level E (n+1)) fid (fs ++ [enP (plc l i)] ++ cs) = some (.int .u64 (F (plc l i)))) :
    callP (level E (n+4)) 63 [.int .i64 kd,enB b l,.fn fid fs cs] = some (enIm (mkIm kd l N F)):=by
  rw [p63]
  have a1:=okAll (n+2) b l
  have c1:=okCloneB (n+2) b l (by omega)
  have d1:=okDense (n+2) b l (by omega)
  have h:=okAll1 (n+1) b l h3 N hN (by omega) (CoSt kd b l (.fn fid fs cs)) (fun a i => a.length = i) (fun a i => .inl (a ++ [ub (F (plc l i))])) [] rfl
    (fun a i hI hi => ⟨okCollectR n kd b l fid fs cs F a i hI (by omega) (H i hi),fun a' ha => by injection ha with ha; subst ha; simp [hI]⟩)
  rw [runL_fold,fold_snoc,List.nil_append] at h
  have e1 : clV b 2 (l.map enR) = .ref 0 2 0 l.length:=by
    rcases l with _ | ⟨x,t⟩
    · simp at h1
    · cases b <;> simp [clV]
  have e2 : clO 2 (l.map enR) = [.arr 2 (l.map enR)]:=by
    rcases l with _ | ⟨x,t⟩
    · simp at h1
    · simp [clO]
  have e3 : flatDLL (l.map enR) = true:=by
    clear h h1 h3 hN H c1 d1 a1 e1 e2
    induction l with
    | nil => rfl
    | cons x t ih => simp only [go_sem,Nat.reduceAdd,Nat.reduceSub,Nat.reduceMul,Nat.reduceDiv,Nat.reduceMod,Nat.reduceLeDiff,Nat.reduceLT,Nat.reduceBEq,Int.reduceToNat,Int.reduceLT,Int.reduceLE,Int.reduceEq,ih]
  rw [e1,e2] at c1
  simp only [go_sem,Nat.reduceAdd,Nat.reduceSub,Nat.reduceMul,Nat.reduceDiv,Nat.reduceMod,Nat.reduceLeDiff,Nat.reduceLT,Nat.reduceBEq,Int.reduceToNat,Int.reduceLT,Int.reduceLE,Int.reduceEq,c1,d1,e3,a1]
  simp only [CoSt,CoV,z4] at h
  rw [h]
  have e4 : (List.range N).map (fun i => ub (F (plc l i))) = ((List.range N).map fun i => F (plc l i)).map ub:=by simp
  rw [e4]
  cases hq : (List.range N).map (fun i => F (plc l i)) with
  | nil => simp only [go_sem,Nat.reduceAdd,Nat.reduceSub,Nat.reduceMul,Nat.reduceDiv,Nat.reduceMod,Nat.reduceLeDiff,Nat.reduceLT,Nat.reduceBEq,Int.reduceToNat,Int.reduceLT,Int.reduceLE,Int.reduceEq,CoSt,CoV,z4,enIm,mkIm,hq] <;> rfl
  | cons w t => simp only [go_sem,Nat.reduceAdd,Nat.reduceSub,Nat.reduceMul,Nat.reduceDiv,Nat.reduceMod,Nat.reduceLeDiff,Nat.reduceLT,Nat.reduceBEq,Int.reduceToNat,Int.reduceLT,Int.reduceLE,Int.reduceEq,CoSt,CoV,z4,enIm,mkIm,hq] <;> rfl
end Go.Vm.P4D

/- Chapter 04,functions: Crop,Delete,Insert,Slice. -/
set_option maxRecDepth 100000
set_option maxHeartbeats 4000000
namespace Go.Vm.P4D
open Go Go.Vm Go.Vm.P4
theorem okEqualB (n : Nat) (b c : Bool) (l : Bx) (hl : l.length < 1000000000) : callP (level E (n+1)) 68 [enB b l,enB c l] = some (.bool true):=by
  rw [p68]
  simp only [go_sem,Nat.reduceAdd,Nat.reduceSub,Nat.reduceMul,Nat.reduceDiv,Nat.reduceMod,Nat.reduceLeDiff,Nat.reduceLT,Nat.reduceBEq,Int.reduceToNat,Int.reduceLT,Int.reduceLE,Int.reduceEq,ne_eq,not_true_eq_false]
  have h:=loop_fold (f:=aCode (level E (n)) ⟨0,false⟩ b68_0) (h:=head ⟨0,false⟩ [1,1,0,0,0,1,1,0,0]) (Φ:=outC ⟨0,false⟩ [0,0,1,0,0,0,0,0,0]) l (fun (a : Unit) i => ⟨[.imm (slD b 2 (l.map enR)),.imm (slD c 2 (l.map enR)),.junk,.junk,.junk,.imm (.int .i64 l.length),.imm (.int .i64 i),.junk,.junk],[],none⟩) (fun _ _ => True)
    (fun a x => ()) (fun a => some (.exit 0,⟨[.junk,.junk,.junk,.junk,.junk,.junk,.junk,.junk,.junk],[],none⟩)) () trivial
    (fun a i x hI h2 h1 => by
      refine ⟨?_,trivial⟩
      rw [rnd_eq]
      simp only [go_sem,Nat.reduceAdd,Nat.reduceSub,Nat.reduceMul,Nat.reduceDiv,Nat.reduceMod,Nat.reduceLeDiff,Nat.reduceLT,Nat.reduceBEq,Int.reduceToNat,Int.reduceLT,Int.reduceLE,Int.reduceEq,lt_t h2,h1,aEq,eqL,eqE,intEq,beq_self_eq_true]
      rw [wrpS (by omega)])
    (fun a _ => by
      rw [rnd_eq]
      simp only [go_sem,Nat.reduceAdd,Nat.reduceSub,Nat.reduceMul,Nat.reduceDiv,Nat.reduceMod,Nat.reduceLeDiff,Nat.reduceLT,Nat.reduceBEq,Int.reduceToNat,Int.reduceLT,Int.reduceLE,Int.reduceEq,lt_f (Nat.le_refl _)])
  rw [cast_0] at h
  rw [h]
  simp only [go_sem,Nat.reduceAdd,Nat.reduceSub,Nat.reduceMul,Nat.reduceDiv,Nat.reduceMod,Nat.reduceLeDiff,Nat.reduceLT,Nat.reduceBEq,Int.reduceToNat,Int.reduceLT,Int.reduceLE,Int.reduceEq]
def Lies (m : Im) (l : Bx) (N : Nat) (F : List Int → Int) : Prop:=∀ i,i < N → ∃ k : Nat,elt m.bx (plc l i) m.st 0 = k ∧ m.dt[k]? = some (F (plc l i))
theorem okCropS (n : Nat) (m : Im) (c : Bool) (l : Bx) (h1 : callP (level E (n+9)) 48 [enIm m] = some (.int .i64 0)) (hm : ckBox m.bx = 0) (hs : m.st.length = m.bx.length) (h2 : ckBox l = 0) (h3 : l.length = m.bx.length) (hz : List.zipWith rmeet m.bx l = l)
    (N : Nat) (hN : many l = N) (F : List Int → Int) (hF : Lies m l N F) :
    callP (level E (n+10)) 19 [enIm m,enB c l] = some (.tup [enIm (mkIm m.kd l N F),.int .i64 0]):=by
  obtain ⟨q1,q2,_,q4⟩:=ckBox0 h2
  obtain ⟨r1,r2,_,_⟩:=ckBox0 hm
  rw [p19]
  have c1:=okCheckBox (n+5) c l (by omega)
  have m1:=okMany (n+8) c l (by omega)
  have f1:=okFirstL (n+8) [[.int .i64 0],[.int .i64 0],[.int .i64 0]] [0,0,0] rfl (by simp)
  have z1:=okZipped (n+8) m.bb c m.bx l 70 rmeet (by omega) (by omega) (fun r s => okMeet (n+7) r s)
  rw [hz] at z1
  have e1:=okEqualB (n+8) true c l (by omega)
  have k1:=okCollect (n+5) m.kd c l 62 [enIm m] [] F q1 q2 N hN (by omega) (fun i hi => by
    obtain ⟨k,hk1,hk2⟩:=hF i hi
    exact okViewAt (n+4) m (plc l i) k _ (plc_len l i) r2 (by omega) hk1 hk2)
  have hw:=okWhen (n+8) false 13
  simp only [enIm] at h1 k1
  rw [h2] at c1
  simp only [fnz,if_true] at f1
  by_cases hp : many l > 0
  · simp only [go_sem,Nat.reduceAdd,Nat.reduceSub,Nat.reduceMul,Nat.reduceDiv,Nat.reduceMod,Nat.reduceLeDiff,Nat.reduceLT,Nat.reduceBEq,Int.reduceToNat,Int.reduceLT,Int.reduceLE,Int.reduceEq,enIm,h1,c1,m1,f1,h3,z1,e1,hp,hw,k1,ne_eq,not_true_eq_false,Bool.false_eq_true]
  · simp only [go_sem,Nat.reduceAdd,Nat.reduceSub,Nat.reduceMul,Nat.reduceDiv,Nat.reduceMod,Nat.reduceLeDiff,Nat.reduceLT,Nat.reduceBEq,Int.reduceToNat,Int.reduceLT,Int.reduceLE,Int.reduceEq,enIm,h1,c1,m1,f1,h3,hp,hw,k1,ne_eq,not_true_eq_false,Bool.false_eq_true]
theorem okDel20 (n : Nat) (r s : Rg) : callS (level E (n+1)) 86 [.ref 0 2 0 2,.imm (.int .i64 0),.imm (.int .i64 1)] [.arr 2 [enR r,enR s]] = some (.ref 1 2 0 1,[.dead,.arr 2 [enR s,[.int .i64 0,.int .i64 0]]]):=by
  rw [s86]
  simp only [go_sem,Nat.reduceAdd,Nat.reduceSub,Nat.reduceMul,Nat.reduceDiv,Nat.reduceMod,Nat.reduceLeDiff,Nat.reduceLT,Nat.reduceBEq,Int.reduceToNat,Int.reduceLT,Int.reduceLE,Int.reduceEq]
theorem ins_call (n : Nat) (es : List (List D)) (i : Nat) (a : D) (hi : i ≤ es.length) (hl : es.length < 1000000) : (level E (n+1)).call 88 [.ref 0 1 0 es.length,.imm (.int .i64 i),.ref 1 1 0 1] [.arr 1 es,.arr 1 [[a]]] none =
    some (.ref 2 1 0 (es.length + 1),[.dead,.arr 1 [[a]],.arr 1 (es.take i ++ [a] :: es.drop i)],none):=by
  have h1 : E.fn 88 = none:=rfl
  have h2 : E.prim 88 = some insPrim:=rfl
  have k1 : (0 : Int) ≤ (i : Int):=by omega
  have k2 : (i : Int) ≤ (es.length : Int):=by omega
  simp only [level,h1,runPrim,h2,insPrim,List.getElem?_cons_zero,List.getElem?_cons_succ,k1,k2,hl,and_self,ne_eq,Nat.zero_ne_one,not_false_eq_true,if_true,Int.toNat_natCast]
  rfl
theorem okIns (n : Nat) (es : List (List D)) (i : Nat) (a : D) (hi : i ≤ es.length) (hl : es.length < 1000000) : callS (level E (n+1)) 88 [.ref 0 1 0 es.length,.imm (.int .i64 i),.ref 1 1 0 1] [.arr 1 es,.arr 1 [[a]]] =
    some (.ref 2 1 0 (es.length + 1),[.dead,.arr 1 [[a]],.arr 1 (es.take i ++ [a] :: es.drop i)]):=by
  unfold callS
  rw [ins_call n es i a hi hl]
  simp only [go_sem,Nat.reduceAdd,Nat.reduceSub,Nat.reduceMul,Nat.reduceDiv,Nat.reduceMod,Nat.reduceLeDiff,Nat.reduceLT,Nat.reduceBEq,Int.reduceToNat,Int.reduceLT,Int.reduceLE,Int.reduceEq]
theorem okSlice_1 (n : Nat) (m : Im) (at' x y z : Int) (h3 : m.bx.length = 2) (hs : m.bx.length ≤ m.st.length) (k : Nat) (v : Int) (he : elt m.bx [at',x,0] m.st 0 = k) (hv : m.dt[k]? = some v) :
    callP (level E (n+3)) 87 ([] ++ [enP [x,y,z]] ++ [.ptr [.int .i64 m.kd,enB m.bb m.bx,slD m.tb 1 (m.st.map ic),slD m.db 1 (m.dt.map ub)],.ptr [.int .i64 0],.ptr [.int .i64 at']]) = some (.int .u64 v):=by
  show callP (level E (n+3)) 87 [enP [x,y,z],.ptr [.int .i64 m.kd,enB m.bb m.bx,slD m.tb 1 (m.st.map ic),slD m.db 1 (m.dt.map ub)],.ptr [.int .i64 0],.ptr [.int .i64 at']] = _
  rw [p87]
  have c1:=okCloneI (n+1) false [x] (by simp)
  simp only [clV,clO,slD,List.map_cons,List.map_nil,ic] at c1
  have i1:=okIns (n+1) [[.int .i64 x]] 0 (.int .i64 at') (by simp) (by simp)
  have o1:=okOf (n+1) false [at',x] (by simp)
  simp only [List.map_cons,List.map_nil,ic,slD] at o1
  have v1:=okViewAt n m [at',x,0] k v rfl (by omega) hs he hv
  have e2 : (m.bx.length : Int) = 2:=by omega
  simp only [enIm,enP,List.map_cons,List.map_nil] at v1
  have w21 : wrp .i64 (2 - 1) = 1:=by decide
  simp only [enP,go_sem,Nat.reduceAdd,Nat.reduceSub,Nat.reduceMul,Nat.reduceDiv,Nat.reduceMod,Nat.reduceLeDiff,Nat.reduceLT,Nat.reduceBEq,Int.reduceToNat,Int.reduceLT,Int.reduceLE,Int.reduceEq] at o1
  simp only [go_sem,Nat.reduceAdd,Nat.reduceSub,Nat.reduceMul,Nat.reduceDiv,Nat.reduceMod,Nat.reduceLeDiff,Nat.reduceLT,Nat.reduceBEq,Int.reduceToNat,Int.reduceLT,Int.reduceLE,Int.reduceEq] at i1
  simp only [go_sem,Nat.reduceAdd,Nat.reduceSub,Nat.reduceMul,Nat.reduceDiv,Nat.reduceMod,Nat.reduceLeDiff,Nat.reduceLT,Nat.reduceBEq,Int.reduceToNat,Int.reduceLT,Int.reduceLE,Int.reduceEq,enP,e2,w21,c1,i1,o1,v1]
theorem okSlice2 (n : Nat) (m : Im) (r s : Rg) (hb : m.bx = [r,s]) (at' : Int) (h1 : callP (level E (n+9)) 48 [enIm m] = some (.int .i64 0)) (hs : m.st.length = 2) (hk : ckBox m.bx = 0) (g1 : at' ≥ r.lo) (g2 : at' ≤ r.lo + r.ex - 1)
    (N : Nat) (hN : many [s] = N) (hN2 : N < 1000000) (F : List Int → Int) (hF : ∀ i,i < N → ∃ x y z k,plc [s] i = [x,y,z] ∧ elt m.bx [at',x,0] m.st 0 = (k : Nat) ∧ m.dt[k]? = some (F [x,y,z])) :
    callP (level E (n+10)) 46 [enIm m,.int .i64 0,.int .i64 at'] = some (.tup [enIm (mkIm m.kd [s] N F),.int .i64 0]):=by
  obtain ⟨_,_,hr,_⟩:=ckBox0 hk
  have hr0:=ckRange0 (hr r (by rw [hb]; simp))
  rw [p46]
  have f1:=okFirstL (n+8) [[.int .i64 0],[.int .i64 0],[.int .i64 0]] [0,0,0] rfl (by simp)
  simp only [fnz,if_true] at f1
  have w1:=okWhen (n+8) false 13
  have w2:=okWhen (n+8) false 3
  have i1:=okWithin (n+8) 0 0 1
  have i2:=okWithin (n+8) at' r.lo (r.lo + r.ex - 1)
  have c1:=okCloneB (n+8) m.bb [r,s] (by simp)
  have e1 : clV m.bb 2 ([r,s].map enR) = .ref 0 2 0 2:=by cases m.bb <;> rfl
  have e2 : clO 2 ([r,s].map enR) = [.arr 2 [enR r,enR s]]:=rfl
  rw [e1,e2] at c1
  have d1:=okDel20 (n+8) r s
  have k1:=okCollect (n+5) m.kd false [s] 87 [] [.ptr [.int .i64 m.kd,enB m.bb m.bx,slD m.tb 1 (m.st.map ic),slD m.db 1 (m.dt.map ub)],.ptr [.int .i64 0],.ptr [.int .i64 at']] F (by simp) (by simp) N hN hN2 (fun i hi => by
    obtain ⟨x,y,z,k,q1,q2,q3⟩:=hF i hi
    rw [q1]
    exact okSlice_1 (n+3) m at' x y z (by rw [hb]; rfl) (by rw [hb,hs]; exact Nat.le_refl _) k _ q2 q3)
  have w21 : wrp .i64 (2 - 1) = 1:=by decide
  have w01 : wrp .i64 (0 + 1) = 1:=by decide
  have w3 : wrp .i64 (r.lo + r.ex) = r.lo + r.ex:=wrp_ok (by omega)
  have w4 : wrp .i64 (r.lo + r.ex - 1) = r.lo + r.ex - 1:=wrp_ok (by omega)
  have eb : enB false [s] = .sl 2 [enR s]:=rfl
  simp only [enIm,hb,go_sem,Nat.reduceAdd,Nat.reduceSub,Nat.reduceMul,Nat.reduceDiv,Nat.reduceMod,Nat.reduceLeDiff,Nat.reduceLT,Nat.reduceBEq,Int.reduceToNat,Int.reduceLT,Int.reduceLE,Int.reduceEq,enB,slD_c] at h1 k1 c1 d1 i1 i2
  have g1' : r.lo ≤ at':=g1
  simp only [ge_iff_le,g1',g2,go_sem,Nat.reduceAdd,Nat.reduceSub,Nat.reduceMul,Nat.reduceDiv,Nat.reduceMod,Nat.reduceLeDiff,Nat.reduceLT,Nat.reduceBEq,Int.reduceToNat,Int.reduceLT,Int.reduceLE,Int.reduceEq] at i1 i2
  simp only [enIm,hb,go_sem,Nat.reduceAdd,Nat.reduceSub,Nat.reduceMul,Nat.reduceDiv,Nat.reduceMod,Nat.reduceLeDiff,Nat.reduceLT,Nat.reduceBEq,Int.reduceToNat,Int.reduceLT,Int.reduceLE,Int.reduceEq,h1,f1,w1,w2,i1,i2,c1,d1,w21,w01,w3,w4,ge_iff_le,ne_eq,not_true_eq_false,enB,slD_c,ia_sl,k1,mkIm]
  done
end Go.Vm.P4D

/- Chapter 04,functions: Transpose (the first two dimensions of a plane). -/
set_option maxRecDepth 100000
set_option maxHeartbeats 4000000
namespace Go.Vm.P4D
open Go Go.Vm Go.Vm.P4
theorem okTranspose_1 (n : Nat) (m : Im) (x y z : Int) (h3 : m.bx.length ≤ 3) (hs : m.bx.length ≤ m.st.length) (k : Nat) (v : Int) (he : elt m.bx [y,x,z] m.st 0 = k) (hv : m.dt[k]? = some v) :
    callP (level E (n+3)) 67 ([] ++ [enP [x,y,z]] ++ [.ptr [.int .i64 1],.ptr [.int .i64 0],.ptr [.int .i64 m.kd,enB m.bb m.bx,slD m.tb 1 (m.st.map ic),slD m.db 1 (m.dt.map ub)]]) = some (.int .u64 v):=by
  show callP (level E (n+3)) 67 [enP [x,y,z],.ptr [.int .i64 1],.ptr [.int .i64 0],.ptr [.int .i64 m.kd,enB m.bb m.bx,slD m.tb 1 (m.st.map ic),slD m.db 1 (m.dt.map ub)]] = _
  rw [p67]
  have v1:=okViewAt n m [y,x,z] k v rfl h3 hs he hv
  simp only [enIm,enP,List.map_cons,List.map_nil] at v1
  simp only [go_sem,Nat.reduceAdd,Nat.reduceSub,Nat.reduceMul,Nat.reduceDiv,Nat.reduceMod,Nat.reduceLeDiff,Nat.reduceLT,Nat.reduceBEq,Int.reduceToNat,Int.reduceLT,Int.reduceLE,Int.reduceEq,enP,v1]
  done
theorem okTranspose2 (n : Nat) (m : Im) (r s : Rg) (hb : m.bx = [r,s]) (h1 : callP (level E (n+9)) 48 [enIm m] = some (.int .i64 0)) (hs : m.st.length = 2)
    (N : Nat) (hN : many [s,r] = N) (hN2 : N < 1000000) (F : List Int → Int) (hF : ∀ i,i < N → ∃ x y z k,plc [s,r] i = [x,y,z] ∧ elt m.bx [y,x,z] m.st 0 = (k : Nat) ∧ m.dt[k]? = some (F [x,y,z])) :
    callP (level E (n+10)) 18 [enIm m,.int .i64 0,.int .i64 1] = some (.tup [enIm (mkIm m.kd [s,r] N F),.int .i64 0]):=by
  rw [p18]
  have f1:=okFirstL (n+8) [[.int .i64 0],[.int .i64 0],[.int .i64 0]] [0,0,0] rfl (by simp)
  simp only [fnz,if_true] at f1
  have w2:=okWhen (n+8) false 3
  have i1:=okWithin (n+8) 0 0 1
  have i2:=okWithin (n+8) 1 0 1
  have c1:=okCloneB (n+8) m.bb [r,s] (by simp)
  have e1 : clV m.bb 2 ([r,s].map enR) = .ref 0 2 0 2:=by cases m.bb <;> rfl
  have e2 : clO 2 ([r,s].map enR) = [.arr 2 [enR r,enR s]]:=rfl
  rw [e1,e2] at c1
  have k1:=okCollect (n+5) m.kd false [s,r] 67 [] [.ptr [.int .i64 1],.ptr [.int .i64 0],.ptr [.int .i64 m.kd,enB m.bb m.bx,slD m.tb 1 (m.st.map ic),slD m.db 1 (m.dt.map ub)]] F (by simp) (by simp) N hN hN2 (fun i hi => by
    obtain ⟨x,y,z,k,q1,q2,q3⟩:=hF i hi
    rw [q1]
    exact okTranspose_1 (n+3) m x y z (by rw [hb]; simp) (by rw [hb,hs]; exact Nat.le_refl _) k _ q2 q3)
  have w21 : wrp .i64 (2 - 1) = 1:=by decide
  simp only [enIm,hb,go_sem,Nat.reduceAdd,Nat.reduceSub,Nat.reduceMul,Nat.reduceDiv,Nat.reduceMod,Nat.reduceLeDiff,Nat.reduceLT,Nat.reduceBEq,Int.reduceToNat,Int.reduceLT,Int.reduceLE,Int.reduceEq,enB,slD_c] at h1 k1 c1 i1 i2
  simp only [ge_iff_le,go_sem,Nat.reduceAdd,Nat.reduceSub,Nat.reduceMul,Nat.reduceDiv,Nat.reduceMod,Nat.reduceLeDiff,Nat.reduceLT,Nat.reduceBEq,Int.reduceToNat,Int.reduceLT,Int.reduceLE,Int.reduceEq] at i1 i2
  simp only [enIm,hb,go_sem,Nat.reduceAdd,Nat.reduceSub,Nat.reduceMul,Nat.reduceDiv,Nat.reduceMod,Nat.reduceLeDiff,Nat.reduceLT,Nat.reduceBEq,Int.reduceToNat,Int.reduceLT,Int.reduceLE,Int.reduceEq,h1,f1,w2,i1,i2,c1,w21,ge_iff_le,ne_eq,not_true_eq_false,enB,slD_c,ia_sl,k1,mkIm]
  done
end Go.Vm.P4D

/- Chapter 04,functions: Edge. -/
set_option maxRecDepth 100000
set_option maxHeartbeats 4000000
namespace Go.Vm.P4D
open Go Go.Vm Go.Vm.P4
def modW (a b : Int) : Int:=(ad (a.tmod b) b).tmod b
theorem okModulo (n : Nat) (a b : Int) (hb : b ≠ 0) : callP (level E (n+1)) 130 [.int .i64 a,.int .i64 b] = some (.int .i64 (modW a b)):=by
  rw [p130]
  simp only [go_sem,Nat.reduceAdd,Nat.reduceSub,Nat.reduceMul,Nat.reduceDiv,Nat.reduceMod,Nat.reduceLeDiff,Nat.reduceLT,Nat.reduceBEq,Int.reduceToNat,Int.reduceLT,Int.reduceLE,Int.reduceEq,hb,modW,ad,ne_eq,not_false_eq_true]
def inW : Nat → Rg → Int → Int
  | 0,r,c => min (max c r.lo) (sb (ad r.lo r.ex) 1)
  | 1,r,c => ad r.lo (modW (sb c r.lo) r.ex)
  | _,r,c => ad r.lo (min (modW (sb c r.lo) (ml 2 r.ex)) (sb (sb (ml 2 r.ex) 1) (modW (sb c r.lo) (ml 2 r.ex))))
def bF : Nat → FuncId
  | 0 => 128
  | 1 => 129
  | _ => 131
theorem okBound (n : Nat) (rule : Nat) (r : Rg) (c : Int) (h1 : r.ex ≠ 0) (h2 : ml 2 r.ex ≠ 0) : callP (level E (n+2)) (bF rule) [enRD r,.int .i64 c] = some (.int .i64 (inW rule r c)):=by
  match rule with
  | 0 =>
    show callP (level E (n+2)) 128 [enRD r,.int .i64 c] = _
    rw [p128]
    simp only [go_sem,Nat.reduceAdd,Nat.reduceSub,Nat.reduceMul,Nat.reduceDiv,Nat.reduceMod,Nat.reduceLeDiff,Nat.reduceLT,Nat.reduceBEq,Int.reduceToNat,Int.reduceLT,Int.reduceLE,Int.reduceEq,inW,ad,sb]
  | 1 =>
    show callP (level E (n+2)) 129 [enRD r,.int .i64 c] = _
    rw [p129]
    have m1:=okModulo n (sb c r.lo) r.ex h1
    simp only [sb] at m1
    simp only [go_sem,Nat.reduceAdd,Nat.reduceSub,Nat.reduceMul,Nat.reduceDiv,Nat.reduceMod,Nat.reduceLeDiff,Nat.reduceLT,Nat.reduceBEq,Int.reduceToNat,Int.reduceLT,Int.reduceLE,Int.reduceEq,inW,ad,sb,m1]
  | k + 2 =>
    show callP (level E (n+2)) 131 [enRD r,.int .i64 c] = _
    rw [p131]
    have m1:=okModulo n (sb c r.lo) (ml 2 r.ex) h2
    simp only [sb,ml] at m1
    simp only [go_sem,Nat.reduceAdd,Nat.reduceSub,Nat.reduceMul,Nat.reduceDiv,Nat.reduceMod,Nat.reduceLeDiff,Nat.reduceLT,Nat.reduceBEq,Int.reduceToNat,Int.reduceLT,Int.reduceLE,Int.reduceEq,inW,ad,sb,ml,m1]
theorem okMoved (n : Nat) (b c : Bool) (rule : Nat) (hr : rule < 3) (l : Bx) (p : List Int) (h3 : l.length ≤ 3) (hp : p.length = l.length) (inn : Rg → Int → Int) (H : ∀ r ∈ l,∀ c,callP (level E n) (bF rule) [enRD r,.int .i64 c] = some (.int .i64 (inn r c))) :
    callP (level E (n+1)) 74 [enB b l,.int .i64 rule,slD c 1 (p.map ic)] = some (enP ((List.zipWith inn l p ++ [0,0,0]).take 3)):=by
  rw [p74]
  rcases l with _ | ⟨r,_ | ⟨s,_ | ⟨t,_ | ⟨u,l⟩⟩⟩⟩
  · rcases p with _ | ⟨x,p⟩
    · simp only [go_sem,Nat.reduceAdd,Nat.reduceSub,Nat.reduceMul,Nat.reduceDiv,Nat.reduceMod,Nat.reduceLeDiff,Nat.reduceLT,Nat.reduceBEq,Int.reduceToNat,Int.reduceLT,Int.reduceLE,Int.reduceEq,rnd_eq,enP,List.zipWith_nil_left]
    · simp at hp
  · rcases p with _ | ⟨x,_ | ⟨w,p⟩⟩
    · simp at hp
    · have H0:=H r (by simp) x
      match rule,hr with
      | 0,_ =>
        simp only [bF,go_sem,Nat.reduceAdd,Nat.reduceSub,Nat.reduceMul,Nat.reduceDiv,Nat.reduceMod,Nat.reduceLeDiff,Nat.reduceLT,Nat.reduceBEq,Int.reduceToNat,Int.reduceLT,Int.reduceLE,Int.reduceEq] at H0
        simp only [go_sem,Nat.reduceAdd,Nat.reduceSub,Nat.reduceMul,Nat.reduceDiv,Nat.reduceMod,Nat.reduceLeDiff,Nat.reduceLT,Nat.reduceBEq,Int.reduceToNat,Int.reduceLT,Int.reduceLE,Int.reduceEq,rnd_eq,enP,List.zipWith_cons_cons,List.zipWith_nil_left,enB,slD_c,ia_sl,H0]
      | 1,_ =>
        simp only [bF,go_sem,Nat.reduceAdd,Nat.reduceSub,Nat.reduceMul,Nat.reduceDiv,Nat.reduceMod,Nat.reduceLeDiff,Nat.reduceLT,Nat.reduceBEq,Int.reduceToNat,Int.reduceLT,Int.reduceLE,Int.reduceEq] at H0
        simp only [go_sem,Nat.reduceAdd,Nat.reduceSub,Nat.reduceMul,Nat.reduceDiv,Nat.reduceMod,Nat.reduceLeDiff,Nat.reduceLT,Nat.reduceBEq,Int.reduceToNat,Int.reduceLT,Int.reduceLE,Int.reduceEq,rnd_eq,enP,List.zipWith_cons_cons,List.zipWith_nil_left,enB,slD_c,ia_sl,H0]
      | 2,_ =>
        simp only [bF,go_sem,Nat.reduceAdd,Nat.reduceSub,Nat.reduceMul,Nat.reduceDiv,Nat.reduceMod,Nat.reduceLeDiff,Nat.reduceLT,Nat.reduceBEq,Int.reduceToNat,Int.reduceLT,Int.reduceLE,Int.reduceEq] at H0
        simp only [go_sem,Nat.reduceAdd,Nat.reduceSub,Nat.reduceMul,Nat.reduceDiv,Nat.reduceMod,Nat.reduceLeDiff,Nat.reduceLT,Nat.reduceBEq,Int.reduceToNat,Int.reduceLT,Int.reduceLE,Int.reduceEq,rnd_eq,enP,List.zipWith_cons_cons,List.zipWith_nil_left,enB,slD_c,ia_sl,H0]
    · simp at hp
  · rcases p with _ | ⟨x,_ | ⟨y,_ | ⟨w,p⟩⟩⟩
    · simp at hp
    · simp at hp
    · have H0:=H r (by simp) x
      have H1:=H s (by simp) y
      match rule,hr with
      | 0,_ =>
        simp only [bF,go_sem,Nat.reduceAdd,Nat.reduceSub,Nat.reduceMul,Nat.reduceDiv,Nat.reduceMod,Nat.reduceLeDiff,Nat.reduceLT,Nat.reduceBEq,Int.reduceToNat,Int.reduceLT,Int.reduceLE,Int.reduceEq] at H0 H1
        simp only [go_sem,Nat.reduceAdd,Nat.reduceSub,Nat.reduceMul,Nat.reduceDiv,Nat.reduceMod,Nat.reduceLeDiff,Nat.reduceLT,Nat.reduceBEq,Int.reduceToNat,Int.reduceLT,Int.reduceLE,Int.reduceEq,rnd_eq,enP,List.zipWith_cons_cons,List.zipWith_nil_left,enB,slD_c,ia_sl,H0,H1]
      | 1,_ =>
        simp only [bF,go_sem,Nat.reduceAdd,Nat.reduceSub,Nat.reduceMul,Nat.reduceDiv,Nat.reduceMod,Nat.reduceLeDiff,Nat.reduceLT,Nat.reduceBEq,Int.reduceToNat,Int.reduceLT,Int.reduceLE,Int.reduceEq] at H0 H1
        simp only [go_sem,Nat.reduceAdd,Nat.reduceSub,Nat.reduceMul,Nat.reduceDiv,Nat.reduceMod,Nat.reduceLeDiff,Nat.reduceLT,Nat.reduceBEq,Int.reduceToNat,Int.reduceLT,Int.reduceLE,Int.reduceEq,rnd_eq,enP,List.zipWith_cons_cons,List.zipWith_nil_left,enB,slD_c,ia_sl,H0,H1]
      | 2,_ =>
        simp only [bF,go_sem,Nat.reduceAdd,Nat.reduceSub,Nat.reduceMul,Nat.reduceDiv,Nat.reduceMod,Nat.reduceLeDiff,Nat.reduceLT,Nat.reduceBEq,Int.reduceToNat,Int.reduceLT,Int.reduceLE,Int.reduceEq] at H0 H1
        simp only [go_sem,Nat.reduceAdd,Nat.reduceSub,Nat.reduceMul,Nat.reduceDiv,Nat.reduceMod,Nat.reduceLeDiff,Nat.reduceLT,Nat.reduceBEq,Int.reduceToNat,Int.reduceLT,Int.reduceLE,Int.reduceEq,rnd_eq,enP,List.zipWith_cons_cons,List.zipWith_nil_left,enB,slD_c,ia_sl,H0,H1]
    · simp at hp
  · rcases p with _ | ⟨x,_ | ⟨y,_ | ⟨z,_ | ⟨w,p⟩⟩⟩⟩
    · simp at hp
    · simp at hp
    · simp at hp
    · have H0:=H r (by simp) x
      have H1:=H s (by simp) y
      have H2:=H t (by simp) z
      match rule,hr with
      | 0,_ =>
        simp only [bF,go_sem,Nat.reduceAdd,Nat.reduceSub,Nat.reduceMul,Nat.reduceDiv,Nat.reduceMod,Nat.reduceLeDiff,Nat.reduceLT,Nat.reduceBEq,Int.reduceToNat,Int.reduceLT,Int.reduceLE,Int.reduceEq] at H0 H1 H2
        simp only [go_sem,Nat.reduceAdd,Nat.reduceSub,Nat.reduceMul,Nat.reduceDiv,Nat.reduceMod,Nat.reduceLeDiff,Nat.reduceLT,Nat.reduceBEq,Int.reduceToNat,Int.reduceLT,Int.reduceLE,Int.reduceEq,rnd_eq,enP,List.zipWith_cons_cons,List.zipWith_nil_left,enB,slD_c,ia_sl,H0,H1,H2]
      | 1,_ =>
        simp only [bF,go_sem,Nat.reduceAdd,Nat.reduceSub,Nat.reduceMul,Nat.reduceDiv,Nat.reduceMod,Nat.reduceLeDiff,Nat.reduceLT,Nat.reduceBEq,Int.reduceToNat,Int.reduceLT,Int.reduceLE,Int.reduceEq] at H0 H1 H2
        simp only [go_sem,Nat.reduceAdd,Nat.reduceSub,Nat.reduceMul,Nat.reduceDiv,Nat.reduceMod,Nat.reduceLeDiff,Nat.reduceLT,Nat.reduceBEq,Int.reduceToNat,Int.reduceLT,Int.reduceLE,Int.reduceEq,rnd_eq,enP,List.zipWith_cons_cons,List.zipWith_nil_left,enB,slD_c,ia_sl,H0,H1,H2]
      | 2,_ =>
        simp only [bF,go_sem,Nat.reduceAdd,Nat.reduceSub,Nat.reduceMul,Nat.reduceDiv,Nat.reduceMod,Nat.reduceLeDiff,Nat.reduceLT,Nat.reduceBEq,Int.reduceToNat,Int.reduceLT,Int.reduceLE,Int.reduceEq] at H0 H1 H2
        simp only [go_sem,Nat.reduceAdd,Nat.reduceSub,Nat.reduceMul,Nat.reduceDiv,Nat.reduceMod,Nat.reduceLeDiff,Nat.reduceLT,Nat.reduceBEq,Int.reduceToNat,Int.reduceLT,Int.reduceLE,Int.reduceEq,rnd_eq,enP,List.zipWith_cons_cons,List.zipWith_nil_left,enB,slD_c,ia_sl,H0,H1,H2]
    · simp at hp
  · simp at h3
theorem okEdge_1 (n : Nat) (x : Int) : callP (level E (n+2)) 71 [.int .i64 x] = some (.bool (!(decide (x ≥ -1048576) && decide (x ≤ 1048576)))):=by
  rw [p71]
  have h1:=okWithin n x (-1048576) 1048576
  simp only [go_sem,Nat.reduceAdd,Nat.reduceSub,Nat.reduceMul,Nat.reduceDiv,Nat.reduceMod,Nat.reduceLeDiff,Nat.reduceLT,Nat.reduceBEq,Int.reduceToNat,Int.reduceLT,Int.reduceLE,Int.reduceEq,h1]
def farB (x : Int) : Bool:=!(decide (x ≥ -1048576) && decide (x ≤ 1048576))
theorem okEdgeS (n : Nat) (m : Im) (c : Bool) (p : List Int) (rule : Nat) (hr : rule < 3) (ko vo : Int) (h1 : callP (level E (n+9)) 48 [enIm m] = some (.int .i64 0)) (hm : ckBox m.bx = 0) (hs : m.st.length = m.bx.length) (hp : p.length = m.bx.length) (hf : p.any farB = false) (hmn : many m.bx ≠ 0) (hx : ∀ r ∈ m.bx,r.ex ≠ 0 ∧ ml 2 r.ex ≠ 0)
    (k : Nat) (v : Int) (he : elt m.bx ((List.zipWith (inW rule) m.bx p ++ [0,0,0]).take 3) m.st 0 = k) (hv : m.dt[k]? = some v) :
    callP (level E (n+10)) 22 [enIm m,.int .i64 rule,slD c 1 (p.map ic),.agg [.int .i64 ko,.int .u64 vo]] = some (.tup [.agg [.int .i64 m.kd,.int .u64 v],.int .i64 0]):=by
  obtain ⟨_,r2,_,_⟩:=ckBox0 hm
  rw [p22]
  have f1:=okFirstL (n+8) [[.int .i64 0],[.int .i64 0],[.int .i64 0]] [0,0,0] rfl (by simp)
  simp only [fnz,if_true] at f1
  have w1:=okWhen (n+8) false 11
  have w2:=okWhen (n+8) false 13
  have i1:=okWithin (n+8) rule 0 3
  have g1 : decide ((rule : Int) ≥ 0) = true:=by simp
  have g2 : decide ((rule : Int) ≤ 3) = true:=by simp; omega
  rw [g1,g2] at i1
  have c1:=okContains (n+7) c p 71 farB (by omega) (fun x _ => okEdge_1 (n+5) x)
  rw [hf] at c1
  have m1:=okMany (n+8) m.bb m.bx (by omega)
  have mv:=okMoved (n+8) m.bb c rule hr m.bx p r2 hp (inW rule) (fun r hr' x => okBound (n+6) rule r x (hx r hr').1 (hx r hr').2)
  have v1:=okViewAt (n+7) m ((List.zipWith (inW rule) m.bx p ++ [0,0,0]).take 3) k v (by simp) r2 (by omega) he hv
  have hr3 : ¬ (rule : Int) = 3:=by omega
  simp only [enIm] at h1 v1
  obtain ⟨x,y,z,hq⟩ : ∃ x y z,(List.zipWith (inW rule) m.bx p ++ [0,0,0]).take 3 = [x,y,z]:=by
    match hh : (List.zipWith (inW rule) m.bx p ++ [0,0,0]).take 3,(show ((List.zipWith (inW rule) m.bx p ++ [0,0,0]).take 3).length = 3 from by simp) with
    | [x,y,z],_ => exact ⟨x,y,z,rfl⟩
  rw [hq] at mv v1
  simp only [enP,List.map_cons,List.map_nil] at mv v1
  simp only [go_sem,Nat.reduceAdd,Nat.reduceSub,Nat.reduceMul,Nat.reduceDiv,Nat.reduceMod,Nat.reduceLeDiff,Nat.reduceLT,Nat.reduceBEq,Int.reduceToNat,Int.reduceLT,Int.reduceLE,Int.reduceEq,enIm,h1,f1,w1,w2,i1,c1,hp,m1,hmn,hr3,mv,v1,ne_eq,not_true_eq_false]
end Go.Vm.P4D

/- Chapter 04,functions: the bytes of an image. -/
set_option maxRecDepth 100000
set_option maxHeartbeats 4000000
namespace Go.Vm.P4D
open Go Go.Vm Go.Vm.P4
def u8 (b : Int) : List D:=[.int .u8 b]
attribute [go_sem] u8
def leB : Nat → Int → List Int
  | 0,_ => []
  | k + 1,v => wrp .u8 v :: leB k (v.fdiv 256)
theorem p256 : (2 : Int) ^ min (8 : Int).toNat IntKind.u64.bits = 256:=by decide
theorem sh8 (v : Int) : aBin .shr (.imm (.int .u64 v)) (.imm (.int .u64 8)) = some (.imm (.int .u64 (v.fdiv 256))):=by
  rw [bin_shr (by decide),p256]
theorem okLittle1 (n : Nat) (es : List (List D)) (v : Int) (h : es.length < 1000000) : callS (level E (n+1)) 91 [.ref 0 1 0 es.length,.imm (.int .u64 v),.imm (.int .i64 1)] [.arr 1 es] = some (.ref 1 1 0 (es.length + 1),[.dead,.arr 1 (es ++ (leB 1 v).map u8)]):=by
  rw [s91]
  have e1 : (es.length + 1) * 2 ≤ 70368744177664:=by omega
  simp only [go_sem,Nat.reduceAdd,Nat.reduceSub,Nat.reduceMul,Nat.reduceDiv,Nat.reduceMod,Nat.reduceLeDiff,Nat.reduceLT,Nat.reduceBEq,Int.reduceToNat,Int.reduceLT,Int.reduceLE,Int.reduceEq,rnd_eq,e1,leB,sh8,List.append_assoc]
theorem okLittle2 (n : Nat) (es : List (List D)) (v : Int) (h : es.length < 1000000) : callS (level E (n+1)) 91 [.ref 0 1 0 es.length,.imm (.int .u64 v),.imm (.int .i64 2)] [.arr 1 es] = some (.ref 1 1 0 (es.length + 2),[.dead,.arr 1 (es ++ (leB 2 v).map u8)]):=by
  rw [s91]
  have e1 : (es.length + 1) * 2 ≤ 70368744177664:=by omega
  have e2 : (es.length + 2) * 2 ≤ 70368744177664:=by omega
  simp only [go_sem,Nat.reduceAdd,Nat.reduceSub,Nat.reduceMul,Nat.reduceDiv,Nat.reduceMod,Nat.reduceLeDiff,Nat.reduceLT,Nat.reduceBEq,Int.reduceToNat,Int.reduceLT,Int.reduceLE,Int.reduceEq,rnd_eq,e1,e2,leB,sh8,List.append_assoc]
theorem okLittle4 (n : Nat) (es : List (List D)) (v : Int) (h : es.length < 1000000) : callS (level E (n+1)) 91 [.ref 0 1 0 es.length,.imm (.int .u64 v),.imm (.int .i64 4)] [.arr 1 es] = some (.ref 1 1 0 (es.length + 4),[.dead,.arr 1 (es ++ (leB 4 v).map u8)]):=by
  rw [s91]
  have e1 : (es.length + 1) * 2 ≤ 70368744177664:=by omega
  have e2 : (es.length + 2) * 2 ≤ 70368744177664:=by omega
  have e3 : (es.length + 3) * 2 ≤ 70368744177664:=by omega
  have e4 : (es.length + 4) * 2 ≤ 70368744177664:=by omega
  simp only [go_sem,Nat.reduceAdd,Nat.reduceSub,Nat.reduceMul,Nat.reduceDiv,Nat.reduceMod,Nat.reduceLeDiff,Nat.reduceLT,Nat.reduceBEq,Int.reduceToNat,Int.reduceLT,Int.reduceLE,Int.reduceEq,rnd_eq,e1,e2,e3,e4,leB,sh8,List.append_assoc]
end Go.Vm.P4D

/- Chapter 04,functions: the bytes of an image,continued. -/
set_option maxRecDepth 100000
set_option maxHeartbeats 4000000
namespace Go.Vm.P4D
open Go Go.Vm Go.Vm.P4
def cellsIm (m : Im) : List D:=[.int .i64 m.kd,enB m.bb m.bx,slD m.tb 1 (m.st.map ic),slD m.db 1 (m.dt.map ub)]
def rgB (r : Rg) : List Int:=leB 4 (wrp .u64 r.lo) ++ leB 2 (wrp .u64 r.ex)
theorem rgB_len (r : Rg) : (rgB r).length = 6:=rfl
theorem byLoop (n : Nat) (m : Im) (h3 : m.bx.length ≤ 3) (acc : List (List D)) (ha : acc.length = 2) :
    outC ⟨0,false⟩ [0,1,1,1,0,0,0,0,0,0,0,0,0] (rnd (aCode (level E (n+1)) ⟨0,false⟩ b50_0) (head ⟨0,false⟩ [0,1,1,1,0,0,1,1,1,0,0,0,0])
      ⟨[.junk,.imm .nil,.imm (.ptr (cellsIm m)),.ptr 0 0,.junk,.junk,.imm (slD m.bb 2 (m.bx.map enR)),.imm (.int .i64 m.bx.length),.imm (.int .i64 0),.junk,.junk,.junk,.junk],[.box [.ref 1 1 0 acc.length],.arr 1 acc],none⟩) =
    some (.exit 0,⟨[.junk,.imm .nil,.imm (.ptr (cellsIm m)),.ptr 0 0,.junk,.junk,.junk,.junk,.junk,.junk,.junk,.junk,.junk],[.box [.ref 1 1 0 (acc ++ (m.bx.flatMap rgB).map u8).length],.arr 1 (acc ++ (m.bx.flatMap rgB).map u8)],none⟩):=by
  have h:=loop_fold (f:=aCode (level E (n+1)) ⟨0,false⟩ b50_0) (h:=head ⟨0,false⟩ [0,1,1,1,0,0,1,1,1,0,0,0,0]) (Φ:=outC ⟨0,false⟩ [0,1,1,1,0,0,0,0,0,0,0,0,0]) m.bx (fun (a : List (List D)) i => ⟨[.junk,.imm .nil,.imm (.ptr (cellsIm m)),.ptr 0 0,.junk,.junk,.imm (slD m.bb 2 (m.bx.map enR)),.imm (.int .i64 m.bx.length),.imm (.int .i64 i),.junk,.junk,.junk,.junk],[.box [.ref 1 1 0 a.length],.arr 1 a],none⟩) (fun a i => a.length = 2 + 6 * i)
    (fun a r => a ++ (rgB r).map u8) (fun a => some (.exit 0,⟨[.junk,.imm .nil,.imm (.ptr (cellsIm m)),.ptr 0 0,.junk,.junk,.junk,.junk,.junk,.junk,.junk,.junk,.junk],[.box [.ref 1 1 0 a.length],.arr 1 a],none⟩)) acc ha
    (fun a i r hI h2 h1 => by
      refine ⟨?_,by simp [hI,rgB_len]; omega⟩
      rw [rnd_eq]
      have l4:=okLittle4 n a (wrp .u64 r.lo) (by omega)
      have l2:=okLittle2 n (a ++ (leB 4 (wrp .u64 r.lo)).map u8) (wrp .u64 r.ex) (by simp [leB]; omega)
      simp only [go_sem,Nat.reduceAdd,Nat.reduceSub,Nat.reduceMul,Nat.reduceDiv,Nat.reduceMod,Nat.reduceLeDiff,Nat.reduceLT,Nat.reduceBEq,Int.reduceToNat,Int.reduceLT,Int.reduceLE,Int.reduceEq,leB] at l4 l2
      simp only [go_sem,Nat.reduceAdd,Nat.reduceSub,Nat.reduceMul,Nat.reduceDiv,Nat.reduceMod,Nat.reduceLeDiff,Nat.reduceLT,Nat.reduceBEq,Int.reduceToNat,Int.reduceLT,Int.reduceLE,Int.reduceEq,lt_t h2,h1,cellsIm,l4,l2,rgB,leB]
      rw [wrpS (by omega)]
      simp only [List.append_assoc,List.cons_append,List.nil_append])
    (fun a _ => by
      rw [rnd_eq]
      simp only [go_sem,Nat.reduceAdd,Nat.reduceSub,Nat.reduceMul,Nat.reduceDiv,Nat.reduceMod,Nat.reduceLeDiff,Nat.reduceLT,Nat.reduceBEq,Int.reduceToNat,Int.reduceLT,Int.reduceLE,Int.reduceEq,lt_f (Nat.le_refl _),cellsIm])
  rw [cast_0] at h
  rw [h]
  have e : ∀ (l : Bx) (acc : List (List D)),l.foldl (fun a r => a ++ (rgB r).map u8) acc = acc ++ (l.flatMap rgB).map u8:=by
    intro l
    induction l with
    | nil => intro acc; simp
    | cons x l ih => intro acc; rw [List.foldl_cons,ih]; simp
  rw [e]
def ByV (m : Im) : List AV:=[.junk,.imm .nil,.imm (.ptr (cellsIm m)),.ptr 0 0,.junk,.junk,.junk,.junk,.junk,.junk,.imm (.fn 95 [] [.ptr [enB m.bb m.bx]]),.junk,.junk]
def BySt (m : Im) (acc : List (List D)) : Ext:=⟨[11,12],b50_1,b50_2,ByV m,[.box [.ref 1 1 0 acc.length],.arr 1 acc],0,none⟩
theorem byRound1 (n : Nat) (m : Im) (acc : List (List D)) (i : Nat) (v : Int) (ha : acc.length < 1000000) (hv : callP (level E (n+1)) 62 [enIm m,enP (plc m.bx i)] = some (.int .u64 v)) (hz : callP (level E (n+1)) 60 [.int .i64 m.kd] = some (.int .i64 1)) :
    (level E (n+2)).round (BySt m acc) [.int .i64 (i : Int),enP (plc m.bx i)] = some (BySt m (acc ++ (leB 1 v).map u8),true):=by
  obtain ⟨x,y,z,hp⟩ : ∃ x y z,plc m.bx i = [x,y,z]:=by
    match hh : plc m.bx i,plc_len m.bx i with
    | [x,y,z],_ => exact ⟨x,y,z,rfl⟩
  rw [hp] at hv ⊢
  have l1:=okLittle1 n acc v ha
  simp only [go_sem,Nat.reduceAdd,Nat.reduceSub,Nat.reduceMul,Nat.reduceDiv,Nat.reduceMod,Nat.reduceLeDiff,Nat.reduceLT,Nat.reduceBEq,Int.reduceToNat,Int.reduceLT,Int.reduceLE,Int.reduceEq,leB] at l1
  simp only [enIm,enP,List.map_cons,List.map_nil] at hv
  unfold BySt
  rw [round_go rfl]
  simp only [go_sem,Nat.reduceAdd,Nat.reduceSub,Nat.reduceMul,Nat.reduceDiv,Nat.reduceMod,Nat.reduceLeDiff,Nat.reduceLT,Nat.reduceBEq,Int.reduceToNat,Int.reduceLT,Int.reduceLE,Int.reduceEq,ByV,cellsIm,enP,hv,hz,l1,leB,enIm]
  done
end Go.Vm.P4D

/- Chapter 04,functions: Encode (elements of a byte). -/
set_option maxRecDepth 100000
set_option maxHeartbeats 4000000
namespace Go.Vm.P4D
open Go Go.Vm Go.Vm.P4
theorem okWidth8 (n : Nat) : callP (level E (n+2)) 94 [.int .i64 1] = some (.tup [.int .i64 8,.int .i64 0]):=by
  rw [p94]
  have h1:=okIsKind n 1
  simp only [go_sem,Nat.reduceAdd,Nat.reduceSub,Nat.reduceMul,Nat.reduceDiv,Nat.reduceMod,Nat.reduceLeDiff,Nat.reduceLT,Nat.reduceBEq,Int.reduceToNat,Int.reduceLT,Int.reduceLE,Int.reduceEq] at h1
  simp only [go_sem,Nat.reduceAdd,Nat.reduceSub,Nat.reduceMul,Nat.reduceDiv,Nat.reduceMod,Nat.reduceLeDiff,Nat.reduceLT,Nat.reduceBEq,Int.reduceToNat,Int.reduceLT,Int.reduceLE,Int.reduceEq,h1]
theorem okSize8 (n : Nat) : callP (level E (n+3)) 60 [.int .i64 1] = some (.int .i64 1):=by
  rw [p60]
  have h1:=okWidth8 n
  have w8 : wrp .i64 (8 * 1) = 8:=by decide
  simp only [go_sem,Nat.reduceAdd,Nat.reduceSub,Nat.reduceMul,Nat.reduceDiv,Nat.reduceMod,Nat.reduceLeDiff,Nat.reduceLT,Nat.reduceBEq,Int.reduceToNat,Int.reduceLT,Int.reduceLE,Int.reduceEq,h1,rnd_eq,w8]
def byIm1 (m : Im) (N : Nat) (F : List Int → Int) : List Int:=[wrp .u8 m.kd,wrp .u8 m.bx.length] ++ m.bx.flatMap rgB ++ (List.range N).flatMap (fun i => leB 1 (F (plc m.bx i)))
theorem fold_app {α β : Type} (f : α → List β) : ∀ (l : List α) (acc : List β),l.foldl (fun a x => a ++ f x) acc = acc ++ l.flatMap f
  | [],acc => by simp
  | x :: l,acc => by simp only [List.foldl_cons,fold_app f l,List.flatMap_cons,List.append_assoc]
theorem okBytes1 (n : Nat) (m : Im) (h1 : m.bx.length ≤ 3) (hs : m.bx.length ≤ m.st.length) (hk : m.kd = 1) (N : Nat) (hN : many m.bx = N) (hN2 : N < 100000) (F : List Int → Int) (hF : Lies m m.bx N F) :
    callP (level E (n+8)) 50 [enIm m] = some (.sl 1 ((byIm1 m N F).map u8)):=by
  rw [p50]
  have b1:=byLoop (n+6) m h1 [[.int .u8 (wrp .u8 m.kd)],[.int .u8 (wrp .u8 m.bx.length)]] rfl
  have a1:=okAll (n+6) m.bb m.bx
  have h:=okAll1 (n+5) m.bb m.bx h1 N hN (by omega) (BySt m) (fun a i => a.length = 2 + 6 * m.bx.length + i) (fun a i => .inl (a ++ (leB 1 (F (plc m.bx i))).map u8)) ([[.int .u8 (wrp .u8 m.kd)],[.int .u8 (wrp .u8 m.bx.length)]] ++ (m.bx.flatMap rgB).map u8)
    (by
      have e : ∀ l : Bx,(l.flatMap rgB).length = 6 * l.length:=by
        intro l
        induction l with
        | nil => rfl
        | cons x l ih => rw [List.flatMap_cons,List.length_append,ih,rgB_len,List.length_cons]; omega
      simp [e]; omega)
    (fun a i hI hi => ⟨by
      obtain ⟨k,q1,q2⟩:=hF i hi
      exact byRound1 (n+4) m a i (F (plc m.bx i)) (by omega) (okViewAt (n+3) m (plc m.bx i) k _ (plc_len _ _) h1 hs q1 q2) (by rw [hk]; exact okSize8 (n+2)),fun a' ha => by injection ha with ha; subst ha; simp [hI,leB]; omega⟩)
  rw [runL_fold,fold_app] at h
  simp only [go_sem,Nat.reduceAdd,Nat.reduceSub,Nat.reduceMul,Nat.reduceDiv,Nat.reduceMod,Nat.reduceLeDiff,Nat.reduceLT,Nat.reduceBEq,Int.reduceToNat,Int.reduceLT,Int.reduceLE,Int.reduceEq,cellsIm] at b1
  simp only [go_sem,Nat.reduceAdd,Nat.reduceSub,Nat.reduceMul,Nat.reduceDiv,Nat.reduceMod,Nat.reduceLeDiff,Nat.reduceLT,Nat.reduceBEq,Int.reduceToNat,Int.reduceLT,Int.reduceLE,Int.reduceEq,enIm,b1,a1]
  simp only [go_sem,Nat.reduceAdd,Nat.reduceSub,Nat.reduceMul,Nat.reduceDiv,Nat.reduceMod,Nat.reduceLeDiff,Nat.reduceLT,Nat.reduceBEq,Int.reduceToNat,Int.reduceLT,Int.reduceLE,Int.reduceEq,BySt,ByV,cellsIm] at h
  rw [h]
  simp only [go_sem,Nat.reduceAdd,Nat.reduceSub,Nat.reduceMul,Nat.reduceDiv,Nat.reduceMod,Nat.reduceLeDiff,Nat.reduceLT,Nat.reduceBEq,Int.reduceToNat,Int.reduceLT,Int.reduceLE,Int.reduceEq]
  simp [byIm1,List.map_flatMap,u8]
theorem okEncode1 (n : Nat) (m : Im) (hc : callP (level E (n+9)) 48 [enIm m] = some (.int .i64 0)) (h1 : m.bx.length ≤ 3) (hs : m.bx.length ≤ m.st.length) (hk : m.kd = 1) (N : Nat) (hN : many m.bx = N) (hN2 : N < 100000) (F : List Int → Int) (hF : Lies m m.bx N F) :
    callP (level E (n+10)) 10 [enIm m] = some (.tup [.sl 1 ((byIm1 m N F).map u8),.int .i64 0]):=by
  rw [p10]
  have b1:=okBytes1 (n+1) m h1 hs hk N hN hN2 F hF
  simp only [enIm] at hc b1
  simp only [go_sem,Nat.reduceAdd,Nat.reduceSub,Nat.reduceMul,Nat.reduceDiv,Nat.reduceMod,Nat.reduceLeDiff,Nat.reduceLT,Nat.reduceBEq,Int.reduceToNat,Int.reduceLT,Int.reduceLE,Int.reduceEq,enIm,hc,b1,ne_eq,not_true_eq_false]
theorem okSameInts (n : Nat) (b c : Bool) (l : List Int) (hl : l.length < 1000000000) : callP (level E (n+1)) 43 [slD b 1 (l.map ic),slD c 1 (l.map ic)] = some (.bool true):=by
  rw [p43]
  simp only [go_sem,Nat.reduceAdd,Nat.reduceSub,Nat.reduceMul,Nat.reduceDiv,Nat.reduceMod,Nat.reduceLeDiff,Nat.reduceLT,Nat.reduceBEq,Int.reduceToNat,Int.reduceLT,Int.reduceLE,Int.reduceEq,ne_eq,not_true_eq_false]
  have h:=loop_fold (f:=aCode (level E (n)) ⟨0,false⟩ b43_0) (h:=head ⟨0,false⟩ [1,1,0,1,0,0,0]) (Φ:=outC ⟨0,false⟩ [0,0,1,0,0,0,0]) l (fun (a : Unit) i => ⟨[.imm (slD b 1 (l.map ic)),.imm (slD c 1 (l.map ic)),.junk,.imm (.int .i64 i),.junk,.junk,.junk],[],none⟩) (fun _ _ => True)
    (fun a x => ()) (fun a => some (.exit 0,⟨[.junk,.junk,.junk,.junk,.junk,.junk,.junk],[],none⟩)) () trivial
    (fun a i x hI h2 h1 => by
      refine ⟨?_,trivial⟩
      rw [rnd_eq]
      simp only [go_sem,Nat.reduceAdd,Nat.reduceSub,Nat.reduceMul,Nat.reduceDiv,Nat.reduceMod,Nat.reduceLeDiff,Nat.reduceLT,Nat.reduceBEq,Int.reduceToNat,Int.reduceLT,Int.reduceLE,Int.reduceEq,lt_t h2,h1,ne_eq,not_true_eq_false]
      rw [wrpS (by omega)])
    (fun a _ => by
      rw [rnd_eq]
      simp only [go_sem,Nat.reduceAdd,Nat.reduceSub,Nat.reduceMul,Nat.reduceDiv,Nat.reduceMod,Nat.reduceLeDiff,Nat.reduceLT,Nat.reduceBEq,Int.reduceToNat,Int.reduceLT,Int.reduceLE,Int.reduceEq,lt_f (Nat.le_refl _)])
  rw [cast_0] at h
  rw [h]
  simp only [go_sem,Nat.reduceAdd,Nat.reduceSub,Nat.reduceMul,Nat.reduceDiv,Nat.reduceMod,Nat.reduceLeDiff,Nat.reduceLT,Nat.reduceBEq,Int.reduceToNat,Int.reduceLT,Int.reduceLE,Int.reduceEq]
theorem okSameBits (n : Nat) (b c : Bool) (l : List Int) (hl : l.length < 1000000000) : callP (level E (n+1)) 47 [slD b 1 (l.map ub),slD c 1 (l.map ub)] = some (.bool true):=by
  rw [p47]
  simp only [go_sem,Nat.reduceAdd,Nat.reduceSub,Nat.reduceMul,Nat.reduceDiv,Nat.reduceMod,Nat.reduceLeDiff,Nat.reduceLT,Nat.reduceBEq,Int.reduceToNat,Int.reduceLT,Int.reduceLE,Int.reduceEq,ne_eq,not_true_eq_false]
  have h:=loop_fold (f:=aCode (level E (n)) ⟨0,false⟩ b47_0) (h:=head ⟨0,false⟩ [1,1,0,1,0,0,0]) (Φ:=outC ⟨0,false⟩ [0,0,1,0,0,0,0]) l (fun (a : Unit) i => ⟨[.imm (slD b 1 (l.map ub)),.imm (slD c 1 (l.map ub)),.junk,.imm (.int .i64 i),.junk,.junk,.junk],[],none⟩) (fun _ _ => True)
    (fun a x => ()) (fun a => some (.exit 0,⟨[.junk,.junk,.junk,.junk,.junk,.junk,.junk],[],none⟩)) () trivial
    (fun a i x hI h2 h1 => by
      refine ⟨?_,trivial⟩
      rw [rnd_eq]
      simp only [go_sem,Nat.reduceAdd,Nat.reduceSub,Nat.reduceMul,Nat.reduceDiv,Nat.reduceMod,Nat.reduceLeDiff,Nat.reduceLT,Nat.reduceBEq,Int.reduceToNat,Int.reduceLT,Int.reduceLE,Int.reduceEq,lt_t h2,h1,ne_eq,not_true_eq_false]
      rw [wrpS (by omega)])
    (fun a _ => by
      rw [rnd_eq]
      simp only [go_sem,Nat.reduceAdd,Nat.reduceSub,Nat.reduceMul,Nat.reduceDiv,Nat.reduceMod,Nat.reduceLeDiff,Nat.reduceLT,Nat.reduceBEq,Int.reduceToNat,Int.reduceLT,Int.reduceLE,Int.reduceEq,lt_f (Nat.le_refl _)])
  rw [cast_0] at h
  rw [h]
  simp only [go_sem,Nat.reduceAdd,Nat.reduceSub,Nat.reduceMul,Nat.reduceDiv,Nat.reduceMod,Nat.reduceLeDiff,Nat.reduceLT,Nat.reduceBEq,Int.reduceToNat,Int.reduceLT,Int.reduceLE,Int.reduceEq]
theorem okSameBytes (n : Nat) (b c : Bool) (l : List Int) (hl : l.length < 1000000000) : callP (level E (n+1)) 49 [slD b 1 (l.map u8),slD c 1 (l.map u8)] = some (.bool true):=by
  rw [p49]
  simp only [go_sem,Nat.reduceAdd,Nat.reduceSub,Nat.reduceMul,Nat.reduceDiv,Nat.reduceMod,Nat.reduceLeDiff,Nat.reduceLT,Nat.reduceBEq,Int.reduceToNat,Int.reduceLT,Int.reduceLE,Int.reduceEq,ne_eq,not_true_eq_false]
  have h:=loop_fold (f:=aCode (level E (n)) ⟨0,false⟩ b49_0) (h:=head ⟨0,false⟩ [1,1,0,1,0,0,0]) (Φ:=outC ⟨0,false⟩ [0,0,1,0,0,0,0]) l (fun (a : Unit) i => ⟨[.imm (slD b 1 (l.map u8)),.imm (slD c 1 (l.map u8)),.junk,.imm (.int .i64 i),.junk,.junk,.junk],[],none⟩) (fun _ _ => True)
    (fun a x => ()) (fun a => some (.exit 0,⟨[.junk,.junk,.junk,.junk,.junk,.junk,.junk],[],none⟩)) () trivial
    (fun a i x hI h2 h1 => by
      refine ⟨?_,trivial⟩
      rw [rnd_eq]
      simp only [go_sem,Nat.reduceAdd,Nat.reduceSub,Nat.reduceMul,Nat.reduceDiv,Nat.reduceMod,Nat.reduceLeDiff,Nat.reduceLT,Nat.reduceBEq,Int.reduceToNat,Int.reduceLT,Int.reduceLE,Int.reduceEq,lt_t h2,h1,ne_eq,not_true_eq_false]
      rw [wrpS (by omega)])
    (fun a _ => by
      rw [rnd_eq]
      simp only [go_sem,Nat.reduceAdd,Nat.reduceSub,Nat.reduceMul,Nat.reduceDiv,Nat.reduceMod,Nat.reduceLeDiff,Nat.reduceLT,Nat.reduceBEq,Int.reduceToNat,Int.reduceLT,Int.reduceLE,Int.reduceEq,lt_f (Nat.le_refl _)])
  rw [cast_0] at h
  rw [h]
  simp only [go_sem,Nat.reduceAdd,Nat.reduceSub,Nat.reduceMul,Nat.reduceDiv,Nat.reduceMod,Nat.reduceLeDiff,Nat.reduceLT,Nat.reduceBEq,Int.reduceToNat,Int.reduceLT,Int.reduceLE,Int.reduceEq]
end Go.Vm.P4D

/- Chapter 04,functions: the document's examples. -/
set_option maxRecDepth 100000
set_option maxHeartbeats 8000000
namespace Go.Vm.P4D
open Go Go.Vm Go.Vm.P4
def bx0 : Bx:=[⟨2,3⟩,⟨0,2⟩]
def ot0 : Bx:=[⟨3,2⟩,⟨1,5⟩]
def m0 : Im:=⟨1,false,bx0,false,[1,3],false,[10,20,30,40,50,60]⟩
def m1 : Im:=⟨1,false,bx0,false,[2,6],false,[0,0,0,0,0,0,0,0,0,0,0,0]⟩
def m2 : Im:=⟨1,false,bx0,false,[1,2],false,[0,0,0,0,0,0,0,0,0,0,0,0]⟩
theorem bits8_all : bits8 0 ∧ bits8 10 ∧ bits8 20 ∧ bits8 30 ∧ bits8 40 ∧ bits8 50 ∧ bits8 60:=by
  unfold bits8
  decide
theorem ck_m0 : ckIm (fun _ => 0) m0 = 0:=by decide
theorem ck_m1 : ckIm (fun _ => 0) m1 = 0:=by decide
theorem ck_m2 : ckIm (fun _ => 0) m2 = 26:=by decide
theorem b8_m0 : ∀ v ∈ m0.dt,bits8 v:=by
  obtain ⟨h0,h1,h2,h3,h4,h5,h6⟩:=bits8_all
  intro v hv
  simp only [m0,List.mem_cons,List.not_mem_nil,or_false] at hv
  rcases hv with rfl | rfl | rfl | rfl | rfl | rfl <;> assumption
theorem chk0 (n : Nat) : callP (level E (n+9)) 48 [enIm m0] = some (.int .i64 0):=by
  have h:=okCheck n m0 (fun _ => 0) (by decide) (by decide) (by decide) (fun v hv => okCheck8 (n+1) v (b8_m0 v hv))
  rw [ck_m0] at h
  exact h
theorem chk1 (n : Nat) : callP (level E (n+9)) 48 [enIm m1] = some (.int .i64 0):=by
  have h:=okCheck n m1 (fun _ => 0) (by decide) (by decide) (by decide) (fun v hv => okCheck8 (n+1) v (by
    have : v = 0:=by simpa [m1] using hv
    rw [this]; exact bits8_all.1))
  rw [ck_m1] at h
  exact h
theorem chk2 (n : Nat) : callP (level E (n+9)) 48 [enIm m2] = some (.int .i64 26):=by
  have h:=okCheck n m2 (fun _ => 0) (by decide) (by decide) (by decide) (fun v hv => okCheck8 (n+1) v (by
    have : v = 0:=by simpa [m2] using hv
    rw [this]; exact bits8_all.1))
  rw [ck_m2] at h
  exact h
theorem ckb0 : ckBox bx0 = 0:=by decide
theorem aw_at (n : Nat) : callP (level E (n+11)) 24 [enIm m0,slD false 1 ([3,1].map ic)] = some (.tup [.agg [.int .i64 1,.int .u64 50],.int .i64 0]):=by
  have h:=okCheckAt n m0 false [3,1] (fun _ => 0) (by decide) (by decide) (by decide) (fun v hv => okCheck8 (n+1) v (b8_m0 v hv))
  rw [show ckAt (fun _ => 0) m0 [3,1] = 0 from by decide] at h
  exact okAtS n m0 false [3,1] h (by decide) (by decide) (by decide) 4 50 (by decide) (by decide)
def fSl (p : List Int) : Int:=if p.headD 0 = 0 then 20 else 50
theorem aw_slice (n : Nat) : callP (level E (n+10)) 46 [enIm m0,.int .i64 0,.int .i64 3] = some (.tup [enIm (mkIm 1 [⟨0,2⟩] 2 fSl),.int .i64 0]):=by
  refine okSlice2 n m0 ⟨2,3⟩ ⟨0,2⟩ rfl 3 (chk0 n) rfl ckb0 (by decide) (by decide) 2 (by decide) (by decide) fSl (fun i hi => ?_)
  match i,hi with
  | 0,_ => exact ⟨0,0,0,1,by decide,by decide,by decide⟩
  | 1,_ => exact ⟨1,0,0,4,by decide,by decide,by decide⟩
def fTr (p : List Int) : Int:=10 + 30 * p.headD 0 + 10 * ((p.tail).headD 0 - 2)
theorem aw_trans (n : Nat) : callP (level E (n+10)) 18 [enIm m0,.int .i64 0,.int .i64 1] = some (.tup [enIm (mkIm 1 [⟨0,2⟩,⟨2,3⟩] 6 fTr),.int .i64 0]):=by
  refine okTranspose2 n m0 ⟨2,3⟩ ⟨0,2⟩ rfl (chk0 n) rfl 6 (by decide) (by decide) fTr (fun i hi => ?_)
  match i,hi with
  | 0,_ => exact ⟨0,2,0,0,by decide,by decide,by decide⟩
  | 1,_ => exact ⟨1,2,0,3,by decide,by decide,by decide⟩
  | 2,_ => exact ⟨0,3,0,1,by decide,by decide,by decide⟩
  | 3,_ => exact ⟨1,3,0,4,by decide,by decide,by decide⟩
  | 4,_ => exact ⟨0,4,0,2,by decide,by decide,by decide⟩
  | 5,_ => exact ⟨1,4,0,5,by decide,by decide,by decide⟩
def fCr (p : List Int) : Int:=50 + 10 * (p.headD 0 - 3)
theorem aw_crop (n : Nat) : callP (level E (n+10)) 19 [enIm m0,enB false [⟨3,2⟩,⟨1,1⟩]] = some (.tup [enIm (mkIm 1 [⟨3,2⟩,⟨1,1⟩] 2 fCr),.int .i64 0]):=by
  refine okCropS n m0 false [⟨3,2⟩,⟨1,1⟩] (chk0 n) ckb0 rfl (by decide) rfl (by rfl) 2 (by decide) fCr (fun i hi => ?_)
  match i,hi with
  | 0,_ => exact ⟨4,by decide,by decide⟩
  | 1,_ => exact ⟨5,by decide,by decide⟩
theorem aw_edge (n : Nat) (rule : Nat) (hr : rule < 3) : callP (level E (n+10)) 22 [enIm m0,.int .i64 rule,slD false 1 ([0,5].map ic),.agg [.int .i64 0,.int .u64 0]] = some (.tup [.agg [.int .i64 1,.int .u64 ([40,50,50].getD rule 0)],.int .i64 0]):=by
  have hx : ∀ r ∈ m0.bx,r.ex ≠ 0 ∧ ml 2 r.ex ≠ 0:=by
    intro r hr
    simp only [m0,bx0,List.mem_cons,List.not_mem_nil,or_false] at hr
    rcases hr with rfl | rfl <;> decide
  match rule,hr with
  | 0,hr => exact okEdgeS n m0 false [0,5] 0 hr 0 0 (chk0 n) ckb0 rfl rfl (by decide) (by decide) hx 3 40 (by decide) (by decide)
  | 1,hr => exact okEdgeS n m0 false [0,5] 1 hr 0 0 (chk0 n) ckb0 rfl rfl (by decide) (by decide) hx 4 50 (by decide) (by decide)
  | 2,hr => exact okEdgeS n m0 false [0,5] 2 hr 0 0 (chk0 n) ckb0 rfl rfl (by decide) (by decide) hx 4 50 (by decide) (by decide)
def mS : Im:=mkIm 1 [⟨0,2⟩] 2 fSl
theorem aw_encode (n : Nat) : callP (level E (n+10)) 10 [enIm mS] = some (.tup [.sl 1 (([1,1,0,0,0,0,2,0,20,50] : List Int).map u8),.int .i64 0]):=by
  have hb : ∀ v ∈ mS.dt,bits8 v:=by
    obtain ⟨h0,h1,h2,h3,h4,h5,h6⟩:=bits8_all
    intro v hv
    have e : mS.dt = [20,50]:=by decide
    rw [e] at hv
    simp only [List.mem_cons,List.not_mem_nil,or_false] at hv
    rcases hv with rfl | rfl <;> assumption
  have h:=okCheck n mS (fun _ => 0) (by decide) (by decide) (by decide) (fun v hv => okCheck8 (n+1) v (hb v hv))
  rw [show ckIm (fun _ => 0) mS = 0 from by decide] at h
  have k:=okEncode1 n mS h (by decide) (by decide) rfl 2 (by decide) (by decide) fSl (fun i hi => by
    match i,hi with
    | 0,_ => exact ⟨0,by decide,by decide⟩
    | 1,_ => exact ⟨1,by decide,by decide⟩)
  rw [show byIm1 mS 2 fSl = [1,1,0,0,0,0,2,0,20,50] from by decide] at k
  exact k
end Go.Vm.P4D

/- Chapter 04,functions: the reference's boxes. -/
set_option maxRecDepth 100000
set_option maxHeartbeats 1000000
namespace Go.Vm.P4D
open Go Go.Vm Go.Vm.P4
theorem okRProduct (n : Nat) (b : Bool) (l : Bx) (hl : l.length < 1000000000) : callP (level E (n+1)) 17 [enB b l] = some (.int .i64 (many l)):=by
  rw [p17]
  simp only [go_sem,Nat.reduceAdd,Nat.reduceSub,Nat.reduceMul,Nat.reduceDiv,Nat.reduceMod,Nat.reduceLeDiff,Nat.reduceLT,Nat.reduceBEq,Int.reduceToNat,Int.reduceLT,Int.reduceLE,Int.reduceEq]
  have h:=loop_fold (f:=aCode (level E (n)) ⟨0,false⟩ b17_0) (h:=head ⟨0,false⟩ [1,0,1,1,0]) (Φ:=outC ⟨0,false⟩ [0,0,1,0,0]) l (fun (a : Int) i => ⟨[.imm (slD b 2 (l.map enR)),.junk,.imm (.int .i64 a),.imm (.int .i64 i),.junk],[],none⟩) (fun _ _ => True)
    (fun a x => ml a x.ex) (fun a => some (.exit 0,⟨[.junk,.junk,.imm (.int .i64 a),.junk,.junk],[],none⟩)) 1 trivial
    (fun a i x _ h2 h1 => ⟨by
      rw [rnd_eq]
      simp only [go_sem,Nat.reduceAdd,Nat.reduceSub,Nat.reduceMul,Nat.reduceDiv,Nat.reduceMod,Nat.reduceLeDiff,Nat.reduceLT,Nat.reduceBEq,Int.reduceToNat,Int.reduceLT,Int.reduceLE,Int.reduceEq,lt_t h2,h1,ml]
      rw [wrpS (by omega)],trivial⟩)
    (fun _ _ => by
      rw [rnd_eq]
      simp only [go_sem,Nat.reduceAdd,Nat.reduceSub,Nat.reduceMul,Nat.reduceDiv,Nat.reduceMod,Nat.reduceLeDiff,Nat.reduceLT,Nat.reduceBEq,Int.reduceToNat,Int.reduceLT,Int.reduceLE,Int.reduceEq,lt_f (Nat.le_refl _)])
  rw [cast_0] at h
  rw [h]
  simp only [go_sem,Nat.reduceAdd,Nat.reduceSub,Nat.reduceMul,Nat.reduceDiv,Nat.reduceMod,Nat.reduceLeDiff,Nat.reduceLT,Nat.reduceBEq,Int.reduceToNat,Int.reduceLT,Int.reduceLE,Int.reduceEq,many]
def shortN (l : Bx) : Int:=(l.take 4).foldl (fun n r => ml n (max 0 (min r.ex 100))) 1
theorem okShortBox (n : Nat) (b : Bool) (l : Bx) : callP (level E (n+1)) 8 [enB b l] = some (.bool (decide (l.length ≤ 4) && decide (shortN l ≤ 64))):=by
  rw [p8]
  simp only [go_sem,Nat.reduceAdd,Nat.reduceSub,Nat.reduceMul,Nat.reduceDiv,Nat.reduceMod,Nat.reduceLeDiff,Nat.reduceLT,Nat.reduceBEq,Int.reduceToNat,Int.reduceLT,Int.reduceLE,Int.reduceEq]
  have h:=loop_fold (f:=aCode (level E (n)) ⟨0,false⟩ b8_0) (h:=head ⟨0,false⟩ [1,0,1,1,0]) (Φ:=outC ⟨0,false⟩ [1,0,1,0,0]) (l.take 4) (fun (a : Int) i => ⟨[.imm (slD b 2 (l.map enR)),.junk,.imm (.int .i64 a),.imm (.int .i64 i),.junk],[],none⟩) (fun _ _ => True)
    (fun a x => ml a (max 0 (min x.ex 100))) (fun a => some (.exit 0,⟨[.imm (slD b 2 (l.map enR)),.junk,.imm (.int .i64 a),.junk,.junk],[],none⟩)) 1 trivial
    (fun a i x _ h2 h1 => ⟨by
      rw [List.length_take] at h2
      rw [List.getElem?_take_of_lt (by omega)] at h1
      have h4 : (i : Int) < 4:=by omega
      rw [rnd_eq]
      simp only [go_sem,Nat.reduceAdd,Nat.reduceSub,Nat.reduceMul,Nat.reduceDiv,Nat.reduceMod,Nat.reduceLeDiff,Nat.reduceLT,Nat.reduceBEq,Int.reduceToNat,Int.reduceLT,Int.reduceLE,Int.reduceEq,lt_t (show i < l.length by omega),h1,h4,ml]
      rw [wrpS (by omega)],trivial⟩)
    (fun a _ => by
      rw [rnd_eq]
      rw [List.length_take]
      by_cases h5 : l.length ≤ 4
      · rw [Nat.min_eq_right h5]
        simp only [go_sem,Nat.reduceAdd,Nat.reduceSub,Nat.reduceMul,Nat.reduceDiv,Nat.reduceMod,Nat.reduceLeDiff,Nat.reduceLT,Nat.reduceBEq,Int.reduceToNat,Int.reduceLT,Int.reduceLE,Int.reduceEq,lt_f (Nat.le_refl _)]
      · rw [Nat.min_eq_left (by omega)]
        have h6 : (4 : Int) < l.length:=by omega
        have h7 : ¬ (4 : Int) < 4:=by omega
        simp only [go_sem,Nat.reduceAdd,Nat.reduceSub,Nat.reduceMul,Nat.reduceDiv,Nat.reduceMod,Nat.reduceLeDiff,Nat.reduceLT,Nat.reduceBEq,Int.reduceToNat,Int.reduceLT,Int.reduceLE,Int.reduceEq,h6,h7])
  rw [cast_0] at h
  rw [h]
  by_cases h5 : (l.length : Int) ≤ 4
  · have h6 : l.length ≤ 4:=by omega
    simp only [go_sem,Nat.reduceAdd,Nat.reduceSub,Nat.reduceMul,Nat.reduceDiv,Nat.reduceMod,Nat.reduceLeDiff,Nat.reduceLT,Nat.reduceBEq,Int.reduceToNat,Int.reduceLT,Int.reduceLE,Int.reduceEq,h5,h6,shortN]
  · have h6 : ¬ l.length ≤ 4:=by omega
    simp only [go_sem,Nat.reduceAdd,Nat.reduceSub,Nat.reduceMul,Nat.reduceDiv,Nat.reduceMod,Nat.reduceLeDiff,Nat.reduceLT,Nat.reduceBEq,Int.reduceToNat,Int.reduceLT,Int.reduceLE,Int.reduceEq,h5,h6,shortN]
theorem okOwnBox (n : Nat) (b : Bool) (l : Bx) (hl : l.length < 1000000) : callP (level E (n+1)) 20 [enB b l] = some (enB true l):=by
  rw [p20]
  rcases l with _ | ⟨x,t⟩
  · cases b <;> simp only [go_sem,Nat.reduceAdd,Nat.reduceSub,Nat.reduceMul,Nat.reduceDiv,Nat.reduceMod,Nat.reduceLeDiff,Nat.reduceLT,Nat.reduceBEq,Int.reduceToNat,Int.reduceLT,Int.reduceLE,Int.reduceEq,slD] <;> rfl
  · have e : (t.length + 1) * 17 ≤ 70368744177664:=by simp at hl; omega
    have e0 : enB b (x :: t) = .sl 2 ((x :: t).map enR):=by cases b <;> rfl
    rw [e0]
    simp only [go_sem,Nat.reduceAdd,Nat.reduceSub,Nat.reduceMul,Nat.reduceDiv,Nat.reduceMod,Nat.reduceLeDiff,Nat.reduceLT,Nat.reduceBEq,Int.reduceToNat,Int.reduceLT,Int.reduceLE,Int.reduceEq,e] <;> rfl
theorem okSameBox (n : Nat) (b c : Bool) (l : Bx) (hl : l.length < 1000000000) : callP (level E (n+1)) 32 [enB b l,enB c l] = some (.bool true):=by
  rw [p32]
  simp only [go_sem,Nat.reduceAdd,Nat.reduceSub,Nat.reduceMul,Nat.reduceDiv,Nat.reduceMod,Nat.reduceLeDiff,Nat.reduceLT,Nat.reduceBEq,Int.reduceToNat,Int.reduceLT,Int.reduceLE,Int.reduceEq,ne_eq,not_true_eq_false]
  have h:=loop_fold (f:=aCode (level E (n)) ⟨0,false⟩ b32_0) (h:=head ⟨0,false⟩ [1,1,0,1,0,0,0]) (Φ:=outC ⟨0,false⟩ [0,0,1,0,0,0,0]) l (fun (a : Unit) i => ⟨[.imm (slD b 2 (l.map enR)),.imm (slD c 2 (l.map enR)),.junk,.imm (.int .i64 i),.junk,.junk,.junk],[],none⟩) (fun _ _ => True)
    (fun a x => ()) (fun a => some (.exit 0,⟨[.junk,.junk,.junk,.junk,.junk,.junk,.junk],[],none⟩)) () trivial
    (fun a i x hI h2 h1 => by
      refine ⟨?_,trivial⟩
      rw [rnd_eq]
      simp only [go_sem,Nat.reduceAdd,Nat.reduceSub,Nat.reduceMul,Nat.reduceDiv,Nat.reduceMod,Nat.reduceLeDiff,Nat.reduceLT,Nat.reduceBEq,Int.reduceToNat,Int.reduceLT,Int.reduceLE,Int.reduceEq,lt_t h2,h1,aEq,eqL,eqE,intEq,beq_self_eq_true]
      rw [wrpS (by omega)])
    (fun a _ => by
      rw [rnd_eq]
      simp only [go_sem,Nat.reduceAdd,Nat.reduceSub,Nat.reduceMul,Nat.reduceDiv,Nat.reduceMod,Nat.reduceLeDiff,Nat.reduceLT,Nat.reduceBEq,Int.reduceToNat,Int.reduceLT,Int.reduceLE,Int.reduceEq,lt_f (Nat.le_refl _)])
  rw [cast_0] at h
  rw [h]
  simp only [go_sem,Nat.reduceAdd,Nat.reduceSub,Nat.reduceMul,Nat.reduceDiv,Nat.reduceMod,Nat.reduceLeDiff,Nat.reduceLT,Nat.reduceBEq,Int.reduceToNat,Int.reduceLT,Int.reduceLE,Int.reduceEq]
end Go.Vm.P4D

/- Chapter 04,functions: the document's examples,all of them. -/
set_option maxRecDepth 100000
set_option maxHeartbeats 16000000
namespace Go.Vm.P4D
open Go Go.Vm Go.Vm.P4
def bxD : D:=.sl 2 [[.int .i64 2,.int .i64 3],[.int .i64 0,.int .i64 2]]
def imD : D:=.agg [.int .i64 1,bxD,.sl 1 [[.int .i64 1],[.int .i64 3]],.sl 1 [[.int .u64 10],[.int .u64 20],[.int .u64 30],[.int .u64 40],[.int .u64 50],[.int .u64 60]]]
theorem aw_box (n : Nat) : callP (level E (n+1)) 44 [] = some bxD:=by
  rw [p44]
  simp only [go_sem,Nat.reduceAdd,Nat.reduceSub,Nat.reduceMul,Nat.reduceDiv,Nat.reduceMod,Nat.reduceLeDiff,Nat.reduceLT,Nat.reduceBEq,Int.reduceToNat,Int.reduceLT,Int.reduceLE,Int.reduceEq,bxD]
theorem aw_given (n : Nat) : callP (level E (n+2)) 45 [] = some imD:=by
  rw [p45]
  have h:=aw_box n
  simp only [bxD] at h
  simp only [go_sem,Nat.reduceAdd,Nat.reduceSub,Nat.reduceMul,Nat.reduceDiv,Nat.reduceMod,Nat.reduceLeDiff,Nat.reduceLT,Nat.reduceBEq,Int.reduceToNat,Int.reduceLT,Int.reduceLE,Int.reduceEq,imD,bxD,h]
theorem e_m0 : enIm m0 = imD:=rfl
theorem e_b0 : enB false bx0 = bxD:=rfl
def pt (a b : Int) : List D:=[.sl 1 [[.int .i64 a],[.int .i64 b]]]
theorem okAwake (n : Nat) : callP (level E (n+60)) 9 [] = some (.bool true):=by
  rw [p9]
  have q1:=aw_box (n+58)
  have q2:=aw_given (n+57)
  have q3:=okPointsS (n+54) false bx0 ckb0 6 (by decide)
  rw [e_b0,show ptsD bx0 6 = .sl 1 [pt 2 0,pt 3 0,pt 4 0,pt 2 1,pt 3 1,pt 4 1] from rfl] at q3
  have q4:=okIndex (n+53) false false bx0 [3,1] (by decide)
  rw [e_b0,show ckPoint bx0 [3,1] = 0 from by decide,if_pos rfl,show hasB bx0 [3,1] = true from by decide,if_pos rfl,show elt bx0 (([3,1] ++ [0,0,0] : List Int).take 3) (strides 1 bx0) 0 = 4 from by decide] at q4
  have q5:=okIntersect (n+53) false false bx0 ot0 (by decide) (by decide) (fun _ => rfl)
  rw [e_b0,show interD bx0 ot0 = .sl 2 [[.int .i64 3,.int .i64 2],[.int .i64 1,.int .i64 1]] from rfl,show ckBoth bx0 ot0 = 0 from by decide] at q5
  have q6:=okUnion (n+53) false false bx0 ot0 (by decide) (by decide) (fun _ => ⟨rfl,by decide,by decide⟩)
  rw [e_b0,show unionD bx0 ot0 = (.sl 2 [[.int .i64 2,.int .i64 3],[.int .i64 0,.int .i64 6]],0) from rfl] at q6
  have q7:=aw_at (n+48)
  have q8:=aw_slice (n+49)
  have q9:=aw_trans (n+49)
  have q10:=aw_crop (n+49)
  rw [e_m0] at q7 q8 q9 q10
  rw [show enIm (mkIm 1 [⟨0,2⟩] 2 fSl) = .agg [.int .i64 1,.sl 2 [[.int .i64 0,.int .i64 2]],.sl 1 [[.int .i64 1]],.sl 1 [[.int .u64 20],[.int .u64 50]]] from rfl] at q8
  rw [show enIm (mkIm 1 [⟨0,2⟩,⟨2,3⟩] 6 fTr) = .agg [.int .i64 1,.sl 2 [[.int .i64 0,.int .i64 2],[.int .i64 2,.int .i64 3]],.sl 1 [[.int .i64 1],[.int .i64 2]],.sl 1 [[.int .u64 10],[.int .u64 40],[.int .u64 20],[.int .u64 50],[.int .u64 30],[.int .u64 60]]] from rfl] at q9
  rw [show enIm (mkIm 1 [⟨3,2⟩,⟨1,1⟩] 2 fCr) = .agg [.int .i64 1,.sl 2 [[.int .i64 3,.int .i64 2],[.int .i64 1,.int .i64 1]],.sl 1 [[.int .i64 1],[.int .i64 2]],.sl 1 [[.int .u64 50],[.int .u64 60]]] from rfl] at q10
  have r0:=aw_edge (n+49) 0 (by decide)
  have r1:=aw_edge (n+49) 1 (by decide)
  have r2:=aw_edge (n+49) 2 (by decide)
  rw [e_m0] at r0 r1 r2
  have c1:=chk1 (n+50)
  have c2:=chk2 (n+50)
  have en:=aw_encode (n+49)
  rw [show enIm mS = .agg [.int .i64 1,.sl 2 [[.int .i64 0,.int .i64 2]],.sl 1 [[.int .i64 1]],.sl 1 [[.int .u64 20],[.int .u64 50]]] from rfl] at en
  have s1:=okSameInts (n+58) false false [4,1] (by decide)
  have s2:=okSameBox (n+58) false false [⟨3,2⟩,⟨1,1⟩] (by decide)
  have s3:=okSameBox (n+58) false false [⟨2,3⟩,⟨0,6⟩] (by decide)
  have s4:=okSameBits (n+58) false false [20,50] (by decide)
  have s5:=okSameBits (n+58) false false [10,40,20,50,30,60] (by decide)
  have s6:=okSameBits (n+58) false false [50,60] (by decide)
  have s7:=okSameBytes (n+58) false false [1,1,0,0,0,0,2,0,20,50] (by decide)
  simp only [go_sem,Nat.reduceAdd,Nat.reduceSub,Nat.reduceMul,Nat.reduceDiv,Nat.reduceMod,Nat.reduceLeDiff,Nat.reduceLT,Nat.reduceBEq,Int.reduceToNat,Int.reduceLT,Int.reduceLE,Int.reduceEq,imD,bxD,pt,enB,slD,ot0,enIm,m1,m2,mS,bx0] at q1 q2 q3 q4 q5 q6 q7 q8 q9 q10 r0 r1 r2 c1 c2 en s1 s2 s3 s4 s5 s6 s7
  have w0 : wrp .i64 (0 + 0) = 0:=by decide
  have n0 : (4 : Int) ≠ 0:=by decide
  simp only [go_sem,Nat.reduceAdd,Nat.reduceSub,Nat.reduceMul,Nat.reduceDiv,Nat.reduceMod,Nat.reduceLeDiff,Nat.reduceLT,Nat.reduceBEq,Int.reduceToNat,Int.reduceLT,Int.reduceLE,Int.reduceEq,q1,q2,q3,q4,q5,q6,q7,q8,q9,q10,w0,ne_eq,not_true_eq_false,ia_sl,s1,s2,s3,s4,s5,s6,aEq,eqL,eqE,intEq,beq_self_eq_true]
  simp only [go_sem,Nat.reduceAdd,Nat.reduceSub,Nat.reduceMul,Nat.reduceDiv,Nat.reduceMod,Nat.reduceLeDiff,Nat.reduceLT,Nat.reduceBEq,Int.reduceToNat,Int.reduceLT,Int.reduceLE,Int.reduceEq,rnd_eq,q1,q2,r0,r1,r2,ne_eq,not_true_eq_false,ia_sl,c1,c2,en,s7,List.reduceReplicate,Int.reduceMul]
  done
end Go.Vm.P4D

/- Plain: bits of 64-bit numbers as remainders and quotients. -/
set_option maxRecDepth 100000
namespace Go.Vm.P4
open Go Go.Vm
theorem wrpU {n : Int} (h0 : 0 ≤ n) (h1 : n < 18446744073709551616) : wrp .u64 n = n:=by
  have e1 : (2 ^ IntKind.u64.bits : Int) = 18446744073709551616:=by decide
  show IntKind.u64.wrap n = n
  simp only [IntKind.wrap,e1,show IntKind.u64.signed = false from rfl,Bool.false_and,Bool.false_eq_true,if_false]
  omega
theorem bv_low {v : Int} (h0 : 0 ≤ v) (h1 : v < 18446744073709551616) : (BitVec.ofInt 64 v).toNat = v.toNat:=by
  obtain ⟨n,rfl⟩ : ∃ n : Nat,v = n:=⟨v.toNat,by omega⟩
  rw [BitVec.ofInt_natCast,BitVec.toNat_ofNat]
  omega
theorem mask_bit (w i : Nat) (hw : w ≤ 64) : (BitVec.ofNat 64 (2 ^ w - 1)).getLsbD i = decide (i < w):=by
  rw [BitVec.getLsbD_ofNat,Nat.testBit_two_pow_sub_one]
  by_cases h : i < w
  · simp [h,show i < 64 by omega]
  · simp [h]
theorem andNot_mask (a : BitVec 64) (w : Nat) (hw : w ≤ 64) : (a &&& ~~~(BitVec.ofNat 64 (2 ^ w - 1))).toNat = a.toNat >>> w <<< w:=by
  apply Nat.eq_of_testBit_eq
  intro i
  rw [BitVec.testBit_toNat,BitVec.getLsbD_and,BitVec.getLsbD_not,mask_bit w i hw,Nat.testBit_shiftLeft,Nat.testBit_shiftRight,BitVec.testBit_toNat]
  by_cases h : i < w
  · have : ¬ w ≤ i:=by omega
    simp [h,this]
  · have h2 : w ≤ i:=by omega
    rw [show w + (i - w) = i by omega]
    by_cases h3 : i < 64
    · simp [h,h2,h3]
    · have : a.getLsbD i = false:=BitVec.getLsbD_of_ge a i (by omega)
      simp [this]
theorem and_mask (a : BitVec 64) (w : Nat) (hw : w ≤ 64) : (a &&& BitVec.ofNat 64 (2 ^ w - 1)).toNat = a.toNat % 2 ^ w:=by
  apply Nat.eq_of_testBit_eq
  intro i
  rw [BitVec.testBit_toNat,BitVec.getLsbD_and,mask_bit w i hw,Nat.testBit_mod_two_pow,BitVec.testBit_toNat,Bool.and_comm]
theorem fits_iff {v : Int} (h0 : 0 ≤ v) (h1 : v < 18446744073709551616) (w : Nat) (hw : w ≤ 64) (m : Int) (hm : BitVec.ofInt 64 m = BitVec.ofNat 64 (2 ^ w - 1)) :
    decide (wrp .u64 ((BitVec.ofInt 64 v &&& ~~~(BitVec.ofInt 64 m)).toNat : Nat) = 0) = decide (v < 2 ^ w):=by
  rw [hm]
  have h2:=(BitVec.ofInt 64 v &&& ~~~(BitVec.ofNat 64 (2 ^ w - 1))).isLt
  rw [wrpU (by omega) (by omega),andNot_mask _ w hw,bv_low h0 h1,Nat.shiftLeft_eq,Nat.shiftRight_eq_div_pow]
  have hp : 0 < 2 ^ w:=Nat.two_pow_pos w
  have e : ((2 ^ w : Nat) : Int) = 2 ^ w:=by simp
  rw [decide_eq_decide]
  constructor
  · intro h
    have h3 : v.toNat / 2 ^ w = 0:=by
      rcases Nat.eq_zero_or_pos (v.toNat / 2 ^ w) with h4 | h4
      · exact h4
      · have:=Nat.mul_le_mul_right (2 ^ w) h4; omega
    have:=(Nat.div_eq_zero_iff_lt hp).1 h3
    omega
  · intro h
    have : v.toNat < 2 ^ w:=by omega
    rw [Nat.div_eq_of_lt this]; simp
theorem low32 {v : Int} (h0 : 0 ≤ v) (h1 : v < 18446744073709551616) : wrp .u64 ((BitVec.ofInt 64 v &&& BitVec.ofInt 64 4294967295).toNat : Nat) = v % 4294967296:=by
  have hm : BitVec.ofInt 64 4294967295 = BitVec.ofNat 64 (2 ^ 32 - 1):=by decide
  have h2:=(BitVec.ofInt 64 v &&& BitVec.ofInt 64 4294967295).isLt
  rw [wrpU (by omega) (by omega),hm,and_mask _ 32 (by decide),bv_low h0 h1]
  omega
def wdL : List Int:=[1,8,16,32,64,8,16,32,64,32,64]
end Go.Vm.P4

/- Chapter 04,functions: values of every kind. -/
set_option maxRecDepth 100000
set_option maxHeartbeats 2000000
namespace Go.Vm.P4D
open Go Go.Vm Go.Vm.P4
def vOk (k v : Int) : Bool :=
  if k = 9 then decide (v < 4294967296) && rfOk v else if k = 10 then rfOk (v % 4294967296) && rfOk (v / 4294967296)
  else decide (v < 2 ^ (wdL.getD k.toNat 0).toNat)
def ckVal (k v : Int) : Int:=if ckKind k = 0 then (if vOk k v then 0 else 1) else 11
theorem okRf (n : Nat) (v : Int) : callP (level E (n+1)) 102 [.int .u64 v] = some (.bool (rfOk v)):=by
  have h1 : E.fn 102 = none:=rfl
  have h2 : E.prim 102 = some rfPrim:=rfl
  unfold callP
  simp only [level,h1,runPrim,h2,List.map_cons,List.map_nil,rfPrim,if_true]
  rfl
theorem okOnes (n : Nat) : callP (level E (n+1)) 103 [.int .i64 1] = some (.int .u64 1) ∧ callP (level E (n+1)) 103 [.int .i64 8] = some (.int .u64 255) ∧ callP (level E (n+1)) 103 [.int .i64 16] = some (.int .u64 65535) ∧
    callP (level E (n+1)) 103 [.int .i64 32] = some (.int .u64 4294967295) ∧ callP (level E (n+1)) 103 [.int .i64 64] = some (.int .u64 18446744073709551615):=by
  have a1 : aBin .shl (.imm (.int .u64 1)) (.imm (.int .i64 1)) = some (.imm (.int .u64 2)):=rfl
  have a8 : aBin .shl (.imm (.int .u64 1)) (.imm (.int .i64 8)) = some (.imm (.int .u64 256)):=rfl
  have a16 : aBin .shl (.imm (.int .u64 1)) (.imm (.int .i64 16)) = some (.imm (.int .u64 65536)):=rfl
  have a32 : aBin .shl (.imm (.int .u64 1)) (.imm (.int .i64 32)) = some (.imm (.int .u64 4294967296)):=rfl
  have w1 : wrp .u64 (2 - 1) = 1:=by decide
  have w8 : wrp .u64 (256 - 1) = 255:=by decide
  have w16 : wrp .u64 (65536 - 1) = 65535:=by decide
  have w32 : wrp .u64 (4294967296 - 1) = 4294967295:=by decide
  refine ⟨?_,?_,?_,?_,?_⟩ <;> rw [p103] <;> simp only [go_sem,Nat.reduceAdd,Nat.reduceSub,Nat.reduceMul,Nat.reduceDiv,Nat.reduceMod,Nat.reduceLeDiff,Nat.reduceLT,Nat.reduceBEq,Int.reduceToNat,Int.reduceLT,Int.reduceLE,Int.reduceEq,a1,a8,a16,a32,w1,w8,w16,w32]
theorem pw32 : (2 : Int) ^ min (32 : Int).toNat IntKind.u64.bits = 4294967296:=by decide
theorem sh32 (v : Int) : aBin .shr (.imm (.int .u64 v)) (.imm (.int .u64 32)) = some (.imm (.int .u64 (v.fdiv 4294967296))):=by
  rw [bin_shr (by decide),pw32]
theorem fdiv_pos {v m : Int} (h0 : 0 ≤ v) (hm : 0 < m) : v.fdiv m = v / m:=by
  rw [Int.fdiv_eq_ediv_of_nonneg v (by omega)]
def andU (x y : Int) : Int:=wrp .u64 ((BitVec.ofInt 64 x &&& BitVec.ofInt 64 y).toNat : Nat)
@[go_sem high] theorem bin_andU {x y : Int} : aBin .and (.imm (.int .u64 x)) (.imm (.int .u64 y)) = some (.imm (.int .u64 (andU x y))):=by rw [bin_and]; rfl
theorem okRight (n : Nat) (k v : Int) (hk : ckKind k = 0) (h0 : 0 ≤ v) (h1 : v < 18446744073709551616) : callP (level E (n+2)) 97 [.int .i64 k,.int .u64 v] = some (.bool (vOk k v)):=by
  have hk' : 0 ≤ k ∧ k < 11:=by unfold ckKind at hk; split at hk; assumption; omega
  obtain ⟨o1,o8,o16,o32,o64⟩:=okOnes n
  rw [p97]
  have hc : k = 0 ∨ k = 1 ∨ k = 2 ∨ k = 3 ∨ k = 4 ∨ k = 5 ∨ k = 6 ∨ k = 7 ∨ k = 8 ∨ k = 9 ∨ k = 10:=by omega
  have f1:=fits_iff h0 h1 1 (by decide) 1 (by decide)
  have f8:=fits_iff h0 h1 8 (by decide) 255 (by decide)
  have f16:=fits_iff h0 h1 16 (by decide) 65535 (by decide)
  have f32:=fits_iff h0 h1 32 (by decide) 4294967295 (by decide)
  have f64:=fits_iff h0 h1 64 (by decide) 18446744073709551615 (by decide)
  have b64 : IntKind.u64.bits = 64:=rfl
  rcases hc with rfl | rfl | rfl | rfl | rfl | rfl | rfl | rfl | rfl | rfl | rfl
  · simp only [go_sem,Nat.reduceAdd,Nat.reduceSub,Nat.reduceMul,Nat.reduceDiv,Nat.reduceMod,Nat.reduceLeDiff,Nat.reduceLT,Nat.reduceBEq,Int.reduceToNat,Int.reduceLT,Int.reduceLE,Int.reduceEq,o1,b64]; exact congrArg (fun b => some (D.bool b)) (f1.trans rfl)
  · simp only [go_sem,Nat.reduceAdd,Nat.reduceSub,Nat.reduceMul,Nat.reduceDiv,Nat.reduceMod,Nat.reduceLeDiff,Nat.reduceLT,Nat.reduceBEq,Int.reduceToNat,Int.reduceLT,Int.reduceLE,Int.reduceEq,o8,b64]; exact congrArg (fun b => some (D.bool b)) (f8.trans rfl)
  · simp only [go_sem,Nat.reduceAdd,Nat.reduceSub,Nat.reduceMul,Nat.reduceDiv,Nat.reduceMod,Nat.reduceLeDiff,Nat.reduceLT,Nat.reduceBEq,Int.reduceToNat,Int.reduceLT,Int.reduceLE,Int.reduceEq,o16,b64]; exact congrArg (fun b => some (D.bool b)) (f16.trans rfl)
  · simp only [go_sem,Nat.reduceAdd,Nat.reduceSub,Nat.reduceMul,Nat.reduceDiv,Nat.reduceMod,Nat.reduceLeDiff,Nat.reduceLT,Nat.reduceBEq,Int.reduceToNat,Int.reduceLT,Int.reduceLE,Int.reduceEq,o32,b64]; exact congrArg (fun b => some (D.bool b)) (f32.trans rfl)
  · simp only [go_sem,Nat.reduceAdd,Nat.reduceSub,Nat.reduceMul,Nat.reduceDiv,Nat.reduceMod,Nat.reduceLeDiff,Nat.reduceLT,Nat.reduceBEq,Int.reduceToNat,Int.reduceLT,Int.reduceLE,Int.reduceEq,o64,b64]; exact congrArg (fun b => some (D.bool b)) (f64.trans rfl)
  · simp only [go_sem,Nat.reduceAdd,Nat.reduceSub,Nat.reduceMul,Nat.reduceDiv,Nat.reduceMod,Nat.reduceLeDiff,Nat.reduceLT,Nat.reduceBEq,Int.reduceToNat,Int.reduceLT,Int.reduceLE,Int.reduceEq,o8,b64]; exact congrArg (fun b => some (D.bool b)) (f8.trans rfl)
  · simp only [go_sem,Nat.reduceAdd,Nat.reduceSub,Nat.reduceMul,Nat.reduceDiv,Nat.reduceMod,Nat.reduceLeDiff,Nat.reduceLT,Nat.reduceBEq,Int.reduceToNat,Int.reduceLT,Int.reduceLE,Int.reduceEq,o16,b64]; exact congrArg (fun b => some (D.bool b)) (f16.trans rfl)
  · simp only [go_sem,Nat.reduceAdd,Nat.reduceSub,Nat.reduceMul,Nat.reduceDiv,Nat.reduceMod,Nat.reduceLeDiff,Nat.reduceLT,Nat.reduceBEq,Int.reduceToNat,Int.reduceLT,Int.reduceLE,Int.reduceEq,o32,b64]; exact congrArg (fun b => some (D.bool b)) (f32.trans rfl)
  · simp only [go_sem,Nat.reduceAdd,Nat.reduceSub,Nat.reduceMul,Nat.reduceDiv,Nat.reduceMod,Nat.reduceLeDiff,Nat.reduceLT,Nat.reduceBEq,Int.reduceToNat,Int.reduceLT,Int.reduceLE,Int.reduceEq,o64,b64]; exact congrArg (fun b => some (D.bool b)) (f64.trans rfl)
  · have r:=okRf n v
    have e : v.fdiv 4294967296 = v / 4294967296:=fdiv_pos h0 (by decide)
    have e2 : decide (v / 4294967296 = 0) = decide (v < 4294967296):=by rw [decide_eq_decide]; omega
    cases hr : decide (v < 4294967296)
    · rw [hr] at e2
      simp only [go_sem,Nat.reduceAdd,Nat.reduceSub,Nat.reduceMul,Nat.reduceDiv,Nat.reduceMod,Nat.reduceLeDiff,Nat.reduceLT,Nat.reduceBEq,Int.reduceToNat,Int.reduceLT,Int.reduceLE,Int.reduceEq,sh32,e,e2,vOk,hr]
    · rw [hr] at e2
      simp only [go_sem,Nat.reduceAdd,Nat.reduceSub,Nat.reduceMul,Nat.reduceDiv,Nat.reduceMod,Nat.reduceLeDiff,Nat.reduceLT,Nat.reduceBEq,Int.reduceToNat,Int.reduceLT,Int.reduceLE,Int.reduceEq,sh32,e,e2,r,vOk,hr]
  · have r1:=okRf n (v % 4294967296)
    have r2:=okRf n (v / 4294967296)
    have e : v.fdiv 4294967296 = v / 4294967296:=fdiv_pos h0 (by decide)
    have l : andU v 4294967295 = v % 4294967296:=low32 h0 h1
    cases hr : rfOk (v % 4294967296)
    · rw [hr] at r1
      simp only [go_sem,Nat.reduceAdd,Nat.reduceSub,Nat.reduceMul,Nat.reduceDiv,Nat.reduceMod,Nat.reduceLeDiff,Nat.reduceLT,Nat.reduceBEq,Int.reduceToNat,Int.reduceLT,Int.reduceLE,Int.reduceEq,o32,l,r1,vOk,hr]
    · rw [hr] at r1
      simp only [go_sem,Nat.reduceAdd,Nat.reduceSub,Nat.reduceMul,Nat.reduceDiv,Nat.reduceMod,Nat.reduceLeDiff,Nat.reduceLT,Nat.reduceBEq,Int.reduceToNat,Int.reduceLT,Int.reduceLE,Int.reduceEq,o32,l,r1,sh32,e,r2,vOk,hr]
theorem okCheckValue (n : Nat) (k v : Int) (h0 : 0 ≤ v) (h1 : v < 18446744073709551616) : callP (level E (n+3)) 73 [.agg [.int .i64 k,.int .u64 v]] = some (.int .i64 (ckVal k v)):=by
  rw [p73]
  have i1:=okIsKind (n+1) k
  by_cases hk : ckKind k = 0
  · have hk' : 0 ≤ k ∧ k < 11:=by unfold ckKind at hk; split at hk; assumption; omega
    have h:=okRight n k v hk h0 h1
    have e1 : decide (0 ≤ k) = true:=decide_eq_true hk'.1
    have e2 : decide (k < 11) = true:=decide_eq_true hk'.2
    cases hv : vOk k v
    · rw [hv] at h
      simp only [go_sem,Nat.reduceAdd,Nat.reduceSub,Nat.reduceMul,Nat.reduceDiv,Nat.reduceMod,Nat.reduceLeDiff,Nat.reduceLT,Nat.reduceBEq,Int.reduceToNat,Int.reduceLT,Int.reduceLE,Int.reduceEq,i1,e1,e2,h,okNwhen,ckVal,hk,hv,Bool.false_eq_true]
    · rw [hv] at h
      simp only [go_sem,Nat.reduceAdd,Nat.reduceSub,Nat.reduceMul,Nat.reduceDiv,Nat.reduceMod,Nat.reduceLeDiff,Nat.reduceLT,Nat.reduceBEq,Int.reduceToNat,Int.reduceLT,Int.reduceLE,Int.reduceEq,i1,e1,e2,h,okNwhen,ckVal,hk,hv,Bool.false_eq_true]
  · have hk' : ¬ (0 ≤ k ∧ k < 11):=by unfold ckKind at hk; split at hk; exact absurd rfl hk; assumption
    by_cases h2 : 0 ≤ k
    · have e1 : decide (0 ≤ k) = true:=decide_eq_true h2
      have e2 : decide (k < 11) = false:=decide_eq_false (by omega)
      simp only [go_sem,Nat.reduceAdd,Nat.reduceSub,Nat.reduceMul,Nat.reduceDiv,Nat.reduceMod,Nat.reduceLeDiff,Nat.reduceLT,Nat.reduceBEq,Int.reduceToNat,Int.reduceLT,Int.reduceLE,Int.reduceEq,i1,e1,e2,ckVal,hk]
    · have e1 : decide (0 ≤ k) = false:=decide_eq_false h2
      simp only [go_sem,Nat.reduceAdd,Nat.reduceSub,Nat.reduceMul,Nat.reduceDiv,Nat.reduceMod,Nat.reduceLeDiff,Nat.reduceLT,Nat.reduceBEq,Int.reduceToNat,Int.reduceLT,Int.reduceLE,Int.reduceEq,i1,e1,ckVal,hk]
def ckB1 (k v : Int) : Int:=if ckVal k v = 0 then 0 else 1
theorem okCheckG (n : Nat) (k v : Int) (h0 : 0 ≤ v) (h1 : v < 18446744073709551616) : callP (level E (n+4)) 61 [.int .i64 k,.int .u64 v] = some (.int .i64 (ckB1 k v)):=by
  rw [p61]
  have h:=okCheckValue n k v h0 h1
  by_cases hv : ckVal k v = 0
  · simp only [go_sem,Nat.reduceAdd,Nat.reduceSub,Nat.reduceMul,Nat.reduceDiv,Nat.reduceMod,Nat.reduceLeDiff,Nat.reduceLT,Nat.reduceBEq,Int.reduceToNat,Int.reduceLT,Int.reduceLE,Int.reduceEq,h,hv,ne_eq,not_true_eq_false,okWhen,ckB1,Bool.false_eq_true]
  · simp only [go_sem,Nat.reduceAdd,Nat.reduceSub,Nat.reduceMul,Nat.reduceDiv,Nat.reduceMod,Nat.reduceLeDiff,Nat.reduceLT,Nat.reduceBEq,Int.reduceToNat,Int.reduceLT,Int.reduceLE,Int.reduceEq,h,hv,ne_eq,not_false_eq_true,okWhen,ckB1,Bool.false_eq_true]
end Go.Vm.P4D

/- Chapter 04,functions: the reference's points. -/
set_option maxRecDepth 100000
set_option maxHeartbeats 2000000
namespace Go.Vm.P4D
open Go Go.Vm Go.Vm.P4
def hornW : Bx → List Int → Int
  | r :: b,x :: p => sb (ad (ml (hornW b p) r.ex) x) r.lo
  | _,_ => 0
theorem okLPoint (n : Nat) (b : Bool) (l : List Int) (hl : l.length < 1000000) : callP (level E (n+1)) 23 [slD b 1 (l.map ic)] = some (slD false 1 (l.map ic)):=by
  rw [p23]
  rcases l with _ | ⟨x,t⟩
  · cases b <;> simp only [go_sem,Nat.reduceAdd,Nat.reduceSub,Nat.reduceMul,Nat.reduceDiv,Nat.reduceMod,Nat.reduceLeDiff,Nat.reduceLT,Nat.reduceBEq,Int.reduceToNat,Int.reduceLT,Int.reduceLE,Int.reduceEq,slD] <;> rfl
  · have e : (t.length + 1) * 9 ≤ 70368744177664:=by simp at hl; omega
    have e0 : slD b 1 ((x :: t).map ic) = .sl 1 ((x :: t).map ic):=by cases b <;> rfl
    rw [e0]
    simp only [go_sem,Nat.reduceAdd,Nat.reduceSub,Nat.reduceMul,Nat.reduceDiv,Nat.reduceMod,Nat.reduceLeDiff,Nat.reduceLT,Nat.reduceBEq,Int.reduceToNat,Int.reduceLT,Int.reduceLE,Int.reduceEq,e] <;> rfl
end Go.Vm.P4D

/- Chapter 04,functions: the reference's values. -/
set_option maxRecDepth 100000
set_option maxHeartbeats 2000000
namespace Go.Vm.P4D
open Go Go.Vm Go.Vm.P4
end Go.Vm.P4D

/- Chapter 04,plain law: points and indices. -/
set_option maxRecDepth 100000
set_option maxHeartbeats 1000000
namespace Go.Vm.P4D
open Go Go.Vm Go.Vm.P4
def Okr (l : Bx) : Prop:=∀ r ∈ l,ckRange r = 0
theorem Okr.tl {r : Rg} {l : Bx} (h : Okr (r :: l)) : Okr l:=fun x hx => h x (List.mem_cons_of_mem _ hx)
def InB : Bx → List Int → Prop
  | r :: l,x :: p => r.lo ≤ x ∧ x < r.lo + r.ex ∧ InB l p
  | [],[] => True
  | _,_ => False
theorem digits_in : ∀ (l : Bx) (n : Int),(∀ r ∈ l,0 < r.ex) → InB l (digits l n)
  | [],_,_ => True.intro
  | r :: l,n,hx => by
    have hr0:=hx r (by simp)
    have m0:=Int.emod_nonneg n (show r.ex ≠ 0 by omega)
    have m1:=Int.emod_lt_of_pos n hr0
    exact ⟨by omega,by omega,digits_in l _ (fun x hx' => hx x (List.mem_cons_of_mem _ hx'))⟩
theorem nextW_P : ∀ (l : Bx) (p q : List Int),Okr l → InB l p → nextW l (p ++ q) = nextP l p ++ q
  | [],[],q,_,_ => by cases q <;> rfl
  | [],_ :: _,_,_,h => h.elim
  | _ :: _,[],_,_,h => h.elim
  | r :: l,x :: p,q,h,hi => by
    have hr:=ckRange0 (h r (by simp))
    obtain ⟨h1,h2,h3⟩:=hi
    have e1 : ad x 1 = x + 1:=wrp_ok (by omega)
    have e2 : ad r.lo r.ex = r.lo + r.ex:=wrp_ok (by omega)
    rw [List.cons_append,nextW,nextP,e1,e2]
    by_cases hc : x + 1 < r.lo + r.ex
    · rw [if_pos hc,if_pos hc]; rfl
    · rw [if_neg hc,if_neg hc,nextW_P l p q h.tl h3]; rfl
theorem plc_dig (l : Bx) (h : Okr l) (h3 : l.length ≤ 3) (hx : ∀ r ∈ l,0 < r.ex) : ∀ i : Nat,plc l i = digits l i ++ List.replicate (3 - l.length) 0
  | 0 => by
    rw [plc,plc0,show ((0 : Nat) : Int) = 0 from rfl,digits_zero,lows]
    rcases l with _ | ⟨r,_ | ⟨s,_ | ⟨t,_ | ⟨u,l⟩⟩⟩⟩
    · rfl
    · rfl
    · rfl
    · rfl
    · simp at h3
  | i + 1 => by
    rw [plc,plc_dig l h h3 hx i,nextW_P l _ _ h (digits_in l _ hx),next_digits l _ hx (by omega)]
    rfl
theorem plc_take (l : Bx) (h : Okr l) (h3 : l.length ≤ 3) (hx : ∀ r ∈ l,0 < r.ex) (i : Nat) : (plc l i).take l.length = digits l i:=by
  rw [plc_dig l h h3 hx i,List.take_append_of_le_length (by rw [digits_len]; exact Nat.le_refl _),List.take_of_length_le (by rw [digits_len]; exact Nat.le_refl _)]
theorem many_cons1 (r : Rg) : many [r] = ml 1 r.ex:=rfl
theorem many_cons2 (r s : Rg) : many [r,s] = ml (ml 1 r.ex) s.ex:=rfl
theorem many_cons3 (r s t : Rg) : many [r,s,t] = ml (ml (ml 1 r.ex) s.ex) t.ex:=rfl
theorem ex_pos {l : Bx} (h : Okr l) (hm : many l ≠ 0) : ∀ r ∈ l,0 < r.ex:=by
  intro r hr
  have h1:=(ckRange0 (h r hr)).2.2.1
  rcases Int.lt_or_eq_of_le h1 with h2 | h2
  · exact h2
  · exfalso
    apply hm
    have key : ∀ (l : Bx) (n : Int),r ∈ l → l.foldl (fun n r => ml n r.ex) n = 0:=by
      intro l
      have zero : ∀ l : Bx,l.foldl (fun n r => ml n r.ex) 0 = 0:=by
        intro l
        induction l with
        | nil => rfl
        | cons x l ih => rw [List.foldl_cons,show ml 0 x.ex = 0 from by rw [ml,Int.zero_mul]; decide]; exact ih
      induction l with
      | nil => intro n h; cases h
      | cons x l ih =>
        intro n hm
        rw [List.foldl_cons]
        rcases List.mem_cons.1 hm with rfl | hm
        · rw [← h2,show ml n 0 = 0 from by rw [ml,Int.mul_zero]; decide]; exact zero l
        · exact ih _ hm
    exact key l 1 hr
theorem hasB_in : ∀ (l : Bx) (p : List Int),Okr l → p.length = l.length → (hasB l p = true ↔ InB l p)
  | [],[],_,_ => by simp [hasB,InB]
  | [],_ :: _,_,h => by simp at h
  | _ :: _,[],_,h => by simp at h
  | r :: l,x :: p,h,hl => by
    have hr:=ckRange0 (h r (by simp))
    have e2 : ad r.lo r.ex = r.lo + r.ex:=wrp_ok (by omega)
    have ih:=hasB_in l p h.tl (by simpa using hl)
    rw [hasB,e2,InB]
    by_cases hc : x < r.lo ∨ x ≥ r.lo + r.ex
    · rw [if_pos hc]
      constructor
      · intro h; cases h
      · intro ⟨h1,h2,_⟩; omega
    · rw [if_neg hc,ih]
      constructor
      · intro h; exact ⟨by omega,by omega,h⟩
      · intro ⟨_,_,h⟩; exact h
theorem elt_horn (l : Bx) (p : List Int) (h : Okr l) (h3 : l.length ≤ 3) (hi : InB l p) : elt l ((p ++ [0,0,0]).take 3) (strides 1 l) 0 = hornW l p:=by
  rcases l with _ | ⟨r,_ | ⟨s,_ | ⟨t,_ | ⟨u,l⟩⟩⟩⟩
  · rcases p with _ | ⟨x,p⟩
    · rfl
    · exact hi.elim
  · rcases p with _ | ⟨x,_ | ⟨w,p⟩⟩
    · exact hi.elim
    · have hr:=ckRange0 (h r (by simp))
      obtain ⟨a1,a2,_⟩:=hi
      have e1 : sb x r.lo = x - r.lo:=wrp_ok (by omega)
      have e2 : ml (x - r.lo) 1 = x - r.lo:=by rw [ml,Int.mul_one]; exact wrp_ok (by omega)
      have e3 : ml 0 r.ex = 0:=by rw [ml,Int.zero_mul]; decide
      have e4 : ad 0 (x - r.lo) = x - r.lo:=by rw [ad,Int.zero_add]; exact wrp_ok (by omega)
      have e5 : ad 0 x = x:=by rw [ad,Int.zero_add]; exact wrp_ok (by omega)
      simp only [List.cons_append,List.nil_append,List.take_succ_cons,List.take_zero,elt,strides,hornW,e1,e2,e3,e4,e5]
    · exact hi.2.2.elim
  · rcases p with _ | ⟨x,_ | ⟨y,_ | ⟨w,p⟩⟩⟩
    · exact hi.elim
    · exact hi.2.2.elim
    · have hr:=ckRange0 (h r (by simp))
      have hs:=ckRange0 (h s (by simp))
      obtain ⟨a1,a2,b1,b2,_⟩:=hi
      have e1 : sb x r.lo = x - r.lo:=wrp_ok (by omega)
      have f1 : sb y s.lo = y - s.lo:=wrp_ok (by omega)
      have e2 : ml (x - r.lo) 1 = x - r.lo:=by rw [ml,Int.mul_one]; exact wrp_ok (by omega)
      have e3 : ml 0 s.ex = 0:=by rw [ml,Int.zero_mul]; decide
      have e4 : ad 0 (x - r.lo) = x - r.lo:=by rw [ad,Int.zero_add]; exact wrp_ok (by omega)
      have e5 : ad 0 y = y:=by rw [ad,Int.zero_add]; exact wrp_ok (by omega)
      have e6 : ml 1 r.ex = r.ex:=by rw [ml,Int.one_mul]; exact wrp_ok (by omega)
      obtain ⟨m1,m2,m3⟩:=ml_ok (a:=y - s.lo) (b:=r.ex) (m:=64) (by omega) (by omega) hr.2.2.1 hr.2.2.2.1 (by omega)
      have e7 : ad (x - r.lo) ((y - s.lo) * r.ex) = (x - r.lo) + (y - s.lo) * r.ex:=wrp_ok (by omega)
      have e8 : ad ((y - s.lo) * r.ex) x = (y - s.lo) * r.ex + x:=wrp_ok (by omega)
      have e9 : sb ((y - s.lo) * r.ex + x) r.lo = (y - s.lo) * r.ex + x - r.lo:=wrp_ok (by omega)
      simp only [List.cons_append,List.nil_append,List.take_succ_cons,List.take_zero,elt,strides,hornW,e1,e2,e3,e4,e5,e6,f1,m1,e7,e8,e9]
      omega
    · exact hi.2.2.2.2.elim
  · rcases p with _ | ⟨x,_ | ⟨y,_ | ⟨z,_ | ⟨w,p⟩⟩⟩⟩
    · exact hi.elim
    · exact hi.2.2.elim
    · exact hi.2.2.2.2.elim
    · have hr:=ckRange0 (h r (by simp))
      have hs:=ckRange0 (h s (by simp))
      have ht:=ckRange0 (h t (by simp))
      obtain ⟨a1,a2,b1,b2,c1,c2,_⟩:=hi
      have e1 : sb x r.lo = x - r.lo:=wrp_ok (by omega)
      have f1 : sb y s.lo = y - s.lo:=wrp_ok (by omega)
      have g1 : sb z t.lo = z - t.lo:=wrp_ok (by omega)
      have e2 : ml (x - r.lo) 1 = x - r.lo:=by rw [ml,Int.mul_one]; exact wrp_ok (by omega)
      have e3 : ml 0 t.ex = 0:=by rw [ml,Int.zero_mul]; decide
      have e4 : ad 0 (x - r.lo) = x - r.lo:=by rw [ad,Int.zero_add]; exact wrp_ok (by omega)
      have e5 : ad 0 z = z:=by rw [ad,Int.zero_add]; exact wrp_ok (by omega)
      have e6 : ml 1 r.ex = r.ex:=by rw [ml,Int.one_mul]; exact wrp_ok (by omega)
      obtain ⟨m1,m2,m3⟩:=ml_ok (a:=y - s.lo) (b:=r.ex) (m:=64) (by omega) (by omega) hr.2.2.1 hr.2.2.2.1 (by omega)
      obtain ⟨n1,n2,n3⟩:=ml_ok (a:=z - t.lo) (b:=s.ex) (m:=64) (by omega) (by omega) hs.2.2.1 hs.2.2.2.1 (by omega)
      obtain ⟨k1,k2,k3⟩:=ml_ok (a:=r.ex) (b:=s.ex) (m:=64) hr.2.2.1 hr.2.2.2.1 hs.2.2.1 hs.2.2.2.1 (by omega)
      obtain ⟨q1,q2,q3⟩:=ml_ok (a:=r.ex * s.ex) (b:=z - t.lo) (m:=4096) k2 (by omega) (by omega) (by omega) (by omega)
      have q1' : ml (z - t.lo) (r.ex * s.ex) = r.ex * s.ex * (z - t.lo):=by rw [← q1,ml,ml,Int.mul_comm]
      have e7 : ad (x - r.lo) ((y - s.lo) * r.ex) = (x - r.lo) + (y - s.lo) * r.ex:=wrp_ok (by omega)
      have e8 : ad ((x - r.lo) + (y - s.lo) * r.ex) (r.ex * s.ex * (z - t.lo)) = (x - r.lo) + (y - s.lo) * r.ex + r.ex * s.ex * (z - t.lo):=wrp_ok (by omega)
      have e9 : ad ((z - t.lo) * s.ex) y = (z - t.lo) * s.ex + y:=wrp_ok (by omega)
      have e10 : sb ((z - t.lo) * s.ex + y) s.lo = (z - t.lo) * s.ex + y - s.lo:=wrp_ok (by omega)
      obtain ⟨v1,v2,v3⟩:=ml_ok (a:=(z - t.lo) * s.ex + y - s.lo) (b:=r.ex) (m:=4160) (by omega) (by omega) hr.2.2.1 hr.2.2.2.1 (by omega)
      have e11 : ad (((z - t.lo) * s.ex + y - s.lo) * r.ex) x = ((z - t.lo) * s.ex + y - s.lo) * r.ex + x:=wrp_ok (by omega)
      have e12 : sb (((z - t.lo) * s.ex + y - s.lo) * r.ex + x) r.lo = ((z - t.lo) * s.ex + y - s.lo) * r.ex + x - r.lo:=wrp_ok (by omega)
      simp only [List.cons_append,List.nil_append,List.take_succ_cons,List.take_zero,elt,strides,hornW,e1,e2,e3,e4,e5,e6,f1,g1,m1,n1,k1,q1',e7,e8,e9,e10,v1,e11,e12]
      have z1 : ((z - t.lo) * s.ex + y - s.lo) * r.ex = r.ex * s.ex * (z - t.lo) + (y - s.lo) * r.ex:=by
        rw [show (z - t.lo) * s.ex + y - s.lo = (z - t.lo) * s.ex + (y - s.lo) by omega,Int.add_mul,Int.mul_assoc,Int.mul_comm (z - t.lo) (s.ex * r.ex),Int.mul_comm s.ex r.ex]
      omega
    · exact hi.2.2.2.2.2.2.elim
  · simp at h3
end Go.Vm.P4D

/- Chapter 04,functions: the reference's images: elements,copies,what is checked. -/
set_option maxRecDepth 100000
set_option maxHeartbeats 4000000
namespace Go.Vm.P4D
open Go Go.Vm Go.Vm.P4
theorem okOwnInts (n : Nat) (b : Bool) (l : List Int) (hl : l.length < 1000000) : callP (level E (n+1)) 51 [slD b 1 (l.map ic)] = some (slD true 1 (l.map ic)):=by
  rw [p51]
  rcases l with _ | ⟨x,t⟩
  · cases b <;> simp only [go_sem,Nat.reduceAdd,Nat.reduceSub,Nat.reduceMul,Nat.reduceDiv,Nat.reduceMod,Nat.reduceLeDiff,Nat.reduceLT,Nat.reduceBEq,Int.reduceToNat,Int.reduceLT,Int.reduceLE,Int.reduceEq,slD] <;> rfl
  · have e : (t.length + 1) * 9 ≤ 70368744177664:=by simp at hl; omega
    have e0 : slD b 1 ((x :: t).map ic) = .sl 1 ((x :: t).map ic):=by cases b <;> rfl
    rw [e0]
    simp only [go_sem,Nat.reduceAdd,Nat.reduceSub,Nat.reduceMul,Nat.reduceDiv,Nat.reduceMod,Nat.reduceLeDiff,Nat.reduceLT,Nat.reduceBEq,Int.reduceToNat,Int.reduceLT,Int.reduceLE,Int.reduceEq,e] <;> rfl
def Im.own (m : Im) : Im:={ m with bb:=true,tb:=true,db:=true }
theorem okOwnBitsI (n : Nat) (b : Bool) (l : List Int) (hl : l.length < 1000000) : callI (level E (n+1)) 52 [slD b 1 (l.map ub)] = some (vK 0 1 (l.map ub),oK 1 (l.map ub)):=by
  rw [i52]
  rcases l with _ | ⟨x,t⟩
  · cases b <;> simp only [go_sem,Nat.reduceAdd,Nat.reduceSub,Nat.reduceMul,Nat.reduceDiv,Nat.reduceMod,Nat.reduceLeDiff,Nat.reduceLT,Nat.reduceBEq,Int.reduceToNat,Int.reduceLT,Int.reduceLE,Int.reduceEq,slD,vK,oK] <;> rfl
  · have e : (t.length + 1) * 9 ≤ 70368744177664:=by simp at hl; omega
    have e0 : slD b 1 ((x :: t).map ub) = .sl 1 ((x :: t).map ub):=by cases b <;> rfl
    rw [e0]
    simp only [go_sem,Nat.reduceAdd,Nat.reduceSub,Nat.reduceMul,Nat.reduceDiv,Nat.reduceMod,Nat.reduceLeDiff,Nat.reduceLT,Nat.reduceBEq,Int.reduceToNat,Int.reduceLT,Int.reduceLE,Int.reduceEq,e,vK,oK] <;> rfl
theorem okOwnImage (n : Nat) (m : Im) (hx : m.bx.length < 1000000) (hs : m.st.length < 1000000) (hd : m.dt.length < 1000000) : callP (level E (n+2)) 11 [enIm m] = some (enIm m.own):=by
  rw [p11]
  have b1:=okOwnBox n m.bb m.bx hx
  have i1:=okOwnInts n m.tb m.st hs
  have u1:=okOwnBitsI n m.db m.dt hd
  rcases hq : m.dt with _ | ⟨x,t⟩
  · rw [hq] at u1
    simp only [go_sem,Nat.reduceAdd,Nat.reduceSub,Nat.reduceMul,Nat.reduceDiv,Nat.reduceMod,Nat.reduceLeDiff,Nat.reduceLT,Nat.reduceBEq,Int.reduceToNat,Int.reduceLT,Int.reduceLE,Int.reduceEq,vK,oK] at u1
    simp only [go_sem,Nat.reduceAdd,Nat.reduceSub,Nat.reduceMul,Nat.reduceDiv,Nat.reduceMod,Nat.reduceLeDiff,Nat.reduceLT,Nat.reduceBEq,Int.reduceToNat,Int.reduceLT,Int.reduceLE,Int.reduceEq,enIm,b1,i1,u1,hq,vK,oK,Im.own]
    rfl
  · rw [hq] at u1
    simp only [go_sem,Nat.reduceAdd,Nat.reduceSub,Nat.reduceMul,Nat.reduceDiv,Nat.reduceMod,Nat.reduceLeDiff,Nat.reduceLT,Nat.reduceBEq,Int.reduceToNat,Int.reduceLT,Int.reduceLE,Int.reduceEq,vK,oK] at u1
    simp only [go_sem,Nat.reduceAdd,Nat.reduceSub,Nat.reduceMul,Nat.reduceDiv,Nat.reduceMod,Nat.reduceLeDiff,Nat.reduceLT,Nat.reduceBEq,Int.reduceToNat,Int.reduceLT,Int.reduceLE,Int.reduceEq,enIm,b1,i1,u1,hq,vK,oK,Im.own]
    rfl
def shortI (m : Im) : Bool:=decide (m.bx.length ≤ 4) && decide (m.st.length ≤ 5) && decide ((m.bx.take 4).foldl (fun n r => ml n (max 0 (min r.ex 200))) 1 ≤ 100) && decide (m.dt.length ≤ 200)
theorem okShortImage (n : Nat) (m : Im) : callP (level E (n+1)) 7 [enIm m] = some (.bool (shortI m)):=by
  rw [p7]
  simp only [go_sem,Nat.reduceAdd,Nat.reduceSub,Nat.reduceMul,Nat.reduceDiv,Nat.reduceMod,Nat.reduceLeDiff,Nat.reduceLT,Nat.reduceBEq,Int.reduceToNat,Int.reduceLT,Int.reduceLE,Int.reduceEq,enIm]
  have h:=loop_fold (f:=aCode (level E (n)) ⟨0,false⟩ b7_0) (h:=head ⟨0,false⟩ [0,0,1,1,1,0]) (Φ:=outC ⟨0,false⟩ [0,0,1,1,0,0]) (m.bx.take 4) (fun (a : Int) i => ⟨[.junk,.junk,.imm (.ptr [.int .i64 m.kd,enB m.bb m.bx,slD m.tb 1 (m.st.map ic),slD m.db 1 (m.dt.map ub)]),.imm (.int .i64 a),.imm (.int .i64 i),.junk],[],none⟩) (fun _ _ => True)
    (fun a x => ml a (max 0 (min x.ex 200))) (fun a => some (.exit 0,⟨[.junk,.junk,.imm (.ptr [.int .i64 m.kd,enB m.bb m.bx,slD m.tb 1 (m.st.map ic),slD m.db 1 (m.dt.map ub)]),.imm (.int .i64 a),.junk,.junk],[],none⟩)) 1 trivial
    (fun a i x _ h2 h1 => ⟨by
      rw [List.length_take] at h2
      rw [List.getElem?_take_of_lt (by omega)] at h1
      have h4 : (i : Int) < 4:=by omega
      rw [rnd_eq]
      simp only [go_sem,Nat.reduceAdd,Nat.reduceSub,Nat.reduceMul,Nat.reduceDiv,Nat.reduceMod,Nat.reduceLeDiff,Nat.reduceLT,Nat.reduceBEq,Int.reduceToNat,Int.reduceLT,Int.reduceLE,Int.reduceEq,lt_t (show i < m.bx.length by omega),h1,h4,ml,enB]
      rw [wrpS (by omega)],trivial⟩)
    (fun a _ => by
      rw [rnd_eq]
      rw [List.length_take]
      by_cases h5 : m.bx.length ≤ 4
      · rw [Nat.min_eq_right h5]
        simp only [go_sem,Nat.reduceAdd,Nat.reduceSub,Nat.reduceMul,Nat.reduceDiv,Nat.reduceMod,Nat.reduceLeDiff,Nat.reduceLT,Nat.reduceBEq,Int.reduceToNat,Int.reduceLT,Int.reduceLE,Int.reduceEq,lt_f (Nat.le_refl _),enB]
      · rw [Nat.min_eq_left (by omega)]
        have h6 : (4 : Int) < m.bx.length:=by omega
        have h7 : ¬ (4 : Int) < 4:=by omega
        simp only [go_sem,Nat.reduceAdd,Nat.reduceSub,Nat.reduceMul,Nat.reduceDiv,Nat.reduceMod,Nat.reduceLeDiff,Nat.reduceLT,Nat.reduceBEq,Int.reduceToNat,Int.reduceLT,Int.reduceLE,Int.reduceEq,h6,h7,enB])
  rw [cast_0] at h
  try simp only [go_sem,Nat.reduceAdd,Nat.reduceSub,Nat.reduceMul,Nat.reduceDiv,Nat.reduceMod,Nat.reduceLeDiff,Nat.reduceLT,Nat.reduceBEq,Int.reduceToNat,Int.reduceLT,Int.reduceLE,Int.reduceEq] at h
  rw [h,shortI]
  clear h
  generalize (m.bx.take 4).foldl (fun n r => ml n (max 0 (min r.ex 200))) 1 = F
  by_cases h5 : (m.bx.length : Int) ≤ 4
  · have h6 : m.bx.length ≤ 4:=by omega
    by_cases h7 : (m.st.length : Int) ≤ 5
    · have h8 : m.st.length ≤ 5:=by omega
      by_cases h9 : F ≤ 100
      · by_cases h10 : (m.dt.length : Int) ≤ 200
        · have h11 : m.dt.length ≤ 200:=by omega
          simp only [go_sem,Nat.reduceAdd,Nat.reduceSub,Nat.reduceMul,Nat.reduceDiv,Nat.reduceMod,Nat.reduceLeDiff,Nat.reduceLT,Nat.reduceBEq,Int.reduceToNat,Int.reduceLT,Int.reduceLE,Int.reduceEq,h5,h6,h7,h8,h9,h10,h11]
        · have h11 : ¬ m.dt.length ≤ 200:=by omega
          simp only [go_sem,Nat.reduceAdd,Nat.reduceSub,Nat.reduceMul,Nat.reduceDiv,Nat.reduceMod,Nat.reduceLeDiff,Nat.reduceLT,Nat.reduceBEq,Int.reduceToNat,Int.reduceLT,Int.reduceLE,Int.reduceEq,h5,h6,h7,h8,h9,h10,h11]
      · simp only [go_sem,Nat.reduceAdd,Nat.reduceSub,Nat.reduceMul,Nat.reduceDiv,Nat.reduceMod,Nat.reduceLeDiff,Nat.reduceLT,Nat.reduceBEq,Int.reduceToNat,Int.reduceLT,Int.reduceLE,Int.reduceEq,h5,h6,h7,h8,h9,Bool.false_and]
    · have h8 : ¬ m.st.length ≤ 5:=by omega
      simp only [go_sem,Nat.reduceAdd,Nat.reduceSub,Nat.reduceMul,Nat.reduceDiv,Nat.reduceMod,Nat.reduceLeDiff,Nat.reduceLT,Nat.reduceBEq,Int.reduceToNat,Int.reduceLT,Int.reduceLE,Int.reduceEq,h5,h6,h7,h8,Bool.and_false,Bool.false_and]
  · have h6 : ¬ m.bx.length ≤ 4:=by omega
    simp only [go_sem,Nat.reduceAdd,Nat.reduceSub,Nat.reduceMul,Nat.reduceDiv,Nat.reduceMod,Nat.reduceLeDiff,Nat.reduceLT,Nat.reduceBEq,Int.reduceToNat,Int.reduceLT,Int.reduceLE,Int.reduceEq,h5,h6,Bool.false_and]
end Go.Vm.P4D

/- Chapter 04,functions: the reference's check of an image. -/
set_option maxRecDepth 100000
set_option maxHeartbeats 4000000
namespace Go.Vm.P4D
open Go Go.Vm Go.Vm.P4
theorem elt_app : ∀ (l : Bx) (p q s : List Int) (n : Int),l.length ≤ p.length → l.length ≤ s.length → elt l (p ++ q) s n = elt l p s n
  | [],p,q,s,n,_,_ => by cases p <;> cases q <;> cases s <;> rfl
  | r :: l,[],_,_,_,h,_ => by simp at h
  | r :: l,_ :: _,_,[],_,_,h => by simp at h
  | r :: l,x :: p,q,y :: s,n,h1,h2 => by
    rw [List.cons_append,elt,elt,elt_app l p q s _ (by simpa using h1) (by simpa using h2)]
def Oks (s : List Int) : Prop:=∀ x ∈ s,0 ≤ x ∧ x ≤ 4096
theorem elt_nn : ∀ (l : Bx) (p s : List Int) (n : Int),Okr l → InB l p → Oks s → l.length ≤ s.length → 0 ≤ n → n + l.length * 258048 ≤ 1000000000 → 0 ≤ elt l p s n
  | [],[],s,n,_,_,_,_,hn,_ => by cases s <;> simpa [elt] using hn
  | [],_ :: _,_,_,_,h,_,_,_,_ => h.elim
  | _ :: _,[],_,_,_,h,_,_,_,_ => h.elim
  | r :: l,x :: p,[],n,_,_,_,h,_,_ => by simp at h
  | r :: l,x :: p,y :: s,n,h,hi,hs,hl,hn,hb => by
    have hr:=ckRange0 (h r (by simp))
    obtain ⟨a1,a2,a3⟩:=hi
    obtain ⟨b1,b2⟩:=hs y (by simp)
    have e1 : sb x r.lo = x - r.lo:=wrp_ok (by omega)
    have m0 : 0 ≤ (x - r.lo) * y:=Int.mul_nonneg (by omega) b1
    have m1 : (x - r.lo) * y ≤ 63 * 4096:=Int.mul_le_mul (by omega) b2 b1 (by omega)
    have e2 : ml (x - r.lo) y = (x - r.lo) * y:=wrp_ok (by omega)
    simp only [List.length_cons] at hb
    have e3 : ad n ((x - r.lo) * y) = n + (x - r.lo) * y:=wrp_ok (by omega)
    rw [elt,e1,e2,e3]
    exact elt_nn l p s _ h.tl a3 (fun z hz => hs z (List.mem_cons_of_mem _ hz)) (by simpa using hl) (by omega) (by omega)
def ckI (m : Im) : Int:=ckIm (ckB1 m.kd) m
def Ok64 (l : List Int) : Prop:=∀ v ∈ l,0 ≤ v ∧ v < 18446744073709551616
theorem any_oks {s : List Int} (h : s.any (fun x => !(decide (x ≥ 0) && decide (x ≤ 4096))) = false) : Oks s:=by
  intro x hx
  have:=List.any_eq_false.1 h x hx
  simp at this
  exact this
end Go.Vm.P4D

/- Chapter 04,plain law: right images: where their elements lie. -/
set_option maxRecDepth 100000
set_option maxHeartbeats 1000000
namespace Go.Vm.P4D
open Go Go.Vm Go.Vm.P4
def hornE : Bx → List Int → Int
  | r :: b,x :: p => hornE b p * r.ex + (x - r.lo)
  | _,_ => 0
def prodE : Bx → Int
  | [] => 1
  | r :: b => prodE b * r.ex
theorem horn_bd : ∀ (l : Bx) (p : List Int),(∀ r ∈ l,0 < r.ex) → InB l p → 0 ≤ hornE l p ∧ hornE l p < prodE l
  | [],[],_,_ => by simp [hornE,prodE]
  | [],_ :: _,_,h => h.elim
  | _ :: _,[],_,h => h.elim
  | r :: l,x :: p,hx,⟨h1,h2,h3⟩ => by
    have hr:=hx r (by simp)
    obtain ⟨i1,i2⟩:=horn_bd l p (fun y hy => hx y (List.mem_cons_of_mem _ hy)) h3
    have m0 : 0 ≤ hornE l p * r.ex:=Int.mul_nonneg i1 (by omega)
    have m1 : (hornE l p + 1) * r.ex ≤ prodE l * r.ex:=Int.mul_le_mul_of_nonneg_right (by omega) (by omega)
    rw [Int.add_mul,Int.one_mul] at m1
    rw [hornE,prodE]
    constructor <;> omega
theorem digits_horn : ∀ (l : Bx) (p : List Int),(∀ r ∈ l,0 < r.ex) → InB l p → digits l (hornE l p) = p
  | [],[],_,_ => rfl
  | [],_ :: _,_,h => h.elim
  | _ :: _,[],_,h => h.elim
  | r :: l,x :: p,hx,⟨h1,h2,h3⟩ => by
    have hr:=hx r (by simp)
    have ih:=digits_horn l p (fun y hy => hx y (List.mem_cons_of_mem _ hy)) h3
    have e:=(Int.ediv_emod_unique (a:=hornE l p * r.ex + (x - r.lo)) (b:=r.ex) (r:=x - r.lo) (q:=hornE l p) hr).2 ⟨by rw [Int.mul_comm]; omega,by omega,by omega⟩
    rw [hornE,digits,e.1,e.2,ih]
    congr 1; omega
theorem many_prod {l : Bx} (h : Okr l) (h3 : l.length ≤ 3) : many l = prodE l:=by
  rcases l with _ | ⟨r,_ | ⟨s,_ | ⟨t,_ | ⟨u,l⟩⟩⟩⟩
  · rfl
  · have hr:=ckRange0 (h r (by simp))
    obtain ⟨e1,e2,e3⟩:=ml_ok (a:=1) (m:=1) (by omega) (by omega) hr.2.2.1 hr.2.2.2.1 (by omega)
    rw [many_cons1,e1]; rfl
  · have hr:=ckRange0 (h r (by simp))
    have hs:=ckRange0 (h s (by simp))
    obtain ⟨e1,e2,e3⟩:=ml_ok (a:=1) (m:=1) (by omega) (by omega) hr.2.2.1 hr.2.2.2.1 (by omega)
    obtain ⟨f1,f2,f3⟩:=ml_ok (m:=64) e2 (by omega) hs.2.2.1 hs.2.2.2.1 (by omega)
    rw [many_cons2,e1,f1]
    simp only [prodE,Int.one_mul]
    rw [Int.mul_comm]
  · have hr:=ckRange0 (h r (by simp))
    have hs:=ckRange0 (h s (by simp))
    have ht:=ckRange0 (h t (by simp))
    obtain ⟨e1,e2,e3⟩:=ml_ok (a:=1) (m:=1) (by omega) (by omega) hr.2.2.1 hr.2.2.2.1 (by omega)
    obtain ⟨f1,f2,f3⟩:=ml_ok (m:=64) e2 (by omega) hs.2.2.1 hs.2.2.2.1 (by omega)
    obtain ⟨g1,g2,g3⟩:=ml_ok (m:=4096) f2 (by omega) ht.2.2.1 ht.2.2.2.1 (by omega)
    rw [many_cons3,e1,f1,g1]
    simp only [prodE,Int.one_mul]
    rw [Int.mul_comm r.ex s.ex,Int.mul_comm (s.ex * r.ex) t.ex,← Int.mul_assoc]
  · simp at h3
theorem ckPts0 (m : Im) : ∀ (r : List Nat) (T : List Int),ckPts m T r = 0 → (∀ i ∈ r,elAt m i < m.dt.length ∧ elAt m i ∉ T) ∧ (r.map (elAt m)).Nodup
  | [],_,_ => ⟨fun i hi => (nomatch hi),List.nodup_nil⟩
  | i :: r,T,h => by
    unfold ckPts at h
    by_cases h1 : (m.dt.length : Int) ≤ elAt m i
    · rw [if_pos h1] at h; omega
    · rw [if_neg h1] at h
      by_cases h2 : elAt m i ∈ T
      · rw [if_pos h2] at h; omega
      · rw [if_neg h2] at h
        obtain ⟨i1,i2⟩:=ckPts0 m r _ h
        refine ⟨fun j hj => ?_,?_⟩
        · rcases List.mem_cons.1 hj with rfl | hj
          · exact ⟨by omega,h2⟩
          · obtain ⟨j1,j2⟩:=i1 j hj
            exact ⟨j1,fun hc => j2 (List.mem_append_left _ hc)⟩
        · rw [List.map_cons,List.nodup_cons]
          refine ⟨fun hc => ?_,i2⟩
          obtain ⟨j,hj,hje⟩:=List.mem_map.1 hc
          obtain ⟨_,j2⟩:=i1 j hj
          exact j2 (by rw [hje]; simp)
structure Good (m : Im) (N : Nat) : Prop where
  kd : ckKind m.kd = 0
  bx : ckBox m.bx = 0
  stl : m.st.length = m.bx.length
  st : Oks m.st
  many : many m.bx = N
  small : N ≤ 4096
  dtl : m.dt.length ≤ 4096
  dt : fnz (m.dt.map (ckB1 m.kd)) = 0
  pts : ckPts m [] (List.range N) = 0
theorem good_of {m : Im} (h : ckI m = 0) : ∃ N,Good m N:=by
  unfold ckI ckIm at h
  by_cases hA : ckA m = 0
  · rw [if_pos hA] at h
    by_cases hB : ckB m = 0
    · rw [if_pos hB] at h
      by_cases hD : fnz (m.dt.map (ckB1 m.kd)) = 0
      · rw [if_pos hD] at h
        obtain ⟨a1,a2,a3⟩:=ckA0 hA
        obtain ⟨N,hN,hN2⟩:=many_nat a2
        have hs:=fz0 _ hB (if m.st.any (fun x => !(decide (x ≥ 0) && decide (x ≤ 4096))) then 3 else 0) (by simp)
        have hl:=fz0 _ hB (if 4096 < m.dt.length then 5 else 0) (by simp)
        refine ⟨N,a1,a2,a3,any_oks ?_,hN,hN2,?_,hD,?_⟩
        · cases hc : m.st.any (fun x => !(decide (x ≥ 0) && decide (x ≤ 4096)))
          · rfl
          · rw [hc] at hs; exact absurd hs (by decide)
        · split at hl
          · omega
          · omega
        · have : (Go.Vm.P4.many m.bx).toNat = N:=by omega
          rwa [this] at h
      · rw [if_neg hD] at h; exact absurd h hD
    · rw [if_neg hB] at h; exact absurd h hB
  · rw [if_neg hA] at h; exact absurd h hA
namespace Good
variable {m : Im} {N : Nat} (G : Good m N)
include G
theorem okr : Okr m.bx:=(ckBox0 G.bx).2.2.1
theorem len3 : m.bx.length ≤ 3:=(ckBox0 G.bx).2.1
theorem len1 : 1 ≤ m.bx.length:=(ckBox0 G.bx).1
theorem pos (h : N ≠ 0) : ∀ r ∈ m.bx,0 < r.ex:=ex_pos G.okr (by have:=G.many; omega)
theorem elIdx {p : List Int} (hp : InB m.bx p) : (∀ r ∈ m.bx,0 < r.ex) ∧ ∃ i : Nat,i < N ∧ digits m.bx i = p ∧ elAt m i = elt m.bx p m.st 0:=by
  have hx : ∀ r ∈ m.bx,0 < r.ex:=by
    have key : ∀ (l : Bx) (p : List Int),InB l p → ∀ r ∈ l,0 < r.ex:=by
      intro l
      induction l with
      | nil => intro p _ r hr; cases hr
      | cons y l ih =>
        intro p hp r hr
        rcases p with _ | ⟨x,p⟩
        · exact hp.elim
        obtain ⟨h1,h2,h3⟩:=hp
        rcases List.mem_cons.1 hr with rfl | hr
        · omega
        · exact ih p h3 r hr
    exact key _ _ hp
  obtain ⟨h1,h2⟩:=horn_bd m.bx p hx hp
  have h3:=digits_horn m.bx p hx hp
  have h4:=many_prod G.okr G.len3
  have h5:=G.many
  refine ⟨hx,(hornE m.bx p).toNat,by omega,?_,?_⟩
  · rw [show (((hornE m.bx p).toNat : Nat) : Int) = hornE m.bx p by omega]; exact h3
  · have e2:=plc_dig m.bx G.okr G.len3 hx (hornE m.bx p).toNat
    rw [show (((hornE m.bx p).toNat : Nat) : Int) = hornE m.bx p by omega,h3] at e2
    have hl : p.length = m.bx.length:=by rw [← h3,digits_len]
    rw [elAt,e2,elt_app _ _ _ _ _ (by omega) (by have:=G.stl; omega)]
theorem nn {p : List Int} (hp : InB m.bx p) : 0 ≤ elt m.bx p m.st 0 :=
  elt_nn _ _ _ _ G.okr hp G.st (by have:=G.stl; omega) (by omega) (by have:=G.len3; omega)
end Good
def atI (m : Im) (p : List Int) : Int:=(m.dt[(elt m.bx p m.st 0).toNat]?).getD 0
theorem Good.at {m : Im} {N : Nat} (G : Good m N) {p : List Int} (hp : InB m.bx p) : ∃ k : Nat,elt m.bx p m.st 0 = k ∧ k < m.dt.length ∧ m.dt[k]? = some (atI m p):=by
  obtain ⟨hx,i,h1,h2,h3⟩:=G.elIdx hp
  have h4:=((ckPts0 m _ _ G.pts).1 i (by simpa using h1)).1
  have h5:=G.nn hp
  refine ⟨(elt m.bx p m.st 0).toNat,by omega,by omega,?_⟩
  rw [atI,List.getElem?_eq_getElem (show (elt m.bx p m.st 0).toNat < m.dt.length by omega)]; rfl
theorem Good.inj {m : Im} {N : Nat} (G : Good m N) {p q : List Int} (hp : InB m.bx p) (hq : InB m.bx q) (h : elt m.bx p m.st 0 = elt m.bx q m.st 0) : p = q:=by
  obtain ⟨_,i,i1,i2,i3⟩:=G.elIdx hp
  obtain ⟨_,j,j1,j2,j3⟩:=G.elIdx hq
  have nd:=(ckPts0 m _ _ G.pts).2
  have e : i = j:=by
    have h1 : ((List.range N).map (elAt m))[i]? = some (elAt m i):=by simp [i1]
    have h2 : ((List.range N).map (elAt m))[j]? = some (elAt m j):=by simp [j1]
    have h3 : ((List.range N).map (elAt m))[i]? = ((List.range N).map (elAt m))[j]?:=by rw [h1,h2,i3,j3,h]
    exact (List.getElem?_inj (by simpa using i1) nd).1 h3
  rw [← i2,← j2,e]
theorem in_pad {l : Bx} {p : List Int} (h : InB l p) : p.length = l.length:=by
  induction l generalizing p with
  | nil => cases p with | nil => rfl | cons x p => exact h.elim
  | cons r l ih => cases p with | nil => exact h.elim | cons x p => simp [ih h.2.2]
theorem Good.atP {m : Im} {N : Nat} (G : Good m N) {p q : List Int} (hp : InB m.bx p) : ∃ k : Nat,elt m.bx (p ++ q) m.st 0 = k ∧ k < m.dt.length ∧ m.dt[k]? = some (atI m p):=by
  obtain ⟨k,h1,h2⟩:=G.at hp
  exact ⟨k,by rw [elt_app _ _ _ _ _ (by rw [in_pad hp]; exact Nat.le_refl _) (by have:=G.stl; omega)]; exact h1,h2⟩
end Go.Vm.P4D

/- Chapter 04,functions: Check and Edge,whatever the image. -/
set_option maxRecDepth 100000
set_option maxHeartbeats 4000000
namespace Go.Vm.P4D
open Go Go.Vm Go.Vm.P4
def inn (rule : Nat) (r : Rg) (c : Int) : Int:=match rule with
  | 0 => min (max c r.lo) (r.lo + r.ex - 1)
  | 1 => r.lo + (c - r.lo) % r.ex
  | _ => r.lo + min ((c - r.lo) % (2 * r.ex)) (2 * r.ex - 1 - (c - r.lo) % (2 * r.ex))
theorem pad3 (p : List Int) (h : p.length ≤ 3) : (p ++ [0,0,0]).take 3 = p ++ List.replicate (3 - p.length) 0:=by
  rcases p with _ | ⟨x,_ | ⟨y,_ | ⟨z,_ | ⟨w,p⟩⟩⟩⟩
  · rfl
  · rfl
  · rfl
  · rfl
  · simp at h
end Go.Vm.P4D

/- Chapter 04: what the laws' arguments hold: images,values,points with values. -/
set_option maxRecDepth 100000
namespace Go.Vm.P4D
open Go Go.Vm Go.Vm.P4 Go.Proofs Go.ChangeShapes
section
variable {H : Type} {enc : TypeId × Value → H} {W : World} {sp : Nat → Bool} {held : Bool}
theorem cellsU : Tryd.prog.cellsOf 41 = 1:=by kernel_rfl
theorem cellsBits : Tryd.prog.cellsOf 25 = 1:=by kernel_rfl
theorem cellsImage : Tryd.prog.cellsOf 27 = 4:=by kernel_rfl
theorem cellsValue : Tryd.prog.cellsOf 51 = 2:=by kernel_rfl
theorem cellsSpot : Tryd.prog.cellsOf 78 = 3:=by kernel_rfl
theorem u64_range {k : Int} (h : (Lit.int .u64 k).wf = true) : 0 ≤ k ∧ k < 18446744073709551616:=by
  simp [Lit.wf] at h
  have e1 : IntKind.u64.min = 0:=by decide
  have e2 : IntKind.u64.max = 18446744073709551615:=by decide
  rw [e1,e2] at h
  omega
theorem rd_u64 {n : Nat} {cs : List Value} {x : DataW H × List MemPlace} (h : DataW.trod enc Tryd.prog W 0 sp held n 41 cs = some x) : ∃ a : { v : Int // 0 ≤ v ∧ v < 18446744073709551616 },(ub a.1).length = 1 ∧ Holds W (ub a.1) cs:=by
  obtain ⟨k,rfl,_,hw⟩:=DataW.trod_int Tryd.underlying41 h
  exact ⟨⟨k,u64_range hw⟩,rfl,holds_one rfl (.int _ _)⟩
theorem rd_bits {n : Nat} {cs : List Value} {x : DataW H × List MemPlace} (h : DataW.trod enc Tryd.prog W 0 sp held n 25 cs = some x) : ∃ (b : Bool) (l : List Int),Ok64 l ∧ Holds W [slD b 1 (l.map ub)] cs:=by
  obtain ⟨b,l,hl⟩:=rd_slice (en:=fun a : { v : Int // 0 ≤ v ∧ v < 18446744073709551616 } => ub a.1) Tryd.underlying25 cellsU (by decide) (fun _ _ _ h => rd_u64 h) h
  refine ⟨b,l.map (·.1),fun v hv => ?_,?_⟩
  · obtain ⟨a,_,rfl⟩:=List.mem_map.1 hv
    exact a.2
  · rw [List.map_map]; exact hl
theorem rd_image {n : Nat} {cs : List Value} {x : DataW H × List MemPlace} (h : DataW.trod enc Tryd.prog W 0 sp held n 27 cs = some x) : ∃ m : Im,Ok64 m.dt ∧ Holds W [.int .i64 m.kd,enB m.bb m.bx,slD m.tb 1 (m.st.map ic),slD m.db 1 (m.dt.map ub)] cs:=by
  obtain ⟨xs,n',_,_,hl,hn,hf⟩:=DataW.trod_struct Tryd.underlying27 h
  rw [cellsImage] at hl
  obtain ⟨a,b,c,d,rfl⟩:=four_of hl
  have f0:=(hf 0 _ rfl).trans (List.getElem?_eq_getElem (show 0 < xs.length by rw [hn]; decide))
  have f1:=(hf 1 _ rfl).trans (List.getElem?_eq_getElem (show 1 < xs.length by rw [hn]; decide))
  have f2:=(hf 2 _ rfl).trans (List.getElem?_eq_getElem (show 2 < xs.length by rw [hn]; decide))
  have f3:=(hf 3 _ rfl).trans (List.getElem?_eq_getElem (show 3 < xs.length by rw [hn]; decide))
  simp only [List.getElem_toArray,List.getElem_cons_zero,List.getElem_cons_succ,cells3,cellsBox,cellsInts,cellsBits,List.drop_zero,List.drop_succ_cons,List.take_succ_cons,List.take_zero,List.take_nil] at f0 f1 f2 f3
  obtain ⟨p,e1,_,_⟩:=DataW.trod_int Tryd.underlying3 f0
  simp only [List.cons.injEq,and_true] at e1
  subst e1
  obtain ⟨b1,l1,h1⟩:=rd_box f1
  obtain ⟨b2,l2,h2⟩:=rd_ints f2
  obtain ⟨b3,l3,h64,h3⟩:=rd_bits f3
  exact ⟨⟨p,b1,l1,b2,l2,b3,l3⟩,h64,holds_app (a:=[.int .i64 p]) (x:=[.int .i64 p]) (holds_one rfl (.int _ _)) (holds_app (x:=[b]) h1 (holds_app (x:=[c]) h2 h3))⟩
theorem rd_value {n : Nat} {cs : List Value} {x : DataW H × List MemPlace} (h : DataW.trod enc Tryd.prog W 0 sp held n 51 cs = some x) : ∃ k v : Int,(0 ≤ v ∧ v < 18446744073709551616) ∧ Holds W [.int .i64 k,.int .u64 v] cs:=by
  obtain ⟨xs,n',_,_,hl,hn,hf⟩:=DataW.trod_struct Tryd.underlying51 h
  rw [cellsValue] at hl
  obtain ⟨a,b,rfl⟩:=two_of hl
  have f0:=(hf 0 _ rfl).trans (List.getElem?_eq_getElem (show 0 < xs.length by rw [hn]; decide))
  have f1:=(hf 1 _ rfl).trans (List.getElem?_eq_getElem (show 1 < xs.length by rw [hn]; decide))
  simp only [List.getElem_toArray,List.getElem_cons_zero,List.getElem_cons_succ,cells3,cellsU,List.drop_zero,List.drop_succ_cons,List.take_succ_cons,List.take_zero,List.take_nil] at f0 f1
  obtain ⟨p,e1,_,_⟩:=DataW.trod_int Tryd.underlying3 f0
  obtain ⟨q,e2,_,hw⟩:=DataW.trod_int Tryd.underlying41 f1
  simp only [List.cons.injEq,and_true] at e1 e2
  subst e1 e2
  exact ⟨p,q,u64_range hw,holds_app (a:=[.int .i64 p]) (x:=[.int .i64 p]) (holds_one rfl (.int _ _)) (holds_one rfl (.int _ _))⟩
theorem rd_spot {n : Nat} {cs : List Value} {x : DataW H × List MemPlace} (h : DataW.trod enc Tryd.prog W 0 sp held n 78 cs = some x) : ∃ (c : Bool) (l : List Int) (k v : Int),(0 ≤ v ∧ v < 18446744073709551616) ∧ Holds W [slD c 1 (l.map ic),.int .i64 k,.int .u64 v] cs:=by
  obtain ⟨xs,n',_,_,hl,hn,hf⟩:=DataW.trod_struct Tryd.underlying78 h
  rw [cellsSpot] at hl
  obtain ⟨a,b,c,rfl⟩:=three_of hl
  have f0:=(hf 0 _ rfl).trans (List.getElem?_eq_getElem (show 0 < xs.length by rw [hn]; decide))
  have f1:=(hf 1 _ rfl).trans (List.getElem?_eq_getElem (show 1 < xs.length by rw [hn]; decide))
  simp only [List.getElem_toArray,List.getElem_cons_zero,List.getElem_cons_succ,cellsInts,cellsValue,List.drop_zero,List.drop_succ_cons,List.take_succ_cons,List.take_zero,List.take_nil] at f0 f1
  obtain ⟨b1,l1,h1⟩:=rd_ints f0
  obtain ⟨k,v,hr,h2⟩:=rd_value f1
  exact ⟨b1,l1,k,v,hr,holds_app (x:=[a]) h1 h2⟩
theorem arg_image {r : Reach} {b0 : Nat} {v : Value} {d : DataW H} {p : List MemPlace} (hv : Value.okWide Tryd.prog W r b0 27 v) (h : DataW.Trod enc Tryd.prog W 0 sp held 27 v d p) : ∃ m : Im,Ok64 m.dt ∧ RepD (Old W) W (enIm m) v:=by
  obtain ⟨n,h⟩:=h
  obtain ⟨vs,rfl,_⟩:=WideShapes.okWide_struct Tryd.underlying27 hv
  obtain ⟨m,h1,hc⟩:=rd_image h
  exact ⟨m,h1,Go.Vm.P4.ds_agg hc⟩
theorem arg_spot {r : Reach} {b0 : Nat} {v : Value} {d : DataW H} {p : List MemPlace} (hv : Value.okWide Tryd.prog W r b0 78 v) (h : DataW.Trod enc Tryd.prog W 0 sp held 78 v d p) : ∃ (c : Bool) (l : List Int) (ko vo : Int),(0 ≤ vo ∧ vo < 18446744073709551616) ∧ RepD (Old W) W (.agg [slD c 1 (l.map ic),.int .i64 ko,.int .u64 vo]) v:=by
  obtain ⟨n,h⟩:=h
  obtain ⟨vs,rfl,_⟩:=WideShapes.okWide_struct Tryd.underlying78 hv
  obtain ⟨c,l,k,v,h1,hc⟩:=rd_spot h
  exact ⟨c,l,k,v,h1,Go.Vm.P4.ds_agg hc⟩
end
end Go.Vm.P4D

/- Chapter 04: what the laws' arguments hold: pairs of boxes. -/
set_option maxRecDepth 100000
namespace Go.Vm.P4D
open Go Go.Vm Go.Vm.P4 Go.Proofs Go.ChangeShapes
section
variable {H : Type} {enc : TypeId × Value → H} {W : World} {sp : Nat → Bool} {held : Bool}
theorem cellsBox2 : Tryd.prog.cellsOf 76 = 2:=by kernel_rfl
theorem okWide_arr2 {P : Program} {w : World} {r : Reach} {base n : Nat} {t e : TypeId} {v : Value} (ht : P.underlying t = some (.array n e)) (h : Value.okWide P w r base t v) : ∃ cs,v = .agg cs ∧ cs.size = P.cellsOf t:=by
  simp only [Value.okWide,ht] at h
  obtain ⟨cs,h1,h2,_⟩:=h
  exact ⟨cs,h1,h2⟩
theorem rd_box2 {n : Nat} {cs : List Value} {x : DataW H × List MemPlace} (h : DataW.trod enc Tryd.prog W 0 sp held n 76 cs = some x) : ∃ (b : Bool) (l : Bx) (c : Bool) (o : Bx),Holds W [enB b l,enB c o] cs:=by
  obtain ⟨xs,n',_,_,hl,hn,hf⟩:=DataW.trod_array Tryd.underlying76 h
  rw [cellsBox2] at hl
  obtain ⟨a,b,rfl⟩:=two_of hl
  have f0:=(hf 0 (by decide)).trans (List.getElem?_eq_getElem (show 0 < xs.length by rw [hn]; decide))
  have f1:=(hf 1 (by decide)).trans (List.getElem?_eq_getElem (show 1 < xs.length by rw [hn]; decide))
  simp only [cellsBox,Nat.zero_mul,Nat.one_mul,List.drop_zero,List.drop_succ_cons,List.take_succ_cons,List.take_zero,List.take_nil] at f0 f1
  obtain ⟨b1,l1,h1⟩:=rd_box f0
  obtain ⟨b2,l2,h2⟩:=rd_box f1
  exact ⟨b1,l1,b2,l2,holds_app (x:=[a]) h1 h2⟩
theorem arg_box2 {r : Reach} {b0 : Nat} {v : Value} {d : DataW H} {p : List MemPlace} (hv : Value.okWide Tryd.prog W r b0 76 v) (h : DataW.Trod enc Tryd.prog W 0 sp held 76 v d p) : ∃ (b : Bool) (l : Bx) (c : Bool) (o : Bx),RepD (Old W) W (.agg [enB b l,enB c o]) v:=by
  obtain ⟨n,h⟩:=h
  obtain ⟨vs,rfl,_⟩:=okWide_arr2 Tryd.underlying76 hv
  obtain ⟨b,l,c,o,hc⟩:=rd_box2 h
  exact ⟨b,l,c,o,Go.Vm.P4.ds_agg hc⟩
end
end Go.Vm.P4D

/- Chapter 04,plain: points by their numbers,how many points two boxes share. -/
set_option maxRecDepth 100000
set_option maxHeartbeats 1000000
namespace Go.Vm.P4D
open Go Go.Vm Go.Vm.P4
theorem prodE_nn : ∀ (l : Bx),Okr l → 0 ≤ prodE l
  | [],_ => by simp [prodE]
  | r :: l,h => Int.mul_nonneg (prodE_nn l h.tl) (ckRange0 (h r (by simp))).2.2.1
theorem horn_digits : ∀ (l : Bx) (n : Int),(∀ r ∈ l,0 < r.ex) → 0 ≤ n → n < prodE l → hornE l (digits l n) = n
  | [],n,_,h0,h1 => by simp [prodE] at h1; simp [digits,hornE]; omega
  | r :: l,n,hx,h0,h1 => by
    have hr:=hx r (by simp)
    have d0 : 0 ≤ n / r.ex:=Int.ediv_nonneg h0 (by omega)
    have d1 : n / r.ex < prodE l:=Int.ediv_lt_of_lt_mul hr h1
    have ih:=horn_digits l (n / r.ex) (fun y hy => hx y (List.mem_cons_of_mem _ hy)) d0 d1
    rw [digits,hornE,ih]
    have:=Int.emod_add_mul_ediv n r.ex
    rw [Int.mul_comm] at this
    omega
theorem hornW_E : ∀ (l : Bx) (p : List Int),Okr l → l.length ≤ 3 → InB l p → hornW l p = hornE l p ∧ 0 ≤ hornE l p ∧ hornE l p < 64 ^ l.length
  | [],[],_,_,_ => by simp [hornW,hornE]
  | [],_ :: _,_,_,h => h.elim
  | _ :: _,[],_,_,h => h.elim
  | r :: l,x :: p,h,h3,⟨b1,b2,b3⟩ => by
    have hr:=ckRange0 (h r (by simp))
    obtain ⟨i1,i2,i3⟩:=hornW_E l p h.tl (by simp at h3; omega) b3
    have pw : (64 : Int) ^ l.length ≤ 64 ^ 2:=by
      have : (64 : Nat) ^ l.length ≤ 64 ^ 2:=Nat.pow_le_pow_right (by decide) (by simp at h3; omega)
      exact_mod_cast this
    have p2 : (64 : Int) ^ 2 = 4096:=by decide
    have m0 : 0 ≤ hornE l p * r.ex:=Int.mul_nonneg i2 (by omega)
    have m1 : hornE l p * r.ex ≤ hornE l p * 64:=Int.mul_le_mul_of_nonneg_left (by omega) i2
    have e1 : ml (hornE l p) r.ex = hornE l p * r.ex:=wrp_ok (by omega)
    have e2 : ad (hornE l p * r.ex) x = hornE l p * r.ex + x:=wrp_ok (by omega)
    have e3 : sb (hornE l p * r.ex + x) r.lo = hornE l p * r.ex + x - r.lo:=wrp_ok (by omega)
    rw [hornW,i1,e1,e2,e3,hornE,List.length_cons,Int.pow_succ]
    refine ⟨by omega,by omega,?_⟩
    omega
theorem elt_digits (l : Bx) (h : Okr l) (h3 : l.length ≤ 3) (N : Nat) (hN : many l = N) (i : Nat) (hi : i < N) : elt l ((digits l i ++ [0,0,0]).take 3) (strides 1 l) 0 = i:=by
  have hx:=ex_pos h (by omega : many l ≠ 0)
  have hp:=many_prod h h3
  have hin:=digits_in l (i : Int) hx
  rw [elt_horn l _ h h3 hin,(hornW_E l _ h h3 hin).1,horn_digits l i hx (by omega) (by omega)]
theorem rmeet_ok {r s : Rg} (hr : ckRange r = 0) (hs : ckRange s = 0) : (rmeet r s).lo = max r.lo s.lo ∧ (rmeet r s).ex = max (min (r.lo + r.ex) (s.lo + s.ex) - max r.lo s.lo) 0 ∧ ckRange (rmeet r s) = 0:=by
  have h1:=ckRange0 hr
  have h2:=ckRange0 hs
  have e1 : ad r.lo r.ex = r.lo + r.ex:=wrp_ok (by omega)
  have e2 : ad s.lo s.ex = s.lo + s.ex:=wrp_ok (by omega)
  have e3 : sb (min (r.lo + r.ex) (s.lo + s.ex)) (max r.lo s.lo) = min (r.lo + r.ex) (s.lo + s.ex) - max r.lo s.lo:=wrp_ok (by omega)
  have e : rmeet r s = ⟨max r.lo s.lo,max (min (r.lo + r.ex) (s.lo + s.ex) - max r.lo s.lo) 0⟩:=by rw [rmeet,e1,e2,e3]
  rw [e]
  refine ⟨rfl,rfl,?_⟩
  unfold ckRange
  rw [if_neg]
  dsimp only
  omega
theorem okr_meet : ∀ (a b : Bx),Okr a → Okr b → Okr (List.zipWith rmeet a b)
  | [],_,_,_ => by intro r hr; simp at hr
  | _ :: _,[],_,_ => by intro r hr; simp at hr
  | r :: a,s :: b,ha,hb => by
    intro x hx
    rw [List.zipWith_cons_cons] at hx
    rcases List.mem_cons.1 hx with rfl | hx
    · exact (rmeet_ok (ha r (by simp)) (hb s (by simp))).2.2
    · exact okr_meet a b ha.tl hb.tl x hx
theorem in_meet : ∀ (a b : Bx) (p : List Int),Okr a → Okr b → a.length = b.length → (InB (List.zipWith rmeet a b) p ↔ InB a p ∧ InB b p)
  | [],[],p,_,_,_ => by cases p <;> simp [InB]
  | [],_ :: _,_,_,_,h => by simp at h
  | _ :: _,[],_,_,_,h => by simp at h
  | r :: a,s :: b,[],_,_,_ => by simp [InB]
  | r :: a,s :: b,x :: p,ha,hb,hl => by
    obtain ⟨e1,e2,_⟩:=rmeet_ok (ha r (by simp)) (hb s (by simp))
    have ih:=in_meet a b p ha.tl hb.tl (by simpa using hl)
    rw [List.zipWith_cons_cons]
    simp only [InB,e1,e2,ih]
    constructor
    · rintro ⟨h1,h2,h3,h4⟩
      exact ⟨⟨by omega,by omega,h3⟩,by omega,by omega,h4⟩
    · rintro ⟨⟨h1,h2,h3⟩,h4,h5,h6⟩
      exact ⟨by omega,by omega,h3,h6⟩
def cntR (P : Nat → Bool) : Nat → Nat
  | 0 => 0
  | n + 1 => cntR P n + (if P n then 1 else 0)
theorem cnt_fold (P : Nat → Bool) : ∀ n,(List.range n).foldl (fun (c : Nat) i => if P i then c + 1 else c) 0 = cntR P n
  | 0 => rfl
  | n + 1 => by
    rw [List.range_succ,List.foldl_append,cnt_fold P n]
    simp only [List.foldl_cons,List.foldl_nil,cntR]
    split <;> omega
theorem cnt_congr {P Q : Nat → Bool} : ∀ n,(∀ i,i < n → P i = Q i) → cntR P n = cntR Q n
  | 0,_ => rfl
  | n + 1,h => by rw [cntR,cntR,cnt_congr n (fun i hi => h i (by omega)),h n (by omega)]
theorem cnt_add (P : Nat → Bool) (a : Nat) : ∀ b,cntR P (a + b) = cntR P a + cntR (fun i => P (a + i)) b
  | 0 => by simp [cntR]
  | b + 1 => by rw [← Nat.add_assoc,cntR,cnt_add P a b,cntR]; omega
theorem cnt_le (P : Nat → Bool) : ∀ n,cntR P n ≤ n
  | 0 => Nat.le_refl _
  | n + 1 => by have:=cnt_le P n; rw [cntR]; split <;> omega
theorem cnt_and (A : Nat → Bool) (c : Bool) : ∀ n,cntR (fun i => A i && c) n = if c then cntR A n else 0
  | 0 => by cases c <;> rfl
  | n + 1 => by rw [cntR,cnt_and A c n]; cases c <;> simp [cntR]
theorem cnt_mul (A B : Nat → Bool) (e : Nat) (he : 0 < e) : ∀ K,cntR (fun n => A (n % e) && B (n / e)) (e * K) = cntR A e * cntR B K
  | 0 => by simp [cntR]
  | K + 1 => by
    rw [Nat.mul_add,Nat.mul_one,cnt_add,cnt_mul A B e he K]
    have h : cntR (fun i => A ((e * K + i) % e) && B ((e * K + i) / e)) e = cntR (fun i => A i && B K) e:=by
      refine cnt_congr e fun i hi => ?_
      rw [Nat.mul_add_mod,Nat.mod_eq_of_lt hi,Nat.mul_add_div he,Nat.div_eq_of_lt hi,Nat.add_zero]
    rw [h,cnt_and,cntR]
    cases B K <;> simp [Nat.mul_add]
theorem cnt_iv (c d : Int) : ∀ n : Nat,((cntR (fun t => decide (c ≤ (t : Int)) && decide ((t : Int) < d)) n : Nat) : Int) = max (min d n - max c 0) 0
  | 0 => by simp [cntR]; omega
  | n + 1 => by
    have ih:=cnt_iv c d n
    rw [cntR]
    by_cases h1 : c ≤ (n : Int) <;> by_cases h2 : (n : Int) < d <;> simp only [h1,h2,decide_true,decide_false,Bool.and_true,Bool.and_false,Bool.false_eq_true,if_true,if_false] <;> push_cast <;> omega
theorem hasB_c (s : Rg) (b : Bx) (x : Int) (p : List Int) (hs : ckRange s = 0) : hasB (s :: b) (x :: p) = (decide (s.lo ≤ x ∧ x < s.lo + s.ex) && hasB b p):=by
  have h2:=ckRange0 hs
  have e2 : ad s.lo s.ex = s.lo + s.ex:=wrp_ok (by omega)
  rw [hasB,e2]
  by_cases h : s.lo ≤ x ∧ x < s.lo + s.ex
  · rw [if_neg (by omega)]; simp [h]
  · rw [if_pos (by omega)]; simp [h]
theorem cnt_meet : ∀ (a b : Bx),Okr a → Okr b → a.length = b.length → ((cntR (fun n => hasB b (digits a (n : Nat))) (prodE a).toNat : Nat) : Int) = prodE (List.zipWith rmeet a b)
  | [],[],_,_,_ => by simp [prodE,cntR,hasB]
  | [],_ :: _,_,_,h => by simp at h
  | _ :: _,[],_,_,h => by simp at h
  | r :: a,s :: b,ha,hb,hl => by
    have hr:=ha r (by simp)
    have hs:=hb s (by simp)
    have h1:=ckRange0 hr
    have ih:=cnt_meet a b ha.tl hb.tl (by simpa using hl)
    obtain ⟨e1,e2,_⟩:=rmeet_ok hr hs
    have hK:=prodE_nn a ha.tl
    obtain ⟨e,he⟩ : ∃ e : Nat,r.ex = e:=⟨r.ex.toNat,by omega⟩
    have hp : (prodE (r :: a)).toNat = e * (prodE a).toNat:=by
      rw [prodE,he,Int.toNat_mul hK (by omega),Int.toNat_natCast,Nat.mul_comm]
    rw [hp,List.zipWith_cons_cons,prodE,← ih,e2]
    by_cases h0 : e = 0
    · subst h0
      have : max (min (r.lo + r.ex) (s.lo + s.ex) - max r.lo s.lo) 0 = 0:=by omega
      rw [this]; simp [cntR]
    · have key : cntR (fun n => hasB (s :: b) (digits (r :: a) (n : Nat))) (e * (prodE a).toNat) = cntR (fun n => (fun t : Nat => decide (s.lo - r.lo ≤ (t : Int)) && decide ((t : Int) < s.lo + s.ex - r.lo)) (n % e) && (fun q : Nat => hasB b (digits a (q : Nat))) (n / e)) (e * (prodE a).toNat):=by
        refine cnt_congr _ fun n _ => ?_
        rw [digits,hasB_c s b _ _ hs,he]
        have c1 : (n : Int) % (e : Int) = ((n % e : Nat) : Int):=by simp
        have c2 : (n : Int) / (e : Int) = ((n / e : Nat) : Int):=by simp
        rw [c1,c2]
        congr 1
        show decide (s.lo ≤ r.lo + ((n % e : Nat) : Int) ∧ r.lo + ((n % e : Nat) : Int) < s.lo + s.ex) = (decide (s.lo - r.lo ≤ ((n % e : Nat) : Int)) && decide (((n % e : Nat) : Int) < s.lo + s.ex - r.lo))
        rw [← Bool.decide_and,decide_eq_decide]
        omega
      rw [key.trans (cnt_mul (fun t : Nat => decide (s.lo - r.lo ≤ (t : Int)) && decide ((t : Int) < s.lo + s.ex - r.lo)) (fun q : Nat => hasB b (digits a (q : Nat))) e (by omega) (prodE a).toNat),Int.natCast_mul,cnt_iv,Int.mul_comm]
      congr 1
      omega
end Go.Vm.P4D

/- Chapter 04,plain law: parts of an image: points of boxes within boxes,points with two coordinates exchanged,points of planes. -/
set_option maxRecDepth 100000
set_option maxHeartbeats 1000000
namespace Go.Vm.P4D
open Go Go.Vm Go.Vm.P4
end Go.Vm.P4D

/- Chapter 04,functions: Dense,Crop,Slice,Transpose,whatever the image. -/
set_option maxRecDepth 100000
set_option maxHeartbeats 4000000
namespace Go.Vm.P4D
open Go Go.Vm Go.Vm.P4
instance rgDec : DecidableEq Rg:=fun a b => decidable_of_iff (a.lo = b.lo ∧ a.ex = b.ex) (by rcases a with ⟨_,_⟩; rcases b with ⟨_,_⟩; simp)
def im0 : Im:=⟨0,true,[],true,[],true,[]⟩
end Go.Vm.P4D

/- Chapter 04,functions: Make,At,Set. -/
set_option maxRecDepth 100000
set_option maxHeartbeats 4000000
namespace Go.Vm.P4D
open Go Go.Vm Go.Vm.P4
def ckAtI (m : Im) (p : List Int) : Int:=ckAt (ckB1 m.kd) m p
theorem ckAt0 {m : Im} {p : List Int} (h : ckAtI m p = 0) : ckI m = 0 ∧ p.length = m.bx.length ∧ hasB m.bx p = true:=by
  unfold ckAtI ckAt at h
  by_cases z : fnz [ckIm (ckB1 m.kd) m,if p.length = m.bx.length then 0 else 13] = 0
  · have g1:=fz0 _ z (ckIm (ckB1 m.kd) m) (by simp)
    have g2:=fz0 _ z (if p.length = m.bx.length then 0 else 13) (by simp)
    rw [if_pos z] at h
    refine ⟨g1,?_,?_⟩
    · split at g2; assumption; omega
    · split at h; assumption; omega
  · rw [if_neg z] at h; exact absurd h z
theorem okCheckAtI (n : Nat) (m : Im) (c : Bool) (p : List Int) (hx : m.bx.length < 1000000) (hs : m.st.length < 1000000) (hd : m.dt.length < 1000000) (hv : Ok64 m.dt) :
    callP (level E (n+10)) 76 [enIm m,slD c 1 (p.map ic)] = some (.int .i64 (ckAtI m p)) :=
  okCheckAt n m c p (ckB1 m.kd) hx hs hd (fun v hv' => okCheckG (n+1) m.kd v (hv v hv').1 (hv v hv').2)
theorem at_pad {m : Im} {p : List Int} (h : ckAtI m p = 0) : ∃ k : Nat,elt m.bx ((p ++ [0,0,0]).take 3) m.st 0 = k ∧ k < m.dt.length ∧ m.dt[k]? = some (atI m p) ∧ p.length ≤ 3 ∧ m.bx.length ≤ 3 ∧ m.st.length = m.bx.length ∧ elt m.bx p m.st 0 = k:=by
  obtain ⟨h1,h2,h3⟩:=ckAt0 h
  obtain ⟨N,G⟩:=good_of h1
  have hp:=(hasB_in m.bx p G.okr h2).1 h3
  have l3:=G.len3
  have l1:=G.len1
  obtain ⟨k,k1,k2,k3⟩:=G.at hp
  obtain ⟨k',j1,j2,j3⟩:=G.atP (q:=List.replicate (3 - p.length) 0) hp
  have e : (p ++ [0,0,0]).take 3 = p ++ List.replicate (3 - p.length) 0:=pad3 p (by omega)
  have e2:=elt_app m.bx p (List.replicate (3 - p.length) 0) m.st 0
  refine ⟨k',by rw [e]; exact j1,j2,j3,by omega,l3,G.stl,?_⟩
  rw [elt_app _ _ _ _ _ (by omega) (by have:=G.stl; omega)] at j1
  exact j1
theorem okAtG (n : Nat) (m : Im) (c : Bool) (p : List Int) (hx : m.bx.length < 1000000) (hs : m.st.length < 1000000) (hd : m.dt.length < 1000000) (hv : Ok64 m.dt) :
    callP (level E (n+11)) 24 [enIm m,slD c 1 (p.map ic)] = some (.tup [if ckAtI m p = 0 then .agg [.int .i64 m.kd,.int .u64 (atI m p)] else .agg [.int .i64 0,.int .u64 0],.int .i64 (ckAtI m p)]):=by
  have h1:=okCheckAtI n m c p hx hs hd hv
  by_cases h : ckAtI m p = 0
  · rw [h] at h1
    obtain ⟨k,k1,k2,k3,k4,k5,k6,_⟩:=at_pad h
    rw [if_pos h,h]
    exact okAtS n m c p h1 k5 k4 (by omega) k _ k1 k3
  · rw [if_neg h]
    exact okAtE n m c p _ h h1
def ckSet (m : Im) (p : List Int) (k v : Int) : Int:=fnz [ckAtI m p,ckVal k v,if k = m.kd then 0 else 12]
def setR (m : Im) (p : List Int) (k v : Int) : Im × Int :=
  if ckSet m p k v = 0 then (⟨m.kd,m.bb,m.bx,m.tb,m.st,false,m.dt.set (elt m.bx p m.st 0).toNat v⟩,0) else (im0,ckSet m p k v)
theorem okSetG (n : Nat) (m : Im) (c : Bool) (p : List Int) (ko vo : Int) (hx : m.bx.length < 1000000) (hs : m.st.length < 1000000) (hd : m.dt.length < 1000000) (hv : Ok64 m.dt) (h0 : 0 ≤ vo) (h1 : vo < 18446744073709551616) :
    callP (level E (n+11)) 42 [enIm m,slD c 1 (p.map ic),.agg [.int .i64 ko,.int .u64 vo]] = some (.tup [enIm (setR m p ko vo).1,.int .i64 (setR m p ko vo).2]):=by
  rw [p42]
  have a1:=okCheckAtI n m c p hx hs hd hv
  have v1:=okCheckValue (n+7) ko vo h0 h1
  have w1 : callP (level E (n+10)) 54 [.bool (decide (¬ ko = m.kd)),.int .i64 12] = some (.int .i64 (if ko = m.kd then 0 else 12)):=by
    rw [okWhen (n+9)]
    by_cases h : ko = m.kd <;> simp [h]
  have f1 : callP (level E (n+10)) 55 [.sl 1 [[.int .i64 (ckAtI m p)],[.int .i64 (ckVal ko vo)],[.int .i64 (if ko = m.kd then 0 else 12)]]] = some (.int .i64 (ckSet m p ko vo)):=okFirstL (n+9) _ [ckAtI m p,ckVal ko vo,if ko = m.kd then 0 else 12] rfl (by simp)
  unfold setR
  by_cases h : ckSet m p ko vo = 0
  · have g1:=fz0 _ h (ckAtI m p) (by simp)
    obtain ⟨k,k1,k2,k3,k4,k5,k6,k7⟩:=at_pad g1
    obtain ⟨g2,_,_⟩:=ckAt0 g1
    obtain ⟨N,G⟩:=good_of g2
    have l1:=G.len1
    rw [h,g1] at f1
    rw [if_pos h,k7]
    generalize (if ko = m.kd then 0 else 12 : Int) = x at w1 f1
    have c1:=okCloneB (n+9) m.bb m.bx hx
    have c2:=okCloneI (n+9) m.tb m.st hs
    have o1:=okOf (n+9) c p k4
    have e1:=okElement (n+9) m.bb m.tb m.bx m.st ((p ++ [0,0,0]).take 3) k5 (by omega) (by simp)
    rw [k1] at e1
    simp only [enIm] at a1
    rcases m with ⟨kd,bb,bx,tb,st,db,dt⟩
    dsimp only at *
    rcases bx with _ | ⟨r,bt⟩
    · simp at l1
    rcases st with _ | ⟨s,stt⟩
    · simp at k6
    rcases dt with _ | ⟨y,dtt⟩
    · simp at k2
    rw [g1] at a1
    simp only [clV,clO,enB,slD_c,List.map_cons,enR,ub,ic] at a1 c1 c2 e1
    have mk : ∀ nid,mkC nid 1 8 [.int .u64 0] (some ((dtt.length + 1 : Nat) : Int)) (some ((dtt.length + 1 : Nat) : Int)) = some (.ref nid 1 0 (dtt.length + 1),[.arr 1 (List.replicate (dtt.length + 1) [.int .u64 0])]):=by
      intro nid
      rw [mk_ok (by omega) (by simp only [List.length_cons] at hd; omega) (by simp only [List.length_cons] at hd; omega),Int.toNat_natCast]
    have cp : ∀ (vars : List AV) (ext : Option Ext) (st : List AO) (id : Nat),coK st vars ext id 1 0 (dtt.length + 1) ([.int .u64 y] :: dtt.map ub) (some (.arr 1 (List.replicate (dtt.length + 1) [.int .u64 0]))) = some (.imm (.int .i64 ((dtt.length + 1 : Nat) : Int)),⟨vars,st.set id (.arr 1 ([.int .u64 y] :: dtt.map ub)),ext⟩):=by
      intro vars ext st id
      rw [ck_arr (by simp)]
      simp [Vm.setRange,List.take_of_length_le]
    have hk : (k : Int) < ((dtt.length + 1 : Nat) : Int):=by simp only [List.length_cons] at k2; omega
    have ir : aIaddr none 1 (.ref 3 1 0 (dtt.length + 1)) (k : Int) = some (.ptr 3 k):=by
      rw [ia_ref (by omega) hk]; simp
    have hg : ([D.int .u64 y] :: dtt.map ub)[k]? = some [.int .u64 (((y :: dtt)[k]?).getD 0)]:=by
      have : ([D.int .u64 y] :: dtt.map ub) = (y :: dtt).map ub:=rfl
      rw [this,List.getElem?_map,k3]; rfl
    have sr : srC 1 0 (dtt.length + 1) (some (.arr 1 (([D.int .u64 y] :: dtt.map ub).set k [.int .u64 vo]))) = some (1,([D.int .u64 y] :: dtt.map ub).set k [.int .u64 vo]):=by
      rw [sr_arr (by simp)]
      rw [List.drop_zero,List.take_of_length_le (by simp)]
    have hs2 : slD false 1 (((y :: dtt).set k vo).map ub) = .sl 1 (([D.int .u64 y] :: dtt.map ub).set k [.int .u64 vo]):=by
      have : ([D.int .u64 y] :: dtt.map ub) = (y :: dtt).map ub:=rfl
      rw [this,List.map_set]
      rcases k with _ | k <;> rfl
    simp only [go_sem,Nat.reduceAdd,Nat.reduceSub,Nat.reduceMul,Nat.reduceDiv,Nat.reduceMod,Nat.reduceLeDiff,Nat.reduceLT,Nat.reduceBEq,Int.reduceToNat,Int.reduceLT,Int.reduceLE,Int.reduceEq,enIm,enB,enR,ic,slD_c,g1,a1,v1,w1,f1,c1,c2,o1,e1,mk,cp,ir,hg,sr,hs2,Nat.div_one,Nat.mod_one,ne_eq,not_true_eq_false]
  · rw [if_neg h]
    generalize (if ko = m.kd then 0 else 12 : Int) = x at w1 f1
    simp only [enIm] at a1
    simp only [go_sem,Nat.reduceAdd,Nat.reduceSub,Nat.reduceMul,Nat.reduceDiv,Nat.reduceMod,Nat.reduceLeDiff,Nat.reduceLT,Nat.reduceBEq,Int.reduceToNat,Int.reduceLT,Int.reduceLE,Int.reduceEq,enIm,a1,v1,w1,f1,h,ne_eq,not_false_eq_true]
    rfl
end Go.Vm.P4D

/- Chapter 04: the law ImageUnions,given the examples. -/
set_option maxRecDepth 100000
set_option maxHeartbeats 1000000
namespace Go.Vm.P4D
open Go Go.Vm Go.Vm.P4
theorem ckBoth0 {a b : Bx} (h : ckBoth a b = 0) : ckBox a = 0 ∧ ckBox b = 0 ∧ a.length = b.length ∧ a ≠ [] ∧ b ≠ []:=by
  have h1:=fz0 _ h (ckBox a) (by simp)
  have h2:=fz0 _ h (ckBox b) (by simp)
  have h3:=fz0 _ h (if a.length = b.length then 0 else 13) (by simp)
  refine ⟨h1,h2,?_,?_,?_⟩
  · split at h3
    · assumption
    · omega
  · rintro rfl; simp [ckBox] at h1
  · rintro rfl; simp [ckBox] at h2
end Go.Vm.P4D

/- Chapter 04,plain: what intersections,unions and Set do. -/
set_option maxRecDepth 100000
set_option maxHeartbeats 1000000
namespace Go.Vm.P4D
open Go Go.Vm Go.Vm.P4
theorem zip_len {α β γ : Type} (f : α → β → γ) (a : List α) (b : List β) (h : a.length = b.length) : (List.zipWith f a b).length = a.length:=by
  rw [List.length_zipWith,h,Nat.min_self]
theorem ckBox_of {l : Bx} (h1 : 1 ≤ l.length) (h3 : l.length ≤ 3) (h : Okr l) (hm : many l ≤ 4096) : ckBox l = 0:=by
  unfold ckBox
  rw [if_neg (by omega)]
  have e1 : fnz (l.map ckRange) = 0:=fnz_all _ fun x hx => by
    obtain ⟨r,hr,rfl⟩:=List.mem_map.1 hx
    exact h r hr
  rw [e1,if_neg (by omega)]
  rfl
theorem meet_box {a b : Bx} (ha : ckBox a = 0) (hb : ckBox b = 0) (hl : a.length = b.length) (N : Nat) (hN : many a = N) :
    ckBox (List.zipWith rmeet a b) = 0 ∧ many (List.zipWith rmeet a b) = (cntR (fun i => hasB b (digits a (i : Nat))) N : Nat):=by
  obtain ⟨a1,a2,a3,a4⟩:=ckBox0 ha
  obtain ⟨b1,b2,b3,b4⟩:=ckBox0 hb
  have hk:=okr_meet a b a3 b3
  have hz:=zip_len rmeet a b hl
  have c:=cnt_meet a b a3 b3 hl
  have pa:=many_prod a3 a2
  have pm:=many_prod hk (by omega)
  have e : (prodE a).toNat = N:=by omega
  rw [e] at c
  have:=cnt_le (fun i => hasB b (digits a (i : Nat))) N
  refine ⟨ckBox_of (by omega) (by omega) hk (by omega),by omega⟩
theorem rspan_ok {r s : Rg} (hr : ckRange r = 0) (hs : ckRange s = 0) : (rspan r s).lo = min r.lo s.lo ∧ (rspan r s).ex = max (r.lo + r.ex) (s.lo + s.ex) - min r.lo s.lo:=by
  have h1:=ckRange0 hr
  have h2:=ckRange0 hs
  have e1 : ad r.lo r.ex = r.lo + r.ex:=wrp_ok (by omega)
  have e2 : ad s.lo s.ex = s.lo + s.ex:=wrp_ok (by omega)
  have e3 : sb (max (r.lo + r.ex) (s.lo + s.ex)) (min r.lo s.lo) = max (r.lo + r.ex) (s.lo + s.ex) - min r.lo s.lo:=wrp_ok (by omega)
  have e : rspan r s = ⟨min r.lo s.lo,max (r.lo + r.ex) (s.lo + s.ex) - min r.lo s.lo⟩:=by rw [rspan,e1,e2,e3]
  rw [e]
  exact ⟨rfl,rfl⟩
theorem in_span : ∀ (a b : Bx) (p : List Int),Okr a → Okr b → a.length = b.length → InB a p → InB (List.zipWith rspan a b) p
  | [],[],p,_,_,_,h => h
  | [],_ :: _,_,_,_,h,_ => by simp at h
  | _ :: _,[],_,_,_,h,_ => by simp at h
  | r :: a,s :: b,[],_,_,_,h => h.elim
  | r :: a,s :: b,x :: p,ha,hb,hl,⟨h1,h2,h3⟩ => by
    obtain ⟨e1,e2⟩:=rspan_ok (ha r (by simp)) (hb s (by simp))
    rw [List.zipWith_cons_cons]
    exact ⟨by omega,by omega,in_span a b p ha.tl hb.tl (by simpa using hl) h3⟩
theorem union_box {a b : Bx} (h : (unionD a b).2 = 0) : ∃ (c : Bool) (u : Bx),(unionD a b).1 = enB c u ∧ ckBox u = 0 ∧ u.length = a.length ∧ (many a ≠ 0 → ∀ p,InB a p → InB u p) ∧ (many a ≠ 0 → many b ≠ 0 → u = List.zipWith rspan a b):=by
  unfold unionD at h ⊢
  by_cases hb : ckBoth a b = 0
  · obtain ⟨k1,k2,k3,k4,k5⟩:=ckBoth0 hb
    have o1:=(ckBox0 k1).2.2.1
    have o2:=(ckBox0 k2).2.2.1
    rw [if_pos hb] at h ⊢
    by_cases h1 : many b = 0
    · rw [if_pos h1]
      exact ⟨false,a,rfl,k1,rfl,fun _ p hp => hp,fun _ h2 => absurd h1 h2⟩
    · rw [if_neg h1] at h ⊢
      by_cases h2 : many a = 0
      · rw [if_pos h2]
        exact ⟨false,b,rfl,k2,k3.symm,fun h3 => absurd h2 h3,fun h3 => absurd h2 h3⟩
      · rw [if_neg h2] at h ⊢
        by_cases h3 : ckBox (List.zipWith rspan a b) = 0
        · rw [if_pos h3]
          exact ⟨true,_,rfl,h3,zip_len _ _ _ k3,fun _ p hp => in_span a b p o1 o2 k3 hp,fun _ _ => rfl⟩
        · rw [if_neg h3] at h; cases h
  · rw [if_neg hb] at h; exact absurd h hb
theorem union_err {a b : Bx} (h : ckBoth a b ≠ 0) : (unionD a b).2 ≠ 0:=by
  unfold unionD
  rw [if_neg h]; exact h
theorem has_dig {l : Bx} (h : ckBox l = 0) (N : Nat) (hN : many l = N) (i : Nat) (hi : i < N) : InB l (digits l i) ∧ hasB l (digits l i) = true ∧ ckPoint l (digits l i) = 0:=by
  obtain ⟨a1,a2,a3,a4⟩:=ckBox0 h
  have hx:=ex_pos a3 (by omega : many l ≠ 0)
  have hin:=digits_in l (i : Int) hx
  have hl : (digits l (i : Int)).length = l.length:=digits_len l i
  refine ⟨hin,(hasB_in l _ a3 hl).2 hin,?_⟩
  unfold ckPoint
  rw [h,if_pos hl]
  rfl
theorem ckPts_eq (m o : Im) (h1 : ∀ i,elAt m i = elAt o i) (h2 : m.dt.length = o.dt.length) : ∀ (r : List Nat) (T : List Int),ckPts m T r = ckPts o T r
  | [],_ => rfl
  | i :: r,T => by simp only [ckPts,h1,h2,ckPts_eq m o h1 h2 r]
theorem good_set {m : Im} {p : List Int} {ko vo : Int} (h : ckSet m p ko vo = 0) : ckI (setR m p ko vo).1 = 0 ∧ (setR m p ko vo).1.kd = ko ∧ m.kd = ko ∧ InB m.bx p ∧ ckI m = 0 ∧ (setR m p ko vo).1.bx = m.bx ∧ (setR m p ko vo).1.st = m.st ∧ (setR m p ko vo).1.dt = m.dt.set (elt m.bx p m.st 0).toNat vo ∧ (setR m p ko vo).2 = 0:=by
  have g1:=fz0 _ h (ckAtI m p) (by simp)
  have g2:=fz0 _ h (ckVal ko vo) (by simp)
  have g3:=fz0 _ h (if ko = m.kd then 0 else 12) (by simp)
  have g3 : ko = m.kd:=by split at g3; assumption; omega
  obtain ⟨k1,k2,k3⟩:=ckAt0 g1
  obtain ⟨N,G⟩:=good_of k1
  have e : setR m p ko vo = (⟨m.kd,m.bb,m.bx,m.tb,m.st,false,m.dt.set (elt m.bx p m.st 0).toNat vo⟩,0):=by unfold setR; rw [if_pos h]
  rw [e]
  refine ⟨?_,g3.symm,g3.symm,(hasB_in m.bx p G.okr k2).1 k3,k1,rfl,rfl,rfl,rfl⟩
  have hA : ckA m = 0 ∧ ckB m = 0 ∧ fnz (m.dt.map (ckB1 m.kd)) = 0 ∧ ckPts m [] (List.range (many m.bx).toNat) = 0:=by
    unfold ckI ckIm at k1
    by_cases a1 : ckA m = 0
    · rw [if_pos a1] at k1
      by_cases a2 : ckB m = 0
      · rw [if_pos a2] at k1
        by_cases a3 : fnz (m.dt.map (ckB1 m.kd)) = 0
        · rw [if_pos a3] at k1
          exact ⟨a1,a2,a3,k1⟩
        · rw [if_neg a3] at k1; exact absurd k1 a3
      · rw [if_neg a2] at k1; exact absurd k1 a2
    · rw [if_neg a1] at k1; exact absurd k1 a1
  obtain ⟨a1,a2,a3,a4⟩:=hA
  unfold ckI ckIm
  have b1 : ckA (⟨m.kd,m.bb,m.bx,m.tb,m.st,false,m.dt.set (elt m.bx p m.st 0).toNat vo⟩ : Im) = 0:=a1
  have b2 : ckB (⟨m.kd,m.bb,m.bx,m.tb,m.st,false,m.dt.set (elt m.bx p m.st 0).toNat vo⟩ : Im) = 0:=by
    have : ckB (⟨m.kd,m.bb,m.bx,m.tb,m.st,false,m.dt.set (elt m.bx p m.st 0).toNat vo⟩ : Im) = ckB m:=by
      unfold ckB; dsimp only; rw [List.length_set]
    rw [this]; exact a2
  have b3 : fnz ((m.dt.set (elt m.bx p m.st 0).toNat vo).map (ckB1 m.kd)) = 0:=fnz_all _ fun x hx => by
    obtain ⟨v,hv,rfl⟩:=List.mem_map.1 hx
    rcases List.mem_or_eq_of_mem_set hv with hv | rfl
    · exact fz0 _ a3 _ (List.mem_map.2 ⟨v,hv,rfl⟩)
    · rw [← g3]; unfold ckB1; rw [if_pos g2]
  rw [if_pos b1,if_pos b2,if_pos b3]
  exact (ckPts_eq (⟨m.kd,m.bb,m.bx,m.tb,m.st,false,m.dt.set (elt m.bx p m.st 0).toNat vo⟩ : Im) m (fun _ => rfl) (by simp) _ []).trans a4
theorem at_set {m : Im} {p : List Int} {ko vo : Int} (h : ckSet m p ko vo = 0) {q : List Int} (hq : InB m.bx q) : atI (setR m p ko vo).1 q = if q = p then vo else atI m q:=by
  obtain ⟨g1,g2,g3,g4,g5,g6,g7,g8,_⟩:=good_set h
  obtain ⟨N,G⟩:=good_of g5
  obtain ⟨k,k1,k2,k3⟩:=G.at g4
  obtain ⟨j,j1,j2,j3⟩:=G.at hq
  unfold atI
  rw [g6,g7,g8,j1,k1,Int.toNat_natCast,Int.toNat_natCast,List.getElem?_set]
  by_cases e : q = p
  · subst e
    have : k = j:=by omega
    subst this
    rw [if_pos rfl,if_pos k2,if_pos rfl]; rfl
  · have hne : k ≠ j:=fun hkj => e (G.inj hq g4 (by rw [j1,k1,hkj]))
    rw [if_neg hne,if_neg e]
theorem at_in {m : Im} (h : ckI m = 0) {q : List Int} (hq : InB m.bx q) : ckAtI m q = 0:=by
  obtain ⟨N,G⟩:=good_of h
  unfold ckAtI ckAt
  have e : ckIm (ckB1 m.kd) m = 0:=h
  have hl:=in_pad hq
  have hh:=(hasB_in m.bx q G.okr hl).2 hq
  have e2 : fnz [ckIm (ckB1 m.kd) m,if q.length = m.bx.length then 0 else 13] = 0:=by rw [e,if_pos hl]; rfl
  rw [if_pos e2,if_pos hh]
end Go.Vm.P4D

/- Chapter 04,functions: Slice and Transpose,whatever the image. -/
set_option maxRecDepth 100000
set_option maxHeartbeats 8000000
namespace Go.Vm.P4D
open Go Go.Vm Go.Vm.P4
end Go.Vm.P4D

/- Chapter 04,functions: Slice and Transpose,in one. -/
set_option maxRecDepth 100000
set_option maxHeartbeats 8000000
namespace Go.Vm.P4D
open Go Go.Vm Go.Vm.P4
end Go.Vm.P4D

/- Chapter 04,functions: the reference's Edge. -/
set_option maxRecDepth 100000
set_option maxHeartbeats 4000000
namespace Go.Vm.P4D
open Go Go.Vm Go.Vm.P4
end Go.Vm.P4D

/- Chapter 04,functions: the reference's parts of images. -/
set_option maxRecDepth 100000
set_option maxHeartbeats 4000000
namespace Go.Vm.P4D
open Go Go.Vm Go.Vm.P4
abbrev boxI (m : Im) : AO:=.box [.imm (.int .i64 m.kd),.imm (enB m.bb m.bx),.imm (slD m.tb 1 (m.st.map ic)),.imm (slD m.db 1 (m.dt.map ub))]
end Go.Vm.P4D

/- Chapter 04,functions: the reference's Slice and Transpose. -/
set_option maxRecDepth 100000
set_option maxHeartbeats 8000000
namespace Go.Vm.P4D
open Go Go.Vm Go.Vm.P4
end Go.Vm.P4D

/- Chapter 04,functions: the reference's Transpose. -/
set_option maxRecDepth 100000
set_option maxHeartbeats 8000000
namespace Go.Vm.P4D
open Go Go.Vm Go.Vm.P4
theorem slD_f {sz : Nat} {es : List (List D)} : slD false sz es = .sl sz es:=by cases es <;> rfl
end Go.Vm.P4D

/- Chapter 04,plain law: what the parts of an image answer,with the reference's errors. -/
set_option maxRecDepth 100000
set_option maxHeartbeats 1000000
namespace Go.Vm.P4D
open Go Go.Vm Go.Vm.P4
end Go.Vm.P4D

/- Chapter 04: the law ImageEdges,given the examples. -/
set_option maxRecDepth 100000
set_option maxHeartbeats 4000000
namespace Go.Vm.P4D
open Go Go.Vm Go.Vm.P4
theorem aEqV (k v : Int) : aEq (.agg [(0,.int),(1,.int)]) (.imm (.agg [.int .i64 k,.int .u64 v])) (.imm (.agg [.int .i64 k,.int .u64 v])) = some true:=by
  simp [aEq,eqL,eqE,intEq]
theorem shortI_len {m : Im} (h : shortI m = true) : m.bx.length ≤ 4 ∧ m.st.length ≤ 5 ∧ m.dt.length ≤ 200:=by
  simp [shortI] at h
  omega
theorem ckPts_own (m : Im) : ∀ (l : List Nat) (T : List Int),ckPts m.own T l = ckPts m T l
  | [],_ => rfl
  | i :: l,T => by
    unfold ckPts
    rw [ckPts_own m l]
    rfl
theorem ckI_own (m : Im) : ckI m.own = ckI m:=by
  unfold ckI ckIm
  rw [ckPts_own]
  rfl
end Go.Vm.P4D

/- Chapter 04: the law ImageParts,given the examples (printed by gen4p.py). -/
set_option maxRecDepth 100000
set_option maxHeartbeats 8000000
namespace Go.Vm.P4D
open Go Go.Vm Go.Vm.P4
theorem seq_step {lo : Lower} {cx : Cx} {a b : IR} {s s' : S} (h : aCode lo cx a s = some (.normal,s')) : aCode lo cx (.seq a b) s = aCode lo cx b s':=by rw [ac_seq,h]; rfl
end Go.Vm.P4D

/- Chapter 04: the loops of the law ImageSets. -/
set_option maxRecDepth 100000
set_option maxHeartbeats 4000000
namespace Go.Vm.P4D
open Go Go.Vm Go.Vm.P4
abbrev xBox (c : Bool) (p : List Int) (ko vo : Int) : AO:=.box [.imm (slD c 1 (p.map ic)),.imm (.int .i64 ko),.imm (.int .u64 vo)]
theorem zip_runI {α γ : Type} [DecidableEq α] (T F : γ) : ∀ l o : List α,l.length = o.length → runL (γ:=γ) (fun (_ : Unit) (x : α × α) => if x.1 = x.2 then .inl () else .inr F) (fun _ => T) () (List.zip l o) = if l = o then T else F
  | [],[],_ => rfl
  | [],_ :: _,h => by simp at h
  | _ :: _,[],h => by simp at h
  | x :: l,y :: o,h => by
    rw [List.zip_cons_cons,runL_cons]
    by_cases e : x = y
    · subst e
      simp only [if_true,zip_runI T F l o (by simpa using h),List.cons.injEq,true_and]
    · simp only [e,if_false,List.cons.injEq,false_and]
theorem okSameIntsG (n : Nat) (b c : Bool) (l o : List Int) (hl : l.length < 1000000000) (ho : o.length < 1000000000) : callP (level E (n+1)) 43 [slD b 1 (l.map ic),slD c 1 (o.map ic)] = some (.bool (decide (l = o))):=by
  by_cases hlo : l.length = o.length
  · have h:=loop_run (f:=aCode (level E (n)) ⟨0,false⟩ b43_0) (h:=head ⟨0,false⟩ [1,1,0,1,0,0,0]) (Φ:=outC ⟨0,false⟩ [0,0,1,0,0,0,0]) (List.zip l o) (fun (_ : Unit) i => ⟨[.imm (slD b 1 (l.map ic)),.imm (slD c 1 (o.map ic)),.junk,.imm (.int .i64 i),.junk,.junk,.junk],[],none⟩) (fun _ _ => True)
      (fun _ x => if x.1 = x.2 then .inl () else .inr (some (.ret,⟨[.junk,.junk,.imm (.bool false),.junk,.junk,.junk,.junk],[],none⟩))) (fun _ => some (.exit 0,⟨[.junk,.junk,.junk,.junk,.junk,.junk,.junk],[],none⟩)) () trivial
      (fun _ i x _ h2 h1 => ⟨by
        rw [List.length_zip] at h2
        have hil : i < l.length:=by omega
        have g1 : l[i]? = some x.1:=by
          rw [List.getElem?_zip_eq_some] at h1; exact h1.1
        have g2 : o[i]? = some x.2:=by
          rw [List.getElem?_zip_eq_some] at h1; exact h1.2
        rw [rnd_eq]
        rcases x with ⟨a1,b1⟩
        dsimp only at g1 g2 ⊢
        by_cases q1 : a1 = b1
        · subst q1
          simp only [go_sem,Nat.reduceAdd,Nat.reduceSub,Nat.reduceMul,Nat.reduceDiv,Nat.reduceMod,Nat.reduceLeDiff,Nat.reduceLT,Nat.reduceBEq,Int.reduceToNat,Int.reduceLT,Int.reduceLE,Int.reduceEq,lt_t hil,g1,g2,ne_eq,not_true_eq_false]
          rw [wrpS (by omega)]
        · simp only [go_sem,Nat.reduceAdd,Nat.reduceSub,Nat.reduceMul,Nat.reduceDiv,Nat.reduceMod,Nat.reduceLeDiff,Nat.reduceLT,Nat.reduceBEq,Int.reduceToNat,Int.reduceLT,Int.reduceLE,Int.reduceEq,lt_t hil,g1,g2,q1,ne_eq,not_false_eq_true],fun _ _ => trivial⟩)
      (fun _ _ => by
        rw [rnd_eq]
        rw [List.length_zip,← hlo,Nat.min_self]
        simp only [go_sem,Nat.reduceAdd,Nat.reduceSub,Nat.reduceMul,Nat.reduceDiv,Nat.reduceMod,Nat.reduceLeDiff,Nat.reduceLT,Nat.reduceBEq,Int.reduceToNat,Int.reduceLT,Int.reduceLE,Int.reduceEq,lt_f (Nat.le_refl _)])
    rw [cast_0,zip_runI _ _ l o hlo] at h
    have hz : (l.length : Int) = o.length:=by omega
    rw [p43]
    simp only [go_sem,Nat.reduceAdd,Nat.reduceSub,Nat.reduceMul,Nat.reduceDiv,Nat.reduceMod,Nat.reduceLeDiff,Nat.reduceLT,Nat.reduceBEq,Int.reduceToNat,Int.reduceLT,Int.reduceLE,Int.reduceEq,hz,ne_eq,not_true_eq_false]
    by_cases q : l = o
    · rw [if_pos q] at h
      rw [h]
      simp only [go_sem,Nat.reduceAdd,Nat.reduceSub,Nat.reduceMul,Nat.reduceDiv,Nat.reduceMod,Nat.reduceLeDiff,Nat.reduceLT,Nat.reduceBEq,Int.reduceToNat,Int.reduceLT,Int.reduceLE,Int.reduceEq,q]
    · rw [if_neg q] at h
      rw [h]
      simp only [go_sem,Nat.reduceAdd,Nat.reduceSub,Nat.reduceMul,Nat.reduceDiv,Nat.reduceMod,Nat.reduceLeDiff,Nat.reduceLT,Nat.reduceBEq,Int.reduceToNat,Int.reduceLT,Int.reduceLE,Int.reduceEq,q]
  · have hz : ¬ (l.length : Int) = o.length:=by omega
    have q : ¬ l = o:=fun h => hlo (by rw [h])
    rw [p43]
    simp only [go_sem,Nat.reduceAdd,Nat.reduceSub,Nat.reduceMul,Nat.reduceDiv,Nat.reduceMod,Nat.reduceLeDiff,Nat.reduceLT,Nat.reduceBEq,Int.reduceToNat,Int.reduceLT,Int.reduceLE,Int.reduceEq,hz,q,ne_eq,not_false_eq_true]
theorem aEqBl' (a : Bool) : aEq .bool (.imm (.bool a)) (.imm (.bool a)) = some true:=by cases a <;> rfl
theorem pD_dig {l : Bx} (h : ckBox l = 0) (N : Nat) (hN : many l = N) (i : Nat) (hi : i < N) : pD l i = slD false 1 ((digits l i).map ic):=by
  obtain ⟨a1,a2,a3,a4⟩:=ckBox0 h
  rw [slD_f,pD,plc_take l a3 a2 (ex_pos a3 (by omega : many l ≠ 0))]
theorem pts_get (l : Bx) (N i : Nat) (hi : i < N) : ((List.range N).map fun i => [pD l i])[i]? = some [pD l i]:=by
  rw [List.getElem?_map,List.getElem?_range hi]; rfl
theorem setL0 (n : Nat) (m : Im) (c b : Bool) (p : List Int) (ko vo : Int) (l : Bx) (hk : ckBox l = 0) (oD : D) (N : Nat) (hN : many l = N) (hN2 : N ≤ 4096)
    (H : ∀ i : Nat,i < N → callP (level E (n+60)) 36 [enB true l,slD false 1 ((digits l i).map ic)] = some (.tup [.int .i64 i,.int .i64 0])) :
    outC ⟨0,false⟩ [0,0,0,1,0,1,1,1,1,1,0,0,0,0,0,0,0,0,0,0,0,0,0,0,0,0,0,0,0,0,0,0,0,0,0,0,0,0,0,0,0,0,0,0,0,0,0,0,0,0,0,0,0,0,0,0,0,0,0,0,0,0,0,0,0,0,0,0,0,0,0] (rnd (aCode (level E (n+60)) ⟨0,false⟩ b6_0) (head ⟨0,false⟩ [0,0,0,0,0,1,1,1,1,1,0,0,0,0,0,0,0,0,0,0,0,0,0,0,0,0,0,0,0,0,0,0,0,0,0,0,0,0,0,0,0,0,1,1,1,0,0,0,0,0,0,0,0,0,0,0,0,0,0,0,0,0,0,0,0,0,0,0,0,0,0])
      ⟨[.junk,.junk,.junk,.junk,.junk,.ptr 0 0,.ptr 1 0,.imm (enB b l),.imm oD,.imm (ptsD l N),.junk,.junk,.junk,.junk,.junk,.junk,.junk,.junk,.junk,.junk,.junk,.junk,.junk,.junk,.junk,.junk,.junk,.junk,.junk,.junk,.junk,.junk,.junk,.junk,.junk,.junk,.junk,.junk,.junk,.junk,.junk,.junk,.imm (ptsD l N),.imm (.int .i64 N),.imm (.int .i64 0),.junk,.junk,.junk,.junk,.junk,.junk,.junk,.junk,.junk,.junk,.junk,.junk,.junk,.junk,.junk,.junk,.junk,.junk,.junk,.junk,.junk,.junk,.junk,.junk,.junk,.junk],[boxI m,xBox c p ko vo],none⟩) =
    some (.exit 0,⟨[.junk,.junk,.junk,.junk,.junk,.ptr 0 0,.ptr 1 0,.imm (enB b l),.imm oD,.imm (ptsD l N),.junk,.junk,.junk,.junk,.junk,.junk,.junk,.junk,.junk,.junk,.junk,.junk,.junk,.junk,.junk,.junk,.junk,.junk,.junk,.junk,.junk,.junk,.junk,.junk,.junk,.junk,.junk,.junk,.junk,.junk,.junk,.junk,.junk,.junk,.junk,.junk,.junk,.junk,.junk,.junk,.junk,.junk,.junk,.junk,.junk,.junk,.junk,.junk,.junk,.junk,.junk,.junk,.junk,.junk,.junk,.junk,.junk,.junk,.junk,.junk,.junk],[boxI m,xBox c p ko vo],none⟩):=by
  have hl:=(ckBox0 hk).2.1
  have ob:=okOwnBox (n+59) b l (by omega)
  have h:=loop_fold (f:=aCode (level E (n+60)) ⟨0,false⟩ b6_0) (h:=head ⟨0,false⟩ [0,0,0,0,0,1,1,1,1,1,0,0,0,0,0,0,0,0,0,0,0,0,0,0,0,0,0,0,0,0,0,0,0,0,0,0,0,0,0,0,0,0,1,1,1,0,0,0,0,0,0,0,0,0,0,0,0,0,0,0,0,0,0,0,0,0,0,0,0,0,0]) (Φ:=outC ⟨0,false⟩ [0,0,0,1,0,1,1,1,1,1,0,0,0,0,0,0,0,0,0,0,0,0,0,0,0,0,0,0,0,0,0,0,0,0,0,0,0,0,0,0,0,0,0,0,0,0,0,0,0,0,0,0,0,0,0,0,0,0,0,0,0,0,0,0,0,0,0,0,0,0,0]) (List.range N) (fun (_ : Unit) i => ⟨[.junk,.junk,.junk,.junk,.junk,.ptr 0 0,.ptr 1 0,.imm (enB b l),.imm oD,.imm (ptsD l N),.junk,.junk,.junk,.junk,.junk,.junk,.junk,.junk,.junk,.junk,.junk,.junk,.junk,.junk,.junk,.junk,.junk,.junk,.junk,.junk,.junk,.junk,.junk,.junk,.junk,.junk,.junk,.junk,.junk,.junk,.junk,.junk,.imm (ptsD l N),.imm (.int .i64 N),.imm (.int .i64 i),.junk,.junk,.junk,.junk,.junk,.junk,.junk,.junk,.junk,.junk,.junk,.junk,.junk,.junk,.junk,.junk,.junk,.junk,.junk,.junk,.junk,.junk,.junk,.junk,.junk,.junk],[boxI m,xBox c p ko vo],none⟩) (fun _ _ => True)
    (fun _ _ => ()) (fun _ => some (.exit 0,⟨[.junk,.junk,.junk,.junk,.junk,.ptr 0 0,.ptr 1 0,.imm (enB b l),.imm oD,.imm (ptsD l N),.junk,.junk,.junk,.junk,.junk,.junk,.junk,.junk,.junk,.junk,.junk,.junk,.junk,.junk,.junk,.junk,.junk,.junk,.junk,.junk,.junk,.junk,.junk,.junk,.junk,.junk,.junk,.junk,.junk,.junk,.junk,.junk,.junk,.junk,.junk,.junk,.junk,.junk,.junk,.junk,.junk,.junk,.junk,.junk,.junk,.junk,.junk,.junk,.junk,.junk,.junk,.junk,.junk,.junk,.junk,.junk,.junk,.junk,.junk,.junk,.junk],[boxI m,xBox c p ko vo],none⟩)) () trivial
    (fun _ i x _ h2 h1 => ⟨by
      have:=getRange h1
      subst this
      rw [List.length_range] at h2
      have g:=pts_get l N x h2
      have e:=pD_dig hk N hN x h2
      have lp:=okLPoint (n+59) false (digits l x) (by rw [digits_len]; omega)
      have ix:=H x h2
      rw [e] at g
      rw [rnd_eq]
      simp only [enB] at ob ix
      simp only [go_sem,Nat.reduceAdd,Nat.reduceSub,Nat.reduceMul,Nat.reduceDiv,Nat.reduceMod,Nat.reduceLeDiff,Nat.reduceLT,Nat.reduceBEq,Int.reduceToNat,Int.reduceLT,Int.reduceLE,Int.reduceEq,ptsD,lt_t h2,g,ob,lp,ix,enB,boxI,xBox,ne_eq,not_true_eq_false]
      rw [wrpS (by omega)],trivial⟩)
    (fun _ _ => by
      rw [rnd_eq,List.length_range]
      simp only [go_sem,Nat.reduceAdd,Nat.reduceSub,Nat.reduceMul,Nat.reduceDiv,Nat.reduceMod,Nat.reduceLeDiff,Nat.reduceLT,Nat.reduceBEq,Int.reduceToNat,Int.reduceLT,Int.reduceLE,Int.reduceEq,ptsD,lt_f (Nat.le_refl _),enB,boxI,xBox])
  rw [cast_0] at h
  exact h
theorem setL1 (n : Nat) (m : Im) (c b b' : Bool) (p : List Int) (ko vo : Int) (l o M : Bx) (hk : ckBox l = 0) (ho : o.length < 1000) (hM : M.length < 1000) (uD uO : D) (e3 : Int) (N : Nat) (hN : many l = N) (hN2 : N ≤ 4096)
    (Hb : ∀ i : Nat,i < N → callP (level E (n+60)) 35 [enB true o,slD false 1 ((digits l i).map ic)] = some (.tup [.bool (hasB o (digits l i)),.int .i64 0]))
    (Hm : ∀ i : Nat,i < N → callP (level E (n+60)) 35 [enB true M,slD false 1 ((digits l i).map ic)] = some (.tup [.bool (hasB o (digits l i)),.int .i64 0]))
    (Ho : e3 = 0 → callP (level E (n+60)) 20 [uD] = some uO)
    (Hu : e3 = 0 → ∀ i : Nat,i < N → callP (level E (n+60)) 35 [uO,slD false 1 ((digits l i).map ic)] = some (.tup [.bool true,.int .i64 0])) :
    outC ⟨0,false⟩ [0,0,0,1,0,1,1,1,1,0,0,0,0,0,0,1,0,1,1,1,0,0,0,0,0,0,0,0,0,0,0,0,0,0,0,0,0,0,0,0,0,0,0,0,0,0,0,0,0,0,0,0,0,0,0,0,0,0,0,0,0,0,0,0,0,0,0,0,0,0,0] (rnd (aCode (level E (n+60)) ⟨0,false⟩ b6_1) (head ⟨0,false⟩ [0,0,0,0,0,1,1,1,1,0,0,0,0,0,0,1,0,1,1,1,0,0,0,0,0,0,0,0,0,0,0,0,0,0,0,0,0,0,0,0,0,0,0,0,0,0,0,0,1,1,1,0,0,0,0,0,0,0,0,0,0,0,0,0,0,0,0,0,0,0,0])
      ⟨[.junk,.junk,.junk,.junk,.junk,.ptr 0 0,.ptr 1 0,.imm (enB b l),.imm (enB b' o),.junk,.junk,.junk,.junk,.junk,.junk,.imm (enB true M),.junk,.imm uD,.imm (.int .i64 e3),.imm (.int .i64 0),.junk,.junk,.junk,.junk,.junk,.junk,.junk,.junk,.junk,.junk,.junk,.junk,.junk,.junk,.junk,.junk,.junk,.junk,.junk,.junk,.junk,.junk,.junk,.junk,.junk,.junk,.junk,.junk,.imm (ptsD l N),.imm (.int .i64 N),.imm (.int .i64 0),.junk,.junk,.junk,.junk,.junk,.junk,.junk,.junk,.junk,.junk,.junk,.junk,.junk,.junk,.junk,.junk,.junk,.junk,.junk,.junk],[boxI m,xBox c p ko vo],none⟩) =
    some (.exit 2,⟨[.junk,.junk,.junk,.junk,.junk,.ptr 0 0,.ptr 1 0,.imm (enB b l),.imm (enB b' o),.junk,.junk,.junk,.junk,.junk,.junk,.imm (enB true M),.junk,.imm uD,.imm (.int .i64 e3),.imm (.int .i64 (cntR (fun i => hasB o (digits l (i : Nat))) N : Nat)),.junk,.junk,.junk,.junk,.junk,.junk,.junk,.junk,.junk,.junk,.junk,.junk,.junk,.junk,.junk,.junk,.junk,.junk,.junk,.junk,.junk,.junk,.junk,.junk,.junk,.junk,.junk,.junk,.junk,.junk,.junk,.junk,.junk,.junk,.junk,.junk,.junk,.junk,.junk,.junk,.junk,.junk,.junk,.junk,.junk,.junk,.junk,.junk,.junk,.junk,.junk],[boxI m,xBox c p ko vo],none⟩):=by
  have ob:=okOwnBox (n+59) b' o (by omega)
  have om:=okOwnBox (n+59) true M (by omega)
  have h:=loop_fold (f:=aCode (level E (n+60)) ⟨0,false⟩ b6_1) (h:=head ⟨0,false⟩ [0,0,0,0,0,1,1,1,1,0,0,0,0,0,0,1,0,1,1,1,0,0,0,0,0,0,0,0,0,0,0,0,0,0,0,0,0,0,0,0,0,0,0,0,0,0,0,0,1,1,1,0,0,0,0,0,0,0,0,0,0,0,0,0,0,0,0,0,0,0,0]) (Φ:=outC ⟨0,false⟩ [0,0,0,1,0,1,1,1,1,0,0,0,0,0,0,1,0,1,1,1,0,0,0,0,0,0,0,0,0,0,0,0,0,0,0,0,0,0,0,0,0,0,0,0,0,0,0,0,0,0,0,0,0,0,0,0,0,0,0,0,0,0,0,0,0,0,0,0,0,0,0]) (List.range N) (fun (a : Nat) i => ⟨[.junk,.junk,.junk,.junk,.junk,.ptr 0 0,.ptr 1 0,.imm (enB b l),.imm (enB b' o),.junk,.junk,.junk,.junk,.junk,.junk,.imm (enB true M),.junk,.imm uD,.imm (.int .i64 e3),.imm (.int .i64 a),.junk,.junk,.junk,.junk,.junk,.junk,.junk,.junk,.junk,.junk,.junk,.junk,.junk,.junk,.junk,.junk,.junk,.junk,.junk,.junk,.junk,.junk,.junk,.junk,.junk,.junk,.junk,.junk,.imm (ptsD l N),.imm (.int .i64 N),.imm (.int .i64 i),.junk,.junk,.junk,.junk,.junk,.junk,.junk,.junk,.junk,.junk,.junk,.junk,.junk,.junk,.junk,.junk,.junk,.junk,.junk,.junk],[boxI m,xBox c p ko vo],none⟩) (fun a i => a ≤ i)
    (fun (a : Nat) (i : Nat) => if hasB o (digits l (i : Nat)) then a + 1 else a) (fun (a : Nat) => some (.exit 2,⟨[.junk,.junk,.junk,.junk,.junk,.ptr 0 0,.ptr 1 0,.imm (enB b l),.imm (enB b' o),.junk,.junk,.junk,.junk,.junk,.junk,.imm (enB true M),.junk,.imm uD,.imm (.int .i64 e3),.imm (.int .i64 a),.junk,.junk,.junk,.junk,.junk,.junk,.junk,.junk,.junk,.junk,.junk,.junk,.junk,.junk,.junk,.junk,.junk,.junk,.junk,.junk,.junk,.junk,.junk,.junk,.junk,.junk,.junk,.junk,.junk,.junk,.junk,.junk,.junk,.junk,.junk,.junk,.junk,.junk,.junk,.junk,.junk,.junk,.junk,.junk,.junk,.junk,.junk,.junk,.junk,.junk,.junk],[boxI m,xBox c p ko vo],none⟩)) 0 (Nat.le_refl _)
    (fun a i x hI h2 h1 => ⟨by
      have:=getRange h1
      subst this
      rw [List.length_range] at h2
      have g:=pts_get l N x h2
      have e:=pD_dig hk N hN x h2
      have hl:=(ckBox0 hk).2.1
      have lp:=okLPoint (n+59) false (digits l x) (by rw [digits_len]; omega)
      have q1:=Hb x h2
      have q2:=Hm x h2
      rw [e] at g
      rw [rnd_eq]
      simp only [enB] at ob om q1 q2
      by_cases he : e3 = 0
      · have q3:=Ho he
        have q4:=Hu he x h2
        cases hh : hasB o (digits l x) with
        | true =>
          rw [hh] at q1 q2
          simp only [go_sem,Nat.reduceAdd,Nat.reduceSub,Nat.reduceMul,Nat.reduceDiv,Nat.reduceMod,Nat.reduceLeDiff,Nat.reduceLT,Nat.reduceBEq,Int.reduceToNat,Int.reduceLT,Int.reduceLE,Int.reduceEq,ptsD,lt_t h2,g,ob,om,lp,q1,q2,q3,q4,he,aEqBl',enB,boxI,xBox,ne_eq,not_true_eq_false]
          rw [wrpS (by omega),wrpS (by omega)]
        | false =>
          rw [hh] at q1 q2
          simp only [go_sem,Nat.reduceAdd,Nat.reduceSub,Nat.reduceMul,Nat.reduceDiv,Nat.reduceMod,Nat.reduceLeDiff,Nat.reduceLT,Nat.reduceBEq,Int.reduceToNat,Int.reduceLT,Int.reduceLE,Int.reduceEq,ptsD,lt_t h2,g,ob,om,lp,q1,q2,q3,q4,he,aEqBl',enB,boxI,xBox,ne_eq,not_true_eq_false,Bool.false_eq_true]
          rw [wrpS (by omega)]
      · cases hh : hasB o (digits l x) with
        | true =>
          rw [hh] at q1 q2
          simp only [go_sem,Nat.reduceAdd,Nat.reduceSub,Nat.reduceMul,Nat.reduceDiv,Nat.reduceMod,Nat.reduceLeDiff,Nat.reduceLT,Nat.reduceBEq,Int.reduceToNat,Int.reduceLT,Int.reduceLE,Int.reduceEq,ptsD,lt_t h2,g,ob,om,lp,q1,q2,he,aEqBl',enB,boxI,xBox,ne_eq,not_true_eq_false]
          rw [wrpS (by omega),wrpS (by omega)]
        | false =>
          rw [hh] at q1 q2
          simp only [go_sem,Nat.reduceAdd,Nat.reduceSub,Nat.reduceMul,Nat.reduceDiv,Nat.reduceMod,Nat.reduceLeDiff,Nat.reduceLT,Nat.reduceBEq,Int.reduceToNat,Int.reduceLT,Int.reduceLE,Int.reduceEq,ptsD,lt_t h2,g,ob,om,lp,q1,q2,he,aEqBl',enB,boxI,xBox,ne_eq,not_true_eq_false,Bool.false_eq_true]
          rw [wrpS (by omega)],by split <;> omega⟩)
    (fun _ _ => by
      rw [rnd_eq,List.length_range]
      simp only [go_sem,Nat.reduceAdd,Nat.reduceSub,Nat.reduceMul,Nat.reduceDiv,Nat.reduceMod,Nat.reduceLeDiff,Nat.reduceLT,Nat.reduceBEq,Int.reduceToNat,Int.reduceLT,Int.reduceLE,Int.reduceEq,ptsD,lt_f (Nat.le_refl _),enB,boxI,xBox])
  rw [cast_0,cnt_fold] at h
  exact h
end Go.Vm.P4D

/- Chapter 04: the loops of the law ImageSets,continued. -/
set_option maxRecDepth 100000
set_option maxHeartbeats 4000000
namespace Go.Vm.P4D
open Go Go.Vm Go.Vm.P4
section
variable {α : Type} {d v : α}
theorem gd64 {x0 x1 x2 x3 x4 x5 x6 x7 x8 x9 x10 x11 x12 x13 x14 x15 x16 x17 x18 x19 x20 x21 x22 x23 x24 x25 x26 x27 x28 x29 x30 x31 x32 x33 x34 x35 x36 x37 x38 x39 x40 x41 x42 x43 x44 x45 x46 x47 x48 x49 x50 x51 x52 x53 x54 x55 x56 x57 x58 x59 x60 x61 x62 x63 x64 : α} {r : List α} : List.getD (x0 :: x1 :: x2 :: x3 :: x4 :: x5 :: x6 :: x7 :: x8 :: x9 :: x10 :: x11 :: x12 :: x13 :: x14 :: x15 :: x16 :: x17 :: x18 :: x19 :: x20 :: x21 :: x22 :: x23 :: x24 :: x25 :: x26 :: x27 :: x28 :: x29 :: x30 :: x31 :: x32 :: x33 :: x34 :: x35 :: x36 :: x37 :: x38 :: x39 :: x40 :: x41 :: x42 :: x43 :: x44 :: x45 :: x46 :: x47 :: x48 :: x49 :: x50 :: x51 :: x52 :: x53 :: x54 :: x55 :: x56 :: x57 :: x58 :: x59 :: x60 :: x61 :: x62 :: x63 :: x64 :: r) 64 d = x64:=id rfl
theorem st64 {x0 x1 x2 x3 x4 x5 x6 x7 x8 x9 x10 x11 x12 x13 x14 x15 x16 x17 x18 x19 x20 x21 x22 x23 x24 x25 x26 x27 x28 x29 x30 x31 x32 x33 x34 x35 x36 x37 x38 x39 x40 x41 x42 x43 x44 x45 x46 x47 x48 x49 x50 x51 x52 x53 x54 x55 x56 x57 x58 x59 x60 x61 x62 x63 x64 : α} {r : List α} : List.set (x0 :: x1 :: x2 :: x3 :: x4 :: x5 :: x6 :: x7 :: x8 :: x9 :: x10 :: x11 :: x12 :: x13 :: x14 :: x15 :: x16 :: x17 :: x18 :: x19 :: x20 :: x21 :: x22 :: x23 :: x24 :: x25 :: x26 :: x27 :: x28 :: x29 :: x30 :: x31 :: x32 :: x33 :: x34 :: x35 :: x36 :: x37 :: x38 :: x39 :: x40 :: x41 :: x42 :: x43 :: x44 :: x45 :: x46 :: x47 :: x48 :: x49 :: x50 :: x51 :: x52 :: x53 :: x54 :: x55 :: x56 :: x57 :: x58 :: x59 :: x60 :: x61 :: x62 :: x63 :: x64 :: r) 64 v = x0 :: x1 :: x2 :: x3 :: x4 :: x5 :: x6 :: x7 :: x8 :: x9 :: x10 :: x11 :: x12 :: x13 :: x14 :: x15 :: x16 :: x17 :: x18 :: x19 :: x20 :: x21 :: x22 :: x23 :: x24 :: x25 :: x26 :: x27 :: x28 :: x29 :: x30 :: x31 :: x32 :: x33 :: x34 :: x35 :: x36 :: x37 :: x38 :: x39 :: x40 :: x41 :: x42 :: x43 :: x44 :: x45 :: x46 :: x47 :: x48 :: x49 :: x50 :: x51 :: x52 :: x53 :: x54 :: x55 :: x56 :: x57 :: x58 :: x59 :: x60 :: x61 :: x62 :: x63 :: v :: r:=id rfl
theorem gd65 {x0 x1 x2 x3 x4 x5 x6 x7 x8 x9 x10 x11 x12 x13 x14 x15 x16 x17 x18 x19 x20 x21 x22 x23 x24 x25 x26 x27 x28 x29 x30 x31 x32 x33 x34 x35 x36 x37 x38 x39 x40 x41 x42 x43 x44 x45 x46 x47 x48 x49 x50 x51 x52 x53 x54 x55 x56 x57 x58 x59 x60 x61 x62 x63 x64 x65 : α} {r : List α} : List.getD (x0 :: x1 :: x2 :: x3 :: x4 :: x5 :: x6 :: x7 :: x8 :: x9 :: x10 :: x11 :: x12 :: x13 :: x14 :: x15 :: x16 :: x17 :: x18 :: x19 :: x20 :: x21 :: x22 :: x23 :: x24 :: x25 :: x26 :: x27 :: x28 :: x29 :: x30 :: x31 :: x32 :: x33 :: x34 :: x35 :: x36 :: x37 :: x38 :: x39 :: x40 :: x41 :: x42 :: x43 :: x44 :: x45 :: x46 :: x47 :: x48 :: x49 :: x50 :: x51 :: x52 :: x53 :: x54 :: x55 :: x56 :: x57 :: x58 :: x59 :: x60 :: x61 :: x62 :: x63 :: x64 :: x65 :: r) 65 d = x65:=id rfl
theorem st65 {x0 x1 x2 x3 x4 x5 x6 x7 x8 x9 x10 x11 x12 x13 x14 x15 x16 x17 x18 x19 x20 x21 x22 x23 x24 x25 x26 x27 x28 x29 x30 x31 x32 x33 x34 x35 x36 x37 x38 x39 x40 x41 x42 x43 x44 x45 x46 x47 x48 x49 x50 x51 x52 x53 x54 x55 x56 x57 x58 x59 x60 x61 x62 x63 x64 x65 : α} {r : List α} : List.set (x0 :: x1 :: x2 :: x3 :: x4 :: x5 :: x6 :: x7 :: x8 :: x9 :: x10 :: x11 :: x12 :: x13 :: x14 :: x15 :: x16 :: x17 :: x18 :: x19 :: x20 :: x21 :: x22 :: x23 :: x24 :: x25 :: x26 :: x27 :: x28 :: x29 :: x30 :: x31 :: x32 :: x33 :: x34 :: x35 :: x36 :: x37 :: x38 :: x39 :: x40 :: x41 :: x42 :: x43 :: x44 :: x45 :: x46 :: x47 :: x48 :: x49 :: x50 :: x51 :: x52 :: x53 :: x54 :: x55 :: x56 :: x57 :: x58 :: x59 :: x60 :: x61 :: x62 :: x63 :: x64 :: x65 :: r) 65 v = x0 :: x1 :: x2 :: x3 :: x4 :: x5 :: x6 :: x7 :: x8 :: x9 :: x10 :: x11 :: x12 :: x13 :: x14 :: x15 :: x16 :: x17 :: x18 :: x19 :: x20 :: x21 :: x22 :: x23 :: x24 :: x25 :: x26 :: x27 :: x28 :: x29 :: x30 :: x31 :: x32 :: x33 :: x34 :: x35 :: x36 :: x37 :: x38 :: x39 :: x40 :: x41 :: x42 :: x43 :: x44 :: x45 :: x46 :: x47 :: x48 :: x49 :: x50 :: x51 :: x52 :: x53 :: x54 :: x55 :: x56 :: x57 :: x58 :: x59 :: x60 :: x61 :: x62 :: x63 :: x64 :: v :: r:=id rfl
theorem gd66 {x0 x1 x2 x3 x4 x5 x6 x7 x8 x9 x10 x11 x12 x13 x14 x15 x16 x17 x18 x19 x20 x21 x22 x23 x24 x25 x26 x27 x28 x29 x30 x31 x32 x33 x34 x35 x36 x37 x38 x39 x40 x41 x42 x43 x44 x45 x46 x47 x48 x49 x50 x51 x52 x53 x54 x55 x56 x57 x58 x59 x60 x61 x62 x63 x64 x65 x66 : α} {r : List α} : List.getD (x0 :: x1 :: x2 :: x3 :: x4 :: x5 :: x6 :: x7 :: x8 :: x9 :: x10 :: x11 :: x12 :: x13 :: x14 :: x15 :: x16 :: x17 :: x18 :: x19 :: x20 :: x21 :: x22 :: x23 :: x24 :: x25 :: x26 :: x27 :: x28 :: x29 :: x30 :: x31 :: x32 :: x33 :: x34 :: x35 :: x36 :: x37 :: x38 :: x39 :: x40 :: x41 :: x42 :: x43 :: x44 :: x45 :: x46 :: x47 :: x48 :: x49 :: x50 :: x51 :: x52 :: x53 :: x54 :: x55 :: x56 :: x57 :: x58 :: x59 :: x60 :: x61 :: x62 :: x63 :: x64 :: x65 :: x66 :: r) 66 d = x66:=id rfl
theorem st66 {x0 x1 x2 x3 x4 x5 x6 x7 x8 x9 x10 x11 x12 x13 x14 x15 x16 x17 x18 x19 x20 x21 x22 x23 x24 x25 x26 x27 x28 x29 x30 x31 x32 x33 x34 x35 x36 x37 x38 x39 x40 x41 x42 x43 x44 x45 x46 x47 x48 x49 x50 x51 x52 x53 x54 x55 x56 x57 x58 x59 x60 x61 x62 x63 x64 x65 x66 : α} {r : List α} : List.set (x0 :: x1 :: x2 :: x3 :: x4 :: x5 :: x6 :: x7 :: x8 :: x9 :: x10 :: x11 :: x12 :: x13 :: x14 :: x15 :: x16 :: x17 :: x18 :: x19 :: x20 :: x21 :: x22 :: x23 :: x24 :: x25 :: x26 :: x27 :: x28 :: x29 :: x30 :: x31 :: x32 :: x33 :: x34 :: x35 :: x36 :: x37 :: x38 :: x39 :: x40 :: x41 :: x42 :: x43 :: x44 :: x45 :: x46 :: x47 :: x48 :: x49 :: x50 :: x51 :: x52 :: x53 :: x54 :: x55 :: x56 :: x57 :: x58 :: x59 :: x60 :: x61 :: x62 :: x63 :: x64 :: x65 :: x66 :: r) 66 v = x0 :: x1 :: x2 :: x3 :: x4 :: x5 :: x6 :: x7 :: x8 :: x9 :: x10 :: x11 :: x12 :: x13 :: x14 :: x15 :: x16 :: x17 :: x18 :: x19 :: x20 :: x21 :: x22 :: x23 :: x24 :: x25 :: x26 :: x27 :: x28 :: x29 :: x30 :: x31 :: x32 :: x33 :: x34 :: x35 :: x36 :: x37 :: x38 :: x39 :: x40 :: x41 :: x42 :: x43 :: x44 :: x45 :: x46 :: x47 :: x48 :: x49 :: x50 :: x51 :: x52 :: x53 :: x54 :: x55 :: x56 :: x57 :: x58 :: x59 :: x60 :: x61 :: x62 :: x63 :: x64 :: x65 :: v :: r:=id rfl
theorem gd67 {x0 x1 x2 x3 x4 x5 x6 x7 x8 x9 x10 x11 x12 x13 x14 x15 x16 x17 x18 x19 x20 x21 x22 x23 x24 x25 x26 x27 x28 x29 x30 x31 x32 x33 x34 x35 x36 x37 x38 x39 x40 x41 x42 x43 x44 x45 x46 x47 x48 x49 x50 x51 x52 x53 x54 x55 x56 x57 x58 x59 x60 x61 x62 x63 x64 x65 x66 x67 : α} {r : List α} : List.getD (x0 :: x1 :: x2 :: x3 :: x4 :: x5 :: x6 :: x7 :: x8 :: x9 :: x10 :: x11 :: x12 :: x13 :: x14 :: x15 :: x16 :: x17 :: x18 :: x19 :: x20 :: x21 :: x22 :: x23 :: x24 :: x25 :: x26 :: x27 :: x28 :: x29 :: x30 :: x31 :: x32 :: x33 :: x34 :: x35 :: x36 :: x37 :: x38 :: x39 :: x40 :: x41 :: x42 :: x43 :: x44 :: x45 :: x46 :: x47 :: x48 :: x49 :: x50 :: x51 :: x52 :: x53 :: x54 :: x55 :: x56 :: x57 :: x58 :: x59 :: x60 :: x61 :: x62 :: x63 :: x64 :: x65 :: x66 :: x67 :: r) 67 d = x67:=id rfl
theorem st67 {x0 x1 x2 x3 x4 x5 x6 x7 x8 x9 x10 x11 x12 x13 x14 x15 x16 x17 x18 x19 x20 x21 x22 x23 x24 x25 x26 x27 x28 x29 x30 x31 x32 x33 x34 x35 x36 x37 x38 x39 x40 x41 x42 x43 x44 x45 x46 x47 x48 x49 x50 x51 x52 x53 x54 x55 x56 x57 x58 x59 x60 x61 x62 x63 x64 x65 x66 x67 : α} {r : List α} : List.set (x0 :: x1 :: x2 :: x3 :: x4 :: x5 :: x6 :: x7 :: x8 :: x9 :: x10 :: x11 :: x12 :: x13 :: x14 :: x15 :: x16 :: x17 :: x18 :: x19 :: x20 :: x21 :: x22 :: x23 :: x24 :: x25 :: x26 :: x27 :: x28 :: x29 :: x30 :: x31 :: x32 :: x33 :: x34 :: x35 :: x36 :: x37 :: x38 :: x39 :: x40 :: x41 :: x42 :: x43 :: x44 :: x45 :: x46 :: x47 :: x48 :: x49 :: x50 :: x51 :: x52 :: x53 :: x54 :: x55 :: x56 :: x57 :: x58 :: x59 :: x60 :: x61 :: x62 :: x63 :: x64 :: x65 :: x66 :: x67 :: r) 67 v = x0 :: x1 :: x2 :: x3 :: x4 :: x5 :: x6 :: x7 :: x8 :: x9 :: x10 :: x11 :: x12 :: x13 :: x14 :: x15 :: x16 :: x17 :: x18 :: x19 :: x20 :: x21 :: x22 :: x23 :: x24 :: x25 :: x26 :: x27 :: x28 :: x29 :: x30 :: x31 :: x32 :: x33 :: x34 :: x35 :: x36 :: x37 :: x38 :: x39 :: x40 :: x41 :: x42 :: x43 :: x44 :: x45 :: x46 :: x47 :: x48 :: x49 :: x50 :: x51 :: x52 :: x53 :: x54 :: x55 :: x56 :: x57 :: x58 :: x59 :: x60 :: x61 :: x62 :: x63 :: x64 :: x65 :: x66 :: v :: r:=id rfl
theorem gd68 {x0 x1 x2 x3 x4 x5 x6 x7 x8 x9 x10 x11 x12 x13 x14 x15 x16 x17 x18 x19 x20 x21 x22 x23 x24 x25 x26 x27 x28 x29 x30 x31 x32 x33 x34 x35 x36 x37 x38 x39 x40 x41 x42 x43 x44 x45 x46 x47 x48 x49 x50 x51 x52 x53 x54 x55 x56 x57 x58 x59 x60 x61 x62 x63 x64 x65 x66 x67 x68 : α} {r : List α} : List.getD (x0 :: x1 :: x2 :: x3 :: x4 :: x5 :: x6 :: x7 :: x8 :: x9 :: x10 :: x11 :: x12 :: x13 :: x14 :: x15 :: x16 :: x17 :: x18 :: x19 :: x20 :: x21 :: x22 :: x23 :: x24 :: x25 :: x26 :: x27 :: x28 :: x29 :: x30 :: x31 :: x32 :: x33 :: x34 :: x35 :: x36 :: x37 :: x38 :: x39 :: x40 :: x41 :: x42 :: x43 :: x44 :: x45 :: x46 :: x47 :: x48 :: x49 :: x50 :: x51 :: x52 :: x53 :: x54 :: x55 :: x56 :: x57 :: x58 :: x59 :: x60 :: x61 :: x62 :: x63 :: x64 :: x65 :: x66 :: x67 :: x68 :: r) 68 d = x68:=id rfl
theorem st68 {x0 x1 x2 x3 x4 x5 x6 x7 x8 x9 x10 x11 x12 x13 x14 x15 x16 x17 x18 x19 x20 x21 x22 x23 x24 x25 x26 x27 x28 x29 x30 x31 x32 x33 x34 x35 x36 x37 x38 x39 x40 x41 x42 x43 x44 x45 x46 x47 x48 x49 x50 x51 x52 x53 x54 x55 x56 x57 x58 x59 x60 x61 x62 x63 x64 x65 x66 x67 x68 : α} {r : List α} : List.set (x0 :: x1 :: x2 :: x3 :: x4 :: x5 :: x6 :: x7 :: x8 :: x9 :: x10 :: x11 :: x12 :: x13 :: x14 :: x15 :: x16 :: x17 :: x18 :: x19 :: x20 :: x21 :: x22 :: x23 :: x24 :: x25 :: x26 :: x27 :: x28 :: x29 :: x30 :: x31 :: x32 :: x33 :: x34 :: x35 :: x36 :: x37 :: x38 :: x39 :: x40 :: x41 :: x42 :: x43 :: x44 :: x45 :: x46 :: x47 :: x48 :: x49 :: x50 :: x51 :: x52 :: x53 :: x54 :: x55 :: x56 :: x57 :: x58 :: x59 :: x60 :: x61 :: x62 :: x63 :: x64 :: x65 :: x66 :: x67 :: x68 :: r) 68 v = x0 :: x1 :: x2 :: x3 :: x4 :: x5 :: x6 :: x7 :: x8 :: x9 :: x10 :: x11 :: x12 :: x13 :: x14 :: x15 :: x16 :: x17 :: x18 :: x19 :: x20 :: x21 :: x22 :: x23 :: x24 :: x25 :: x26 :: x27 :: x28 :: x29 :: x30 :: x31 :: x32 :: x33 :: x34 :: x35 :: x36 :: x37 :: x38 :: x39 :: x40 :: x41 :: x42 :: x43 :: x44 :: x45 :: x46 :: x47 :: x48 :: x49 :: x50 :: x51 :: x52 :: x53 :: x54 :: x55 :: x56 :: x57 :: x58 :: x59 :: x60 :: x61 :: x62 :: x63 :: x64 :: x65 :: x66 :: x67 :: v :: r:=id rfl
theorem gd69 {x0 x1 x2 x3 x4 x5 x6 x7 x8 x9 x10 x11 x12 x13 x14 x15 x16 x17 x18 x19 x20 x21 x22 x23 x24 x25 x26 x27 x28 x29 x30 x31 x32 x33 x34 x35 x36 x37 x38 x39 x40 x41 x42 x43 x44 x45 x46 x47 x48 x49 x50 x51 x52 x53 x54 x55 x56 x57 x58 x59 x60 x61 x62 x63 x64 x65 x66 x67 x68 x69 : α} {r : List α} : List.getD (x0 :: x1 :: x2 :: x3 :: x4 :: x5 :: x6 :: x7 :: x8 :: x9 :: x10 :: x11 :: x12 :: x13 :: x14 :: x15 :: x16 :: x17 :: x18 :: x19 :: x20 :: x21 :: x22 :: x23 :: x24 :: x25 :: x26 :: x27 :: x28 :: x29 :: x30 :: x31 :: x32 :: x33 :: x34 :: x35 :: x36 :: x37 :: x38 :: x39 :: x40 :: x41 :: x42 :: x43 :: x44 :: x45 :: x46 :: x47 :: x48 :: x49 :: x50 :: x51 :: x52 :: x53 :: x54 :: x55 :: x56 :: x57 :: x58 :: x59 :: x60 :: x61 :: x62 :: x63 :: x64 :: x65 :: x66 :: x67 :: x68 :: x69 :: r) 69 d = x69:=id rfl
theorem st69 {x0 x1 x2 x3 x4 x5 x6 x7 x8 x9 x10 x11 x12 x13 x14 x15 x16 x17 x18 x19 x20 x21 x22 x23 x24 x25 x26 x27 x28 x29 x30 x31 x32 x33 x34 x35 x36 x37 x38 x39 x40 x41 x42 x43 x44 x45 x46 x47 x48 x49 x50 x51 x52 x53 x54 x55 x56 x57 x58 x59 x60 x61 x62 x63 x64 x65 x66 x67 x68 x69 : α} {r : List α} : List.set (x0 :: x1 :: x2 :: x3 :: x4 :: x5 :: x6 :: x7 :: x8 :: x9 :: x10 :: x11 :: x12 :: x13 :: x14 :: x15 :: x16 :: x17 :: x18 :: x19 :: x20 :: x21 :: x22 :: x23 :: x24 :: x25 :: x26 :: x27 :: x28 :: x29 :: x30 :: x31 :: x32 :: x33 :: x34 :: x35 :: x36 :: x37 :: x38 :: x39 :: x40 :: x41 :: x42 :: x43 :: x44 :: x45 :: x46 :: x47 :: x48 :: x49 :: x50 :: x51 :: x52 :: x53 :: x54 :: x55 :: x56 :: x57 :: x58 :: x59 :: x60 :: x61 :: x62 :: x63 :: x64 :: x65 :: x66 :: x67 :: x68 :: x69 :: r) 69 v = x0 :: x1 :: x2 :: x3 :: x4 :: x5 :: x6 :: x7 :: x8 :: x9 :: x10 :: x11 :: x12 :: x13 :: x14 :: x15 :: x16 :: x17 :: x18 :: x19 :: x20 :: x21 :: x22 :: x23 :: x24 :: x25 :: x26 :: x27 :: x28 :: x29 :: x30 :: x31 :: x32 :: x33 :: x34 :: x35 :: x36 :: x37 :: x38 :: x39 :: x40 :: x41 :: x42 :: x43 :: x44 :: x45 :: x46 :: x47 :: x48 :: x49 :: x50 :: x51 :: x52 :: x53 :: x54 :: x55 :: x56 :: x57 :: x58 :: x59 :: x60 :: x61 :: x62 :: x63 :: x64 :: x65 :: x66 :: x67 :: x68 :: v :: r:=id rfl
theorem gd70 {x0 x1 x2 x3 x4 x5 x6 x7 x8 x9 x10 x11 x12 x13 x14 x15 x16 x17 x18 x19 x20 x21 x22 x23 x24 x25 x26 x27 x28 x29 x30 x31 x32 x33 x34 x35 x36 x37 x38 x39 x40 x41 x42 x43 x44 x45 x46 x47 x48 x49 x50 x51 x52 x53 x54 x55 x56 x57 x58 x59 x60 x61 x62 x63 x64 x65 x66 x67 x68 x69 x70 : α} {r : List α} : List.getD (x0 :: x1 :: x2 :: x3 :: x4 :: x5 :: x6 :: x7 :: x8 :: x9 :: x10 :: x11 :: x12 :: x13 :: x14 :: x15 :: x16 :: x17 :: x18 :: x19 :: x20 :: x21 :: x22 :: x23 :: x24 :: x25 :: x26 :: x27 :: x28 :: x29 :: x30 :: x31 :: x32 :: x33 :: x34 :: x35 :: x36 :: x37 :: x38 :: x39 :: x40 :: x41 :: x42 :: x43 :: x44 :: x45 :: x46 :: x47 :: x48 :: x49 :: x50 :: x51 :: x52 :: x53 :: x54 :: x55 :: x56 :: x57 :: x58 :: x59 :: x60 :: x61 :: x62 :: x63 :: x64 :: x65 :: x66 :: x67 :: x68 :: x69 :: x70 :: r) 70 d = x70:=id rfl
theorem st70 {x0 x1 x2 x3 x4 x5 x6 x7 x8 x9 x10 x11 x12 x13 x14 x15 x16 x17 x18 x19 x20 x21 x22 x23 x24 x25 x26 x27 x28 x29 x30 x31 x32 x33 x34 x35 x36 x37 x38 x39 x40 x41 x42 x43 x44 x45 x46 x47 x48 x49 x50 x51 x52 x53 x54 x55 x56 x57 x58 x59 x60 x61 x62 x63 x64 x65 x66 x67 x68 x69 x70 : α} {r : List α} : List.set (x0 :: x1 :: x2 :: x3 :: x4 :: x5 :: x6 :: x7 :: x8 :: x9 :: x10 :: x11 :: x12 :: x13 :: x14 :: x15 :: x16 :: x17 :: x18 :: x19 :: x20 :: x21 :: x22 :: x23 :: x24 :: x25 :: x26 :: x27 :: x28 :: x29 :: x30 :: x31 :: x32 :: x33 :: x34 :: x35 :: x36 :: x37 :: x38 :: x39 :: x40 :: x41 :: x42 :: x43 :: x44 :: x45 :: x46 :: x47 :: x48 :: x49 :: x50 :: x51 :: x52 :: x53 :: x54 :: x55 :: x56 :: x57 :: x58 :: x59 :: x60 :: x61 :: x62 :: x63 :: x64 :: x65 :: x66 :: x67 :: x68 :: x69 :: x70 :: r) 70 v = x0 :: x1 :: x2 :: x3 :: x4 :: x5 :: x6 :: x7 :: x8 :: x9 :: x10 :: x11 :: x12 :: x13 :: x14 :: x15 :: x16 :: x17 :: x18 :: x19 :: x20 :: x21 :: x22 :: x23 :: x24 :: x25 :: x26 :: x27 :: x28 :: x29 :: x30 :: x31 :: x32 :: x33 :: x34 :: x35 :: x36 :: x37 :: x38 :: x39 :: x40 :: x41 :: x42 :: x43 :: x44 :: x45 :: x46 :: x47 :: x48 :: x49 :: x50 :: x51 :: x52 :: x53 :: x54 :: x55 :: x56 :: x57 :: x58 :: x59 :: x60 :: x61 :: x62 :: x63 :: x64 :: x65 :: x66 :: x67 :: x68 :: x69 :: v :: r:=id rfl
end
attribute [go_sem] gd64 st64 gd65 st65 gd66 st66 gd67 st67 gd68 st68 gd69 st69 gd70 st70
theorem setL2 (n : Nat) (m : Im) (c b b' b2 : Bool) (p : List Int) (ko vo : Int) (l o : Bx) (hl : Okr l) (ho : Okr o) (hlo : l.length = o.length) (h3 : l.length ≤ 3) :
    outC ⟨0,false⟩ [0,0,0,1,0,1,1,0,0,0,0,0,0,0,0,0,0,0,0,0,0,0,0,0,0,0,0,0,0,0,0,0,0,0,0,0,0,0,0,0,0,0,0,0,0,0,0,0,0,0,0,0,0,0,0,0,0,0,0,0,0,0,0,0,0,0,0,0,0,0,0] (rnd (aCode (level E (n+60)) ⟨0,false⟩ b6_2) (head ⟨0,false⟩ [0,0,0,0,0,1,1,1,1,0,0,0,0,0,0,0,0,0,0,0,0,0,0,0,0,0,0,0,0,0,0,0,0,0,0,0,0,0,0,0,0,0,0,0,0,0,0,0,0,0,0,0,0,0,0,0,0,0,1,1,1,0,0,0,0,0,0,0,0,0,0])
      ⟨[.junk,.junk,.junk,.junk,.junk,.ptr 0 0,.ptr 1 0,.imm (enB b l),.imm (enB b' o),.junk,.junk,.junk,.junk,.junk,.junk,.junk,.junk,.junk,.junk,.junk,.junk,.junk,.junk,.junk,.junk,.junk,.junk,.junk,.junk,.junk,.junk,.junk,.junk,.junk,.junk,.junk,.junk,.junk,.junk,.junk,.junk,.junk,.junk,.junk,.junk,.junk,.junk,.junk,.junk,.junk,.junk,.junk,.junk,.junk,.junk,.junk,.junk,.junk,.imm (enB b2 (List.zipWith rspan l o)),.imm (.int .i64 l.length),.imm (.int .i64 0),.junk,.junk,.junk,.junk,.junk,.junk,.junk,.junk,.junk,.junk],[boxI m,xBox c p ko vo],none⟩) =
    some (.exit 4,⟨[.junk,.junk,.junk,.junk,.junk,.ptr 0 0,.ptr 1 0,.junk,.junk,.junk,.junk,.junk,.junk,.junk,.junk,.junk,.junk,.junk,.junk,.junk,.junk,.junk,.junk,.junk,.junk,.junk,.junk,.junk,.junk,.junk,.junk,.junk,.junk,.junk,.junk,.junk,.junk,.junk,.junk,.junk,.junk,.junk,.junk,.junk,.junk,.junk,.junk,.junk,.junk,.junk,.junk,.junk,.junk,.junk,.junk,.junk,.junk,.junk,.junk,.junk,.junk,.junk,.junk,.junk,.junk,.junk,.junk,.junk,.junk,.junk,.junk],[boxI m,xBox c p ko vo],none⟩):=by
  have h:=loop_fold (f:=aCode (level E (n+60)) ⟨0,false⟩ b6_2) (h:=head ⟨0,false⟩ [0,0,0,0,0,1,1,1,1,0,0,0,0,0,0,0,0,0,0,0,0,0,0,0,0,0,0,0,0,0,0,0,0,0,0,0,0,0,0,0,0,0,0,0,0,0,0,0,0,0,0,0,0,0,0,0,0,0,1,1,1,0,0,0,0,0,0,0,0,0,0]) (Φ:=outC ⟨0,false⟩ [0,0,0,1,0,1,1,0,0,0,0,0,0,0,0,0,0,0,0,0,0,0,0,0,0,0,0,0,0,0,0,0,0,0,0,0,0,0,0,0,0,0,0,0,0,0,0,0,0,0,0,0,0,0,0,0,0,0,0,0,0,0,0,0,0,0,0,0,0,0,0]) (List.zip l o) (fun (_ : Unit) i => ⟨[.junk,.junk,.junk,.junk,.junk,.ptr 0 0,.ptr 1 0,.imm (enB b l),.imm (enB b' o),.junk,.junk,.junk,.junk,.junk,.junk,.junk,.junk,.junk,.junk,.junk,.junk,.junk,.junk,.junk,.junk,.junk,.junk,.junk,.junk,.junk,.junk,.junk,.junk,.junk,.junk,.junk,.junk,.junk,.junk,.junk,.junk,.junk,.junk,.junk,.junk,.junk,.junk,.junk,.junk,.junk,.junk,.junk,.junk,.junk,.junk,.junk,.junk,.junk,.imm (enB b2 (List.zipWith rspan l o)),.imm (.int .i64 l.length),.imm (.int .i64 i),.junk,.junk,.junk,.junk,.junk,.junk,.junk,.junk,.junk,.junk],[boxI m,xBox c p ko vo],none⟩) (fun _ _ => True)
    (fun _ _ => ()) (fun _ => some (.exit 4,⟨[.junk,.junk,.junk,.junk,.junk,.ptr 0 0,.ptr 1 0,.junk,.junk,.junk,.junk,.junk,.junk,.junk,.junk,.junk,.junk,.junk,.junk,.junk,.junk,.junk,.junk,.junk,.junk,.junk,.junk,.junk,.junk,.junk,.junk,.junk,.junk,.junk,.junk,.junk,.junk,.junk,.junk,.junk,.junk,.junk,.junk,.junk,.junk,.junk,.junk,.junk,.junk,.junk,.junk,.junk,.junk,.junk,.junk,.junk,.junk,.junk,.junk,.junk,.junk,.junk,.junk,.junk,.junk,.junk,.junk,.junk,.junk,.junk,.junk],[boxI m,xBox c p ko vo],none⟩)) () trivial
    (fun _ i x _ h2 h1 => ⟨by
      rw [List.length_zip] at h2
      have hil : i < l.length:=by omega
      have g1 : l[i]? = some x.1:=by
        rw [List.getElem?_zip_eq_some] at h1; exact h1.1
      have g2 : o[i]? = some x.2:=by
        rw [List.getElem?_zip_eq_some] at h1; exact h1.2
      obtain ⟨r,s⟩:=x
      dsimp only at g1 g2
      have hr:=hl r (List.mem_of_getElem? g1)
      have hs:=ho s (List.mem_of_getElem? g2)
      have k1:=ckRange0 hr
      have k2:=ckRange0 hs
      obtain ⟨e1,e2⟩:=rspan_ok hr hs
      have g3 : (List.zipWith rspan l o)[i]? = some (rspan r s):=by
        rw [List.getElem?_zipWith,g1,g2]
      have w1 : wrp .i64 (r.lo + r.ex) = r.lo + r.ex:=wrp_ok (by omega)
      have w2 : wrp .i64 (s.lo + s.ex) = s.lo + s.ex:=wrp_ok (by omega)
      have w3 : wrp .i64 (min r.lo s.lo + (max (r.lo + r.ex) (s.lo + s.ex) - min r.lo s.lo)) = max (r.lo + r.ex) (s.lo + s.ex):=by rw [wrp_ok (by omega)]; omega
      rw [rnd_eq]
      simp only [go_sem,Nat.reduceAdd,Nat.reduceSub,Nat.reduceMul,Nat.reduceDiv,Nat.reduceMod,Nat.reduceLeDiff,Nat.reduceLT,Nat.reduceBEq,Int.reduceToNat,Int.reduceLT,Int.reduceLE,Int.reduceEq,enB,lt_t hil,g1,g2,g3,e1,e2,w1,w2,w3,boxI,xBox,ne_eq,not_true_eq_false,Bool.false_eq_true]
      rw [wrpS (by omega)],trivial⟩)
    (fun _ _ => by
      rw [rnd_eq,List.length_zip,← hlo,Nat.min_self]
      simp only [go_sem,Nat.reduceAdd,Nat.reduceSub,Nat.reduceMul,Nat.reduceDiv,Nat.reduceMod,Nat.reduceLeDiff,Nat.reduceLT,Nat.reduceBEq,Int.reduceToNat,Int.reduceLT,Int.reduceLE,Int.reduceEq,lt_f (Nat.le_refl _),enB,boxI,xBox])
  rw [cast_0] at h
  exact h
theorem setL3 (n : Nat) (m s : Im) (c : Bool) (p : List Int) (ko vo : Int) (hk : ckBox m.bx = 0) (hp : p.length < 1000000) (N : Nat) (hN : many m.bx = N) (hN2 : N ≤ 4096) (F G : Nat → Int)
    (lx : m.bx.length < 1000000) (ls : m.st.length < 1000000) (ld : m.dt.length < 1000000) (sx : s.bx.length < 1000000) (ss : s.st.length < 1000000) (sd : s.dt.length < 1000000)
    (HF : ∀ i : Nat,i < N → F i = if digits m.bx (i : Nat) = p then vo else G i)
    (H1 : ∀ i : Nat,i < N → callP (level E (n+60)) 24 [enIm s.own,slD false 1 ((digits m.bx i).map ic)] = some (.tup [.agg [.int .i64 ko,.int .u64 (F i)],.int .i64 0]))
    (H2 : ∀ i : Nat,i < N → callP (level E (n+60)) 24 [enIm m.own,slD false 1 ((digits m.bx i).map ic)] = some (.tup [.agg [.int .i64 ko,.int .u64 (G i)],.int .i64 0])) :
    outC ⟨0,false⟩ [0,0,0,1,0,0,0,0,0,0,0,0,0,0,0,0,0,0,0,0,0,0,0,0,0,0,0,0,0,0,0,0,0,0,0,0,0,0,0,0,0,0,0,0,0,0,0,0,0,0,0,0,0,0,0,0,0,0,0,0,0,0,0,0,0,0,0,0,0,0,0] (rnd (aCode (level E (n+60)) ⟨0,false⟩ b6_3) (head ⟨0,false⟩ [0,0,0,0,0,1,1,0,0,0,0,0,0,0,0,0,0,0,0,0,0,0,0,0,0,0,0,0,0,0,0,1,0,0,0,0,0,0,0,0,0,0,0,0,0,0,0,0,0,0,0,0,0,0,0,0,0,0,0,0,0,0,0,0,0,1,1,1,0,0,0])
      ⟨[.junk,.junk,.junk,.junk,.junk,.ptr 0 0,.ptr 1 0,.junk,.junk,.junk,.junk,.junk,.junk,.junk,.junk,.junk,.junk,.junk,.junk,.junk,.junk,.junk,.junk,.junk,.junk,.junk,.junk,.junk,.junk,.junk,.junk,.ptr 2 0,.junk,.junk,.junk,.junk,.junk,.junk,.junk,.junk,.junk,.junk,.junk,.junk,.junk,.junk,.junk,.junk,.junk,.junk,.junk,.junk,.junk,.junk,.junk,.junk,.junk,.junk,.junk,.junk,.junk,.junk,.junk,.junk,.junk,.imm (ptsD m.bx N),.imm (.int .i64 N),.imm (.int .i64 0),.junk,.junk,.junk],[boxI m,xBox c p ko vo,boxI s],none⟩) =
    some (.exit 6,⟨[.junk,.junk,.junk,.junk,.junk,.junk,.junk,.junk,.junk,.junk,.junk,.junk,.junk,.junk,.junk,.junk,.junk,.junk,.junk,.junk,.junk,.junk,.junk,.junk,.junk,.junk,.junk,.junk,.junk,.junk,.junk,.junk,.junk,.junk,.junk,.junk,.junk,.junk,.junk,.junk,.junk,.junk,.junk,.junk,.junk,.junk,.junk,.junk,.junk,.junk,.junk,.junk,.junk,.junk,.junk,.junk,.junk,.junk,.junk,.junk,.junk,.junk,.junk,.junk,.junk,.junk,.junk,.junk,.junk,.junk,.junk],[],none⟩):=by
  have om:=okOwnImage (n+58) m lx ls ld
  have os:=okOwnImage (n+58) s sx ss sd
  have h:=loop_fold (f:=aCode (level E (n+60)) ⟨0,false⟩ b6_3) (h:=head ⟨0,false⟩ [0,0,0,0,0,1,1,0,0,0,0,0,0,0,0,0,0,0,0,0,0,0,0,0,0,0,0,0,0,0,0,1,0,0,0,0,0,0,0,0,0,0,0,0,0,0,0,0,0,0,0,0,0,0,0,0,0,0,0,0,0,0,0,0,0,1,1,1,0,0,0]) (Φ:=outC ⟨0,false⟩ [0,0,0,1,0,0,0,0,0,0,0,0,0,0,0,0,0,0,0,0,0,0,0,0,0,0,0,0,0,0,0,0,0,0,0,0,0,0,0,0,0,0,0,0,0,0,0,0,0,0,0,0,0,0,0,0,0,0,0,0,0,0,0,0,0,0,0,0,0,0,0]) (List.range N) (fun (_ : Unit) i => ⟨[.junk,.junk,.junk,.junk,.junk,.ptr 0 0,.ptr 1 0,.junk,.junk,.junk,.junk,.junk,.junk,.junk,.junk,.junk,.junk,.junk,.junk,.junk,.junk,.junk,.junk,.junk,.junk,.junk,.junk,.junk,.junk,.junk,.junk,.ptr 2 0,.junk,.junk,.junk,.junk,.junk,.junk,.junk,.junk,.junk,.junk,.junk,.junk,.junk,.junk,.junk,.junk,.junk,.junk,.junk,.junk,.junk,.junk,.junk,.junk,.junk,.junk,.junk,.junk,.junk,.junk,.junk,.junk,.junk,.imm (ptsD m.bx N),.imm (.int .i64 N),.imm (.int .i64 i),.junk,.junk,.junk],[boxI m,xBox c p ko vo,boxI s],none⟩) (fun _ _ => True)
    (fun _ _ => ()) (fun _ => some (.exit 6,⟨[.junk,.junk,.junk,.junk,.junk,.junk,.junk,.junk,.junk,.junk,.junk,.junk,.junk,.junk,.junk,.junk,.junk,.junk,.junk,.junk,.junk,.junk,.junk,.junk,.junk,.junk,.junk,.junk,.junk,.junk,.junk,.junk,.junk,.junk,.junk,.junk,.junk,.junk,.junk,.junk,.junk,.junk,.junk,.junk,.junk,.junk,.junk,.junk,.junk,.junk,.junk,.junk,.junk,.junk,.junk,.junk,.junk,.junk,.junk,.junk,.junk,.junk,.junk,.junk,.junk,.junk,.junk,.junk,.junk,.junk,.junk],[],none⟩)) () trivial
    (fun _ i x _ h2 h1 => ⟨by
      have:=getRange h1
      subst this
      rw [List.length_range] at h2
      have g:=pts_get m.bx N x h2
      have e:=pD_dig hk N hN x h2
      have hl:=(ckBox0 hk).2.1
      have lp:=okLPoint (n+59) false (digits m.bx x) (by rw [digits_len]; omega)
      have si:=okSameIntsG (n+59) false c (digits m.bx x) p (by rw [digits_len]; omega) (by omega)
      have q1:=H1 x h2
      have q2:=H2 x h2
      have q3:=HF x h2
      rw [e] at g
      rw [rnd_eq]
      simp only [enIm,enB,Im.own] at om os q1 q2
      by_cases hd : digits m.bx (x : Nat) = p
      · rw [if_pos hd] at q3
        rw [q3] at q1
        rw [decide_eq_true hd] at si
        simp only [go_sem,Nat.reduceAdd,Nat.reduceSub,Nat.reduceMul,Nat.reduceDiv,Nat.reduceMod,Nat.reduceLeDiff,Nat.reduceLT,Nat.reduceBEq,Int.reduceToNat,Int.reduceLT,Int.reduceLE,Int.reduceEq,ptsD,lt_t h2,g,om,os,lp,q1,q2,si,aEqV,enB,boxI,xBox,ne_eq,not_true_eq_false,Bool.false_eq_true]
        rw [wrpS (by omega)]
      · rw [if_neg hd] at q3
        rw [q3] at q1
        rw [decide_eq_false hd] at si
        simp only [go_sem,Nat.reduceAdd,Nat.reduceSub,Nat.reduceMul,Nat.reduceDiv,Nat.reduceMod,Nat.reduceLeDiff,Nat.reduceLT,Nat.reduceBEq,Int.reduceToNat,Int.reduceLT,Int.reduceLE,Int.reduceEq,ptsD,lt_t h2,g,om,os,lp,q1,q2,si,aEqV,enB,boxI,xBox,ne_eq,not_true_eq_false,Bool.false_eq_true]
        rw [wrpS (by omega)],trivial⟩)
    (fun _ _ => by
      rw [rnd_eq,List.length_range]
      simp only [go_sem,Nat.reduceAdd,Nat.reduceSub,Nat.reduceMul,Nat.reduceDiv,Nat.reduceMod,Nat.reduceLeDiff,Nat.reduceLT,Nat.reduceBEq,Int.reduceToNat,Int.reduceLT,Int.reduceLE,Int.reduceEq,ptsD,lt_f (Nat.le_refl _),enB,boxI,xBox])
  rw [cast_0] at h
  exact h
end Go.Vm.P4D

/- Chapter 04: the law ImageSets,given the examples (printed by gen4s.py). -/
set_option maxRecDepth 100000
set_option maxHeartbeats 8000000
namespace Go.Vm.P4D
open Go Go.Vm Go.Vm.P4
def sq2 : IR → IR | .seq _ b => b | x => x
theorem ckSet_ow (m : Im) (p : List Int) (k v : Int) : ckSet m.own p k v = ckSet m p k v:=by
  have e : ckIm (ckB1 m.own.kd) m.own = ckIm (ckB1 m.kd) m:=ckI_own m
  unfold ckSet ckAtI ckAt
  rw [e]
  rfl
theorem ckBoth_un {a b : Bx} (h : (unionD a b).2 = 0) : ckBoth a b = 0:=by
  by_cases hb : ckBoth a b = 0
  · exact hb
  · exact absurd h (union_err hb)
theorem setsT3 (n : Nat) (hA : callP (level E (n+60)) 9 [] = some (.bool true)) (m : Im) (c : Bool) (p : List Int) (ko vo : Int) (hv : Ok64 m.dt) (lx : m.bx.length < 1000000) (ls : m.st.length < 1000000) (ld : m.dt.length < 1000000) (lp : p.length < 1000000) (h0 : 0 ≤ vo) (h1 : vo < 18446744073709551616) (v0 v1 v2 v3 v4 v7 v8 v9 v10 v11 v12 v13 v14 v15 v16 v17 v18 v19 v20 v21 v22 v23 v24 v25 v26 v27 v28 v29 v30 v31 v32 v33 v34 v35 v36 v37 v38 v39 v40 v41 v42 v43 v44 v45 v46 v47 v48 v49 v50 v51 v52 v53 v54 v55 v56 v57 v58 v59 v60 v61 v62 v63 v64 v65 v66 v67 v68 v69 v70 : AV) :
    pdC (fin [.v 3] (aCode (level E (n+60)) ⟨0,false⟩ (sq2 (sq2 (sq2 (sq2 (sq2 (sq2 (sq2 (sq2 (sq2 (sq2 c6)))))))))) (⟨[v0,v1,v2,v3,v4,.ptr 0 0,.ptr 1 0,v7,v8,v9,v10,v11,v12,v13,v14,v15,v16,v17,v18,v19,v20,v21,v22,v23,v24,v25,v26,v27,v28,v29,v30,v31,v32,v33,v34,v35,v36,v37,v38,v39,v40,v41,v42,v43,v44,v45,v46,v47,v48,v49,v50,v51,v52,v53,v54,v55,v56,v57,v58,v59,v60,v61,v62,v63,v64,v65,v66,v67,v68,v69,v70],[boxI m,xBox c p ko vo],none⟩))) = some (.bool true):=by
  have o1:=okOwnImage (n+58) m lx ls ld
  have q1:=okLPoint (n+59) c p lp
  have wr:=okSetG (n+49) m.own false p ko vo lx ls ld hv h0 h1
  have eS : (setR m.own p ko vo).2 = ckSet m p ko vo:=by
    unfold setR
    rw [ckSet_ow]
    by_cases h : ckSet m p ko vo = 0
    · rw [if_pos h,h]
    · rw [if_neg h]
  rw [eS] at wr
  obtain ⟨S,hS⟩ : ∃ S,(setR m.own p ko vo).1 = S:=⟨_,rfl⟩
  rw [hS] at wr
  simp only [enIm,enB,Im.own] at o1 wr
  unfold sq2 c6
  dsimp only
  rw [seq_step (s':=⟨[v0,v1,v2,v3,v4,.ptr 0 0,.ptr 1 0,v7,v8,v9,v10,v11,v12,v13,v14,v15,v16,v17,v18,v19,v20,v21,v22,v23,v24,v25,v26,v27,v28,v29,v30,.ptr 2 0,.imm (.int .i64 (ckSet m p ko vo)),v33,v34,v35,v36,v37,v38,v39,v40,v41,v42,v43,v44,v45,v46,v47,v48,v49,v50,v51,v52,v53,v54,v55,v56,v57,v58,v59,v60,v61,v62,v63,v64,v65,v66,v67,v68,v69,v70],[boxI m,xBox c p ko vo,boxI S],none⟩)]
  rotate_left
  · simp only [go_sem,Nat.reduceAdd,Nat.reduceSub,Nat.reduceMul,Nat.reduceDiv,Nat.reduceMod,Nat.reduceLeDiff,Nat.reduceLT,Nat.reduceBEq,Int.reduceToNat,Int.reduceLT,Int.reduceLE,Int.reduceEq,enIm,enB,Im.own,o1,q1,wr,boxI,xBox]
  by_cases hz : ckSet m p ko vo = 0
  · have hz' : ckSet m.own p ko vo = 0:=by rw [ckSet_ow]; exact hz
    obtain ⟨g1,g2,g3,g4,g5,g6,g7,g8,g9⟩:=good_set hz'
    rw [hS] at g1 g2 g6 g7 g8
    have g5' : ckI m = 0:=by rw [← ckI_own]; exact g5
    obtain ⟨N,G⟩:=good_of g5'
    have hb : ckBox m.bx = 0:=G.bx
    have ob:=okOwnBox (n+59) m.bb m.bx lx
    have pt:=okPointsS (n+55) true m.bx hb N G.many
    have gbx : S.bx = m.bx:=g6
    have sdt : S.dt.length < 1000000:=by rw [g8,List.length_set]; exact ld
    have s64 : Ok64 S.dt:=by
      intro v hv'
      rw [g8] at hv'
      rcases List.mem_or_eq_of_mem_set hv' with h | rfl
      · exact hv v h
      · exact ⟨h0,h1⟩
    have hSk : S.kd = ko:=g2
    have hmk : m.kd = ko:=g3
    have L3:=setL3 n m S c p ko vo hb lp N G.many G.small (fun i => atI S (digits m.bx (i : Nat))) (fun i => atI m (digits m.bx (i : Nat))) lx ls ld (by rw [gbx]; exact lx) (by rw [g7]; exact ls) sdt
      (fun i hi => by
        have hin:=(has_dig hb N G.many i hi).1
        have e:=at_set hz' (q:=digits m.bx i) hin
        rw [hS] at e
        exact e)
      (fun i hi => by
        have hin:=(has_dig hb N G.many i hi).1
        have gI : ckI S.own = 0:=by rw [ckI_own]; exact g1
        have a:=okAtG (n+49) S.own false (digits m.bx i) (by show S.bx.length < _; rw [gbx]; exact lx) (by show S.st.length < _; rw [g7]; exact ls) sdt s64
        have z:=at_in gI (q:=digits m.bx i) (by show InB S.bx _; rw [gbx]; exact hin)
        rw [if_pos z,z] at a
        rw [show S.own.kd = ko from g2] at a
        exact a)
      (fun i hi => by
        have hin:=(has_dig hb N G.many i hi).1
        have gI : ckI m.own = 0:=by rw [ckI_own]; exact g5'
        have a:=okAtG (n+49) m.own false (digits m.bx i) lx ls ld hv
        have z:=at_in gI (q:=digits m.bx i) hin
        rw [if_pos z,z] at a
        rw [show m.own.kd = ko from g3] at a
        exact a)
    simp only [enB] at ob pt
    rw [seq_step (s':=⟨[v0,v1,v2,v3,v4,.ptr 0 0,.ptr 1 0,v7,v8,v9,v10,v11,v12,v13,v14,v15,v16,v17,v18,v19,v20,v21,v22,v23,v24,v25,v26,v27,v28,v29,v30,.ptr 2 0,.imm (.int .i64 (ckSet m p ko vo)),v33,v34,v35,v36,v37,v38,v39,v40,v41,v42,v43,v44,v45,v46,v47,v48,v49,v50,v51,v52,v53,v54,v55,v56,v57,v58,v59,v60,v61,v62,.imm (.bool false),v64,v65,v66,v67,v68,v69,v70],[boxI m,xBox c p ko vo,boxI S],none⟩)]
    rotate_left
    · simp only [go_sem,Nat.reduceAdd,Nat.reduceSub,Nat.reduceMul,Nat.reduceDiv,Nat.reduceMod,Nat.reduceLeDiff,Nat.reduceLT,Nat.reduceBEq,Int.reduceToNat,Int.reduceLT,Int.reduceLE,Int.reduceEq,hz,ne_eq,not_true_eq_false]
    rw [seq_step (s':=⟨[v0,v1,v2,v3,v4,.ptr 0 0,.ptr 1 0,v7,v8,v9,v10,v11,v12,v13,v14,v15,v16,v17,v18,v19,v20,v21,v22,v23,v24,v25,v26,v27,v28,v29,v30,.ptr 2 0,.imm (.int .i64 (ckSet m p ko vo)),.imm (ptsD m.bx N),.imm (.int .i64 0),v35,v36,v37,v38,v39,v40,v41,v42,v43,v44,v45,v46,v47,v48,v49,v50,v51,v52,v53,v54,v55,v56,v57,v58,v59,v60,v61,v62,.imm (.bool false),v64,v65,v66,v67,v68,v69,v70],[boxI m,xBox c p ko vo,boxI S],none⟩)]
    rotate_left
    · simp only [go_sem,Nat.reduceAdd,Nat.reduceSub,Nat.reduceMul,Nat.reduceDiv,Nat.reduceMod,Nat.reduceLeDiff,Nat.reduceLT,Nat.reduceBEq,Int.reduceToNat,Int.reduceLT,Int.reduceLE,Int.reduceEq,enIm,enB,ob,pt,boxI,xBox]
    rw [seq_step (s':=⟨[v0,v1,v2,v3,v4,.ptr 0 0,.ptr 1 0,v7,v8,v9,v10,v11,v12,v13,v14,v15,v16,v17,v18,v19,v20,v21,v22,v23,v24,v25,v26,v27,v28,v29,v30,.ptr 2 0,.imm (.int .i64 (ckSet m p ko vo)),.imm (ptsD m.bx N),.imm (.int .i64 0),v35,v36,v37,v38,v39,v40,v41,v42,v43,v44,v45,v46,v47,v48,v49,v50,v51,v52,v53,v54,v55,v56,v57,v58,v59,v60,v61,v62,.imm (.bool false),.imm (.bool false),v65,v66,v67,v68,v69,v70],[boxI m,xBox c p ko vo,boxI S],none⟩)]
    rotate_left
    · simp only [go_sem,Nat.reduceAdd,Nat.reduceSub,Nat.reduceMul,Nat.reduceDiv,Nat.reduceMod,Nat.reduceLeDiff,Nat.reduceLT,Nat.reduceBEq,Int.reduceToNat,Int.reduceLT,Int.reduceLE,Int.reduceEq,ne_eq,not_true_eq_false]
    rw [seq_step (s':=⟨[.junk,.junk,.junk,.junk,.junk,.junk,.junk,.junk,.junk,.junk,.junk,.junk,.junk,.junk,.junk,.junk,.junk,.junk,.junk,.junk,.junk,.junk,.junk,.junk,.junk,.junk,.junk,.junk,.junk,.junk,.junk,.junk,.junk,.junk,.junk,.junk,.junk,.junk,.junk,.junk,.junk,.junk,.junk,.junk,.junk,.junk,.junk,.junk,.junk,.junk,.junk,.junk,.junk,.junk,.junk,.junk,.junk,.junk,.junk,.junk,.junk,.junk,.junk,.junk,.junk,.junk,.junk,.junk,.junk,.junk,.junk],[],none⟩)]
    rotate_left
    · simp only [boxI,xBox,enB] at L3
      simp only [go_sem,Nat.reduceAdd,Nat.reduceSub,Nat.reduceMul,Nat.reduceDiv,Nat.reduceMod,Nat.reduceLeDiff,Nat.reduceLT,Nat.reduceBEq,Int.reduceToNat,Int.reduceLT,Int.reduceLE,Int.reduceEq,ptsD,boxI,xBox,enB] at L3 ⊢
      rw [L3]
      simp only [go_sem,Nat.reduceAdd,Nat.reduceSub,Nat.reduceMul,Nat.reduceDiv,Nat.reduceMod,Nat.reduceLeDiff,Nat.reduceLT,Nat.reduceBEq,Int.reduceToNat,Int.reduceLT,Int.reduceLE,Int.reduceEq]
    simp only [go_sem,Nat.reduceAdd,Nat.reduceSub,Nat.reduceMul,Nat.reduceDiv,Nat.reduceMod,Nat.reduceLeDiff,Nat.reduceLT,Nat.reduceBEq,Int.reduceToNat,Int.reduceLT,Int.reduceLE,Int.reduceEq,hA]
  · simp only [go_sem,Nat.reduceAdd,Nat.reduceSub,Nat.reduceMul,Nat.reduceDiv,Nat.reduceMod,Nat.reduceLeDiff,Nat.reduceLT,Nat.reduceBEq,Int.reduceToNat,Int.reduceLT,Int.reduceLE,Int.reduceEq,hz,hA,ne_eq,not_false_eq_true]
theorem setsT2 (n : Nat) (hA : callP (level E (n+60)) 9 [] = some (.bool true)) (m : Im) (c : Bool) (p : List Int) (ko vo : Int) (hv : Ok64 m.dt) (lx : m.bx.length < 1000000) (ls : m.st.length < 1000000) (ld : m.dt.length < 1000000) (lp : p.length < 1000000) (h0 : 0 ≤ vo) (h1 : vo < 18446744073709551616) (b b' : Bool) (l o : Bx) (ll : l.length < 1000) (lo : o.length < 1000) (v0 v1 v2 v3 v4 v9 v10 v11 v12 v13 v14 v15 v16 v19 v20 v21 v22 v23 v24 v25 v26 v27 v28 v29 v30 v31 v32 v33 v34 v35 v36 v37 v38 v39 v40 v41 v42 v43 v44 v45 v46 v47 v48 v49 v50 v51 v52 v53 v54 v55 v56 v57 v58 v59 v60 v61 v62 v63 v64 v65 v66 v67 v68 v69 v70 : AV) :
    pdC (fin [.v 3] (aCode (level E (n+60)) ⟨0,false⟩ (sq2 (sq2 (sq2 (sq2 (sq2 (sq2 (sq2 (sq2 (sq2 c6))))))))) (⟨[v0,v1,v2,v3,v4,.ptr 0 0,.ptr 1 0,.imm (enB b l),.imm (enB b' o),v9,v10,v11,v12,v13,v14,v15,v16,.imm (unionD l o).1,.imm (.int .i64 ((unionD l o).2)),v19,v20,v21,v22,v23,v24,v25,v26,v27,v28,v29,v30,v31,v32,v33,v34,v35,v36,v37,v38,v39,v40,v41,v42,v43,v44,v45,v46,v47,v48,v49,v50,v51,v52,v53,v54,v55,v56,v57,v58,v59,v60,v61,v62,v63,v64,v65,v66,v67,v68,v69,v70],[boxI m,xBox c p ko vo],none⟩))) = some (.bool true):=by
  have T3:=setsT3 n hA m c p ko vo hv lx ls ld lp h0 h1
  unfold sq2 at T3 ⊢
  unfold c6 at T3 ⊢
  dsimp only at T3 ⊢
  have p1:=okRProduct (n+59) b l (by omega)
  have p2:=okRProduct (n+59) b' o (by omega)
  simp only [enB] at p1 p2
  by_cases he : (unionD l o).2 = 0
  · by_cases h1 : many l > 0
    · by_cases h2 : many o > 0
      · obtain ⟨x,u,u1,u2,u3,u4,u5⟩:=union_box he
        have ck:=ckBoth_un he
        obtain ⟨k1,k2,k3,_,_⟩:=ckBoth0 ck
        have hu:=u5 (by omega) (by omega)
        have L2:=setL2 n m c b b' x p ko vo l o (ckBox0 k1).2.2.1 (ckBox0 k2).2.2.1 k3 (ckBox0 k1).2.1
        have hul : (List.zipWith rspan l o).length = l.length:=zip_len _ _ _ k3
        rw [hu] at u1
        rw [seq_step (s':=⟨[.junk,.junk,.junk,.junk,.junk,.ptr 0 0,.ptr 1 0,.junk,.junk,.junk,.junk,.junk,.junk,.junk,.junk,.junk,.junk,.junk,.junk,.junk,.junk,.junk,.junk,.junk,.junk,.junk,.junk,.junk,.junk,.junk,.junk,.junk,.junk,.junk,.junk,.junk,.junk,.junk,.junk,.junk,.junk,.junk,.junk,.junk,.junk,.junk,.junk,.junk,.junk,.junk,.junk,.junk,.junk,.junk,.junk,.junk,.junk,.junk,.junk,.junk,.junk,.junk,.junk,.junk,.junk,.junk,.junk,.junk,.junk,.junk,.junk],[boxI m,xBox c p ko vo],none⟩)]
        rotate_left
        · simp only [boxI,xBox,enB] at L2 u1
          simp only [go_sem,Nat.reduceAdd,Nat.reduceSub,Nat.reduceMul,Nat.reduceDiv,Nat.reduceMod,Nat.reduceLeDiff,Nat.reduceLT,Nat.reduceBEq,Int.reduceToNat,Int.reduceLT,Int.reduceLE,Int.reduceEq,enB,he,u1,p1,p2,h1,h2,hul,boxI,xBox]
          rw [L2]
          simp only [go_sem,Nat.reduceAdd,Nat.reduceSub,Nat.reduceMul,Nat.reduceDiv,Nat.reduceMod,Nat.reduceLeDiff,Nat.reduceLT,Nat.reduceBEq,Int.reduceToNat,Int.reduceLT,Int.reduceLE,Int.reduceEq]
        exact T3 _ _ _ _ _ _ _ _ _ _ _ _ _ _ _ _ _ _ _ _ _ _ _ _ _ _ _ _ _ _ _ _ _ _ _ _ _ _ _ _ _ _ _ _ _ _ _ _ _ _ _ _ _ _ _ _ _ _ _ _ _ _ _ _ _ _ _ _ _
      · rw [seq_step (s':=⟨[v0,v1,v2,v3,v4,.ptr 0 0,.ptr 1 0,.imm (enB b l),.imm (enB b' o),v9,v10,v11,v12,v13,v14,v15,v16,.imm (unionD l o).1,.imm (.int .i64 ((unionD l o).2)),v19,v20,v21,v22,v23,v24,v25,v26,v27,v28,v29,v30,v31,v32,v33,v34,v35,v36,v37,v38,v39,v40,v41,v42,v43,v44,v45,v46,v47,v48,v49,v50,v51,v52,v53,v54,v55,v56,.imm (.bool false),v58,v59,v60,v61,v62,v63,v64,v65,v66,v67,v68,v69,v70],[boxI m,xBox c p ko vo],none⟩)]
        rotate_left
        · simp only [go_sem,Nat.reduceAdd,Nat.reduceSub,Nat.reduceMul,Nat.reduceDiv,Nat.reduceMod,Nat.reduceLeDiff,Nat.reduceLT,Nat.reduceBEq,Int.reduceToNat,Int.reduceLT,Int.reduceLE,Int.reduceEq,enB,he,p1,p2,h1,h2,boxI,xBox]
        exact T3 _ _ _ _ _ _ _ _ _ _ _ _ _ _ _ _ _ _ _ _ _ _ _ _ _ _ _ _ _ _ _ _ _ _ _ _ _ _ _ _ _ _ _ _ _ _ _ _ _ _ _ _ _ _ _ _ _ _ _ _ _ _ _ _ _ _ _ _ _
    · rw [seq_step (s':=⟨[v0,v1,v2,v3,v4,.ptr 0 0,.ptr 1 0,.imm (enB b l),.imm (enB b' o),v9,v10,v11,v12,v13,v14,v15,v16,.imm (unionD l o).1,.imm (.int .i64 ((unionD l o).2)),v19,v20,v21,v22,v23,v24,v25,v26,v27,v28,v29,v30,v31,v32,v33,v34,v35,v36,v37,v38,v39,v40,v41,v42,v43,v44,v45,v46,v47,v48,v49,v50,v51,v52,v53,v54,v55,v56,.imm (.bool false),v58,v59,v60,v61,v62,v63,v64,v65,v66,v67,v68,v69,v70],[boxI m,xBox c p ko vo],none⟩)]
      rotate_left
      · simp only [go_sem,Nat.reduceAdd,Nat.reduceSub,Nat.reduceMul,Nat.reduceDiv,Nat.reduceMod,Nat.reduceLeDiff,Nat.reduceLT,Nat.reduceBEq,Int.reduceToNat,Int.reduceLT,Int.reduceLE,Int.reduceEq,enB,he,p1,p2,h1,boxI,xBox]
      exact T3 _ _ _ _ _ _ _ _ _ _ _ _ _ _ _ _ _ _ _ _ _ _ _ _ _ _ _ _ _ _ _ _ _ _ _ _ _ _ _ _ _ _ _ _ _ _ _ _ _ _ _ _ _ _ _ _ _ _ _ _ _ _ _ _ _ _ _ _ _
  · rw [seq_step (s':=⟨[v0,v1,v2,v3,v4,.ptr 0 0,.ptr 1 0,.imm (enB b l),.imm (enB b' o),v9,v10,v11,v12,v13,v14,v15,v16,.imm (unionD l o).1,.imm (.int .i64 ((unionD l o).2)),v19,v20,v21,v22,v23,v24,v25,v26,v27,v28,v29,v30,v31,v32,v33,v34,v35,v36,v37,v38,v39,v40,v41,v42,v43,v44,v45,v46,v47,v48,v49,v50,v51,v52,v53,v54,v55,v56,.imm (.bool false),v58,v59,v60,v61,v62,v63,v64,v65,v66,v67,v68,v69,v70],[boxI m,xBox c p ko vo],none⟩)]
    rotate_left
    · simp only [go_sem,Nat.reduceAdd,Nat.reduceSub,Nat.reduceMul,Nat.reduceDiv,Nat.reduceMod,Nat.reduceLeDiff,Nat.reduceLT,Nat.reduceBEq,Int.reduceToNat,Int.reduceLT,Int.reduceLE,Int.reduceEq,enB,he,boxI,xBox]
    exact T3 _ _ _ _ _ _ _ _ _ _ _ _ _ _ _ _ _ _ _ _ _ _ _ _ _ _ _ _ _ _ _ _ _ _ _ _ _ _ _ _ _ _ _ _ _ _ _ _ _ _ _ _ _ _ _ _ _ _ _ _ _ _ _ _ _ _ _ _ _
theorem okImageSets (n : Nat) (hA : callP (level E (n+60)) 9 [] = some (.bool true)) (b b' : Bool) (l o : Bx) (m : Im) (c : Bool) (p : List Int) (ko vo : Int) (hv : Ok64 m.dt) (h0 : 0 ≤ vo) (h1 : vo < 18446744073709551616) :
    callP (level E (n+61)) 6 [.agg [enB b l,enB b' o],enIm m,.agg [slD c 1 (p.map ic),.int .i64 ko,.int .u64 vo]] = some (.bool true):=by
  have x1:=okShortBox (n+59) b l
  have x2:=okShortBox (n+59) b' o
  have s1:=okShortImage (n+59) m
  cases hx1 : (decide (l.length ≤ 4) && decide (shortN l ≤ 64)) with
  | false =>
    rw [hx1] at x1
    rw [p6]
    simp only [enB] at x1
    simp only [go_sem,Nat.reduceAdd,Nat.reduceSub,Nat.reduceMul,Nat.reduceDiv,Nat.reduceMod,Nat.reduceLeDiff,Nat.reduceLT,Nat.reduceBEq,Int.reduceToNat,Int.reduceLT,Int.reduceLE,Int.reduceEq,enIm,enB,x1,hA]
  | true =>
  rw [hx1] at x1
  cases hx2 : (decide (o.length ≤ 4) && decide (shortN o ≤ 64)) with
  | false =>
    rw [hx2] at x2
    rw [p6]
    simp only [enB] at x1 x2
    simp only [go_sem,Nat.reduceAdd,Nat.reduceSub,Nat.reduceMul,Nat.reduceDiv,Nat.reduceMod,Nat.reduceLeDiff,Nat.reduceLT,Nat.reduceBEq,Int.reduceToNat,Int.reduceLT,Int.reduceLE,Int.reduceEq,enIm,enB,x1,x2,hA]
  | true =>
  rw [hx2] at x2
  cases hs1 : shortI m with
  | false =>
    rw [hs1] at s1
    rw [p6]
    simp only [enIm,enB] at x1 x2 s1
    simp only [go_sem,Nat.reduceAdd,Nat.reduceSub,Nat.reduceMul,Nat.reduceDiv,Nat.reduceMod,Nat.reduceLeDiff,Nat.reduceLT,Nat.reduceBEq,Int.reduceToNat,Int.reduceLT,Int.reduceLE,Int.reduceEq,enIm,enB,x1,x2,s1,hA]
  | true =>
  rw [hs1] at s1
  by_cases hp5 : (p.length : Int) > 5
  · rw [p6]
    simp only [enIm,enB] at x1 x2 s1
    simp only [go_sem,Nat.reduceAdd,Nat.reduceSub,Nat.reduceMul,Nat.reduceDiv,Nat.reduceMod,Nat.reduceLeDiff,Nat.reduceLT,Nat.reduceBEq,Int.reduceToNat,Int.reduceLT,Int.reduceLE,Int.reduceEq,enIm,enB,x1,x2,s1,hp5,hA]
  obtain ⟨m1,m2,m3⟩:=shortI_len hs1
  have ll : l.length < 1000:=by simp at hx1; omega
  have lo : o.length < 1000:=by simp at hx2; omega
  have lx : m.bx.length < 1000000:=by omega
  have ls : m.st.length < 1000000:=by omega
  have ld : m.dt.length < 1000000:=by omega
  have lp : p.length < 1000000:=by omega
  have ob:=okOwnBox (n+59) b l (by omega)
  have oo:=okOwnBox (n+59) b' o (by omega)
  rw [p6]
  have T2:=setsT2 n hA m c p ko vo hv lx ls ld lp h0 h1 b b' l o ll lo
  unfold sq2 at T2
  unfold c6 at T2 ⊢
  dsimp only at T2 ⊢
  simp only [enIm,enB] at x1 x2 s1 ob oo
  rw [seq_step (s':=⟨[.imm (.agg [enB b l,enB b' o]),.imm (enIm m),.imm (.agg [slD c 1 (p.map ic),.int .i64 ko,.int .u64 vo]),.imm (.bool false),.ptr 0 0,.ptr 1 0,.ptr 2 0,.junk,.junk,.junk,.junk,.junk,.junk,.junk,.junk,.junk,.junk,.junk,.junk,.junk,.junk,.junk,.junk,.junk,.junk,.junk,.junk,.junk,.junk,.junk,.junk,.junk,.junk,.junk,.junk,.junk,.junk,.junk,.junk,.junk,.junk,.junk,.junk,.junk,.junk,.junk,.junk,.junk,.junk,.junk,.junk,.junk,.junk,.junk,.junk,.junk,.junk,.junk,.junk,.junk,.junk,.junk,.junk,.junk,.junk,.junk,.junk,.junk,.junk,.junk,.junk],[.box [.imm (enB b l),.imm (enB b' o)],boxI m,xBox c p ko vo],none⟩)]
  rotate_left
  · simp only [go_sem,Nat.reduceAdd,Nat.reduceSub,Nat.reduceMul,Nat.reduceDiv,Nat.reduceMod,Nat.reduceLeDiff,Nat.reduceLT,Nat.reduceBEq,Int.reduceToNat,Int.reduceLT,Int.reduceLE,Int.reduceEq,enIm,enB,boxI,xBox]
  rw [seq_step (s':=⟨[.imm (.agg [enB b l,enB b' o]),.imm (enIm m),.imm (.agg [slD c 1 (p.map ic),.int .i64 ko,.int .u64 vo]),.imm (.bool false),.ptr 0 0,.ptr 1 0,.ptr 2 0,.imm (enB b l),.imm (enB b' o),.junk,.junk,.junk,.junk,.junk,.junk,.junk,.junk,.junk,.junk,.junk,.junk,.junk,.junk,.junk,.junk,.junk,.junk,.junk,.junk,.junk,.junk,.junk,.junk,.junk,.junk,.junk,.junk,.junk,.junk,.junk,.junk,.junk,.junk,.junk,.junk,.junk,.junk,.junk,.junk,.junk,.junk,.junk,.junk,.junk,.junk,.junk,.junk,.junk,.junk,.junk,.junk,.junk,.junk,.junk,.junk,.junk,.junk,.junk,.junk,.junk,.junk],[.box [.imm (enB b l),.imm (enB b' o)],boxI m,xBox c p ko vo],none⟩)]
  rotate_left
  · simp only [go_sem,Nat.reduceAdd,Nat.reduceSub,Nat.reduceMul,Nat.reduceDiv,Nat.reduceMod,Nat.reduceLeDiff,Nat.reduceLT,Nat.reduceBEq,Int.reduceToNat,Int.reduceLT,Int.reduceLE,Int.reduceEq,enIm,enB,boxI,xBox]
  rw [seq_step (s':=⟨[.imm (.agg [enB b l,enB b' o]),.imm (enIm m),.imm (.agg [slD c 1 (p.map ic),.int .i64 ko,.int .u64 vo]),.imm (.bool false),.ptr 0 0,.ptr 1 0,.ptr 2 0,.imm (enB b l),.imm (enB b' o),.junk,.junk,.junk,.junk,.junk,.junk,.junk,.junk,.junk,.junk,.junk,.junk,.junk,.junk,.junk,.junk,.junk,.junk,.junk,.junk,.junk,.junk,.junk,.junk,.junk,.junk,.junk,.junk,.junk,.junk,.junk,.imm (.bool false),.junk,.junk,.junk,.junk,.junk,.junk,.junk,.junk,.junk,.junk,.junk,.junk,.junk,.junk,.junk,.junk,.junk,.junk,.junk,.junk,.junk,.junk,.junk,.junk,.junk,.junk,.junk,.junk,.junk,.junk],[.box [.imm (enB b l),.imm (enB b' o)],boxI m,xBox c p ko vo],none⟩)]
  rotate_left
  · simp only [go_sem,Nat.reduceAdd,Nat.reduceSub,Nat.reduceMul,Nat.reduceDiv,Nat.reduceMod,Nat.reduceLeDiff,Nat.reduceLT,Nat.reduceBEq,Int.reduceToNat,Int.reduceLT,Int.reduceLE,Int.reduceEq,enIm,enB,boxI,xBox,x1,x2,s1,hp5]
  by_cases hk : ckBox l = 0
  · obtain ⟨N,hN,hN2⟩:=many_nat hk
    have pt:=okPointsS (n+55) true l hk N hN
    have it:=okIntersect (n+54) true true l o (by omega) (by omega) (fun h => (ckBoth0 h).2.2.1)
    have un:=okUnion (n+54) true true l o (by omega) (by omega) (fun h => (ckBoth0 h).2.2)
    have L0:=setL0 n m c b p ko vo l hk (enB b' o) N hN hN2 (fun i hi => by
      obtain ⟨d1,d2,d3⟩:=has_dig hk N hN i hi
      have ix:=okIndex (n+54) true false l (digits l i) (by omega)
      rw [if_pos d3,if_pos d2,elt_digits l (ckBox0 hk).2.2.1 (ckBox0 hk).2.1 N hN i hi] at ix
      exact ix)
    simp only [enB] at pt it un
    rw [seq_step (s':=⟨[.imm (.agg [enB b l,enB b' o]),.imm (enIm m),.imm (.agg [slD c 1 (p.map ic),.int .i64 ko,.int .u64 vo]),.imm (.bool false),.ptr 0 0,.ptr 1 0,.ptr 2 0,.imm (enB b l),.imm (enB b' o),.imm (ptsD l N),.imm (.int .i64 0),.junk,.junk,.junk,.junk,.junk,.junk,.junk,.junk,.junk,.junk,.junk,.junk,.junk,.junk,.junk,.junk,.junk,.junk,.junk,.junk,.junk,.junk,.junk,.junk,.junk,.junk,.junk,.junk,.junk,.imm (.bool false),.junk,.junk,.junk,.junk,.junk,.junk,.junk,.junk,.junk,.junk,.junk,.junk,.junk,.junk,.junk,.junk,.junk,.junk,.junk,.junk,.junk,.junk,.junk,.junk,.junk,.junk,.junk,.junk,.junk,.junk],[.box [.imm (enB b l),.imm (enB b' o)],boxI m,xBox c p ko vo],none⟩)]
    rotate_left
    · simp only [go_sem,Nat.reduceAdd,Nat.reduceSub,Nat.reduceMul,Nat.reduceDiv,Nat.reduceMod,Nat.reduceLeDiff,Nat.reduceLT,Nat.reduceBEq,Int.reduceToNat,Int.reduceLT,Int.reduceLE,Int.reduceEq,enIm,enB,boxI,xBox,ob,pt]
    rw [seq_step (s':=⟨[.imm (.agg [enB b l,enB b' o]),.imm (enIm m),.imm (.agg [slD c 1 (p.map ic),.int .i64 ko,.int .u64 vo]),.imm (.bool false),.ptr 0 0,.ptr 1 0,.ptr 2 0,.imm (enB b l),.imm (enB b' o),.imm (ptsD l N),.imm (.int .i64 0),.junk,.junk,.junk,.junk,.junk,.junk,.junk,.junk,.junk,.junk,.junk,.junk,.junk,.junk,.junk,.junk,.junk,.junk,.junk,.junk,.junk,.junk,.junk,.junk,.junk,.junk,.junk,.junk,.junk,.imm (.bool false),.imm (.bool false),.junk,.junk,.junk,.junk,.junk,.junk,.junk,.junk,.junk,.junk,.junk,.junk,.junk,.junk,.junk,.junk,.junk,.junk,.junk,.junk,.junk,.junk,.junk,.junk,.junk,.junk,.junk,.junk,.junk],[.box [.imm (enB b l),.imm (enB b' o)],boxI m,xBox c p ko vo],none⟩)]
    rotate_left
    · simp only [go_sem,Nat.reduceAdd,Nat.reduceSub,Nat.reduceMul,Nat.reduceDiv,Nat.reduceMod,Nat.reduceLeDiff,Nat.reduceLT,Nat.reduceBEq,Int.reduceToNat,Int.reduceLT,Int.reduceLE,Int.reduceEq,ne_eq,not_true_eq_false]
    rw [seq_step (s':=⟨[.junk,.junk,.junk,.junk,.junk,.ptr 0 0,.ptr 1 0,.imm (enB b l),.imm (enB b' o),.imm (ptsD l N),.junk,.junk,.junk,.junk,.junk,.junk,.junk,.junk,.junk,.junk,.junk,.junk,.junk,.junk,.junk,.junk,.junk,.junk,.junk,.junk,.junk,.junk,.junk,.junk,.junk,.junk,.junk,.junk,.junk,.junk,.junk,.junk,.junk,.junk,.junk,.junk,.junk,.junk,.junk,.junk,.junk,.junk,.junk,.junk,.junk,.junk,.junk,.junk,.junk,.junk,.junk,.junk,.junk,.junk,.junk,.junk,.junk,.junk,.junk,.junk,.junk],[boxI m,xBox c p ko vo],none⟩)]
    rotate_left
    · simp only [boxI,xBox,enB] at L0
      simp only [go_sem,Nat.reduceAdd,Nat.reduceSub,Nat.reduceMul,Nat.reduceDiv,Nat.reduceMod,Nat.reduceLeDiff,Nat.reduceLT,Nat.reduceBEq,Int.reduceToNat,Int.reduceLT,Int.reduceLE,Int.reduceEq,ptsD,boxI,xBox,enB] at L0 ⊢
      rw [L0]
      simp only [go_sem,Nat.reduceAdd,Nat.reduceSub,Nat.reduceMul,Nat.reduceDiv,Nat.reduceMod,Nat.reduceLeDiff,Nat.reduceLT,Nat.reduceBEq,Int.reduceToNat,Int.reduceLT,Int.reduceLE,Int.reduceEq]
    rw [seq_step (s':=⟨[.junk,.junk,.junk,.junk,.junk,.ptr 0 0,.ptr 1 0,.imm (enB b l),.imm (enB b' o),.imm (ptsD l N),.junk,.junk,.junk,.junk,.junk,.imm (interD l o),.imm (.int .i64 (ckBoth l o)),.junk,.junk,.junk,.junk,.junk,.junk,.junk,.junk,.junk,.junk,.junk,.junk,.junk,.junk,.junk,.junk,.junk,.junk,.junk,.junk,.junk,.junk,.junk,.junk,.junk,.junk,.junk,.junk,.junk,.junk,.junk,.junk,.junk,.junk,.junk,.junk,.junk,.junk,.junk,.junk,.junk,.junk,.junk,.junk,.junk,.junk,.junk,.junk,.junk,.junk,.junk,.junk,.junk,.junk],[boxI m,xBox c p ko vo],none⟩)]
    rotate_left
    · simp only [go_sem,Nat.reduceAdd,Nat.reduceSub,Nat.reduceMul,Nat.reduceDiv,Nat.reduceMod,Nat.reduceLeDiff,Nat.reduceLT,Nat.reduceBEq,Int.reduceToNat,Int.reduceLT,Int.reduceLE,Int.reduceEq,enIm,enB,boxI,xBox,ob,oo,it]
    rw [seq_step (s':=⟨[.junk,.junk,.junk,.junk,.junk,.ptr 0 0,.ptr 1 0,.imm (enB b l),.imm (enB b' o),.imm (ptsD l N),.junk,.junk,.junk,.junk,.junk,.imm (interD l o),.imm (.int .i64 (ckBoth l o)),.imm (unionD l o).1,.imm (.int .i64 ((unionD l o).2)),.junk,.junk,.junk,.junk,.junk,.junk,.junk,.junk,.junk,.junk,.junk,.junk,.junk,.junk,.junk,.junk,.junk,.junk,.junk,.junk,.junk,.junk,.junk,.junk,.junk,.junk,.junk,.junk,.junk,.junk,.junk,.junk,.junk,.junk,.junk,.junk,.junk,.junk,.junk,.junk,.junk,.junk,.junk,.junk,.junk,.junk,.junk,.junk,.junk,.junk,.junk,.junk],[boxI m,xBox c p ko vo],none⟩)]
    rotate_left
    · simp only [go_sem,Nat.reduceAdd,Nat.reduceSub,Nat.reduceMul,Nat.reduceDiv,Nat.reduceMod,Nat.reduceLeDiff,Nat.reduceLT,Nat.reduceBEq,Int.reduceToNat,Int.reduceLT,Int.reduceLE,Int.reduceEq,enIm,enB,boxI,xBox,ob,oo,un]
    by_cases he : ckBoth l o = 0
    · obtain ⟨k1,k2,k3,_,_⟩:=ckBoth0 he
      obtain ⟨M1,M2⟩:=meet_box k1 k2 k3 N hN
      have hz:=zip_len rmeet l o k3
      have om:=okOwnBox (n+59) true (List.zipWith rmeet l o) (by omega)
      have sz:=okSize (n+55) true (List.zipWith rmeet l o) (by omega)
      rw [if_pos M1,M1,M2] at sz
      have hi : interD l o = enB true (List.zipWith rmeet l o):=by unfold interD; rw [if_pos he]
      have HH : ∀ (x : Bool) (u : Bx),ckBox u = 0 → u.length = l.length → ∀ i : Nat,i < N → callP (level E (n+60)) 35 [enB x u,slD false 1 ((digits l i).map ic)] = some (.tup [.bool (hasB u (digits l i)),.int .i64 0]):=by
        intro x u hu hul i hi
        have a:=okHas (n+54) x false u (digits l i) (by omega)
        have z : ckPoint u (digits l i) = 0:=by
          unfold ckPoint
          rw [hu,if_pos (by rw [digits_len]; exact hul.symm)]
          rfl
        rw [z,decide_eq_true rfl,Bool.true_and] at a
        exact a
      have Hm : ∀ i : Nat,i < N → hasB (List.zipWith rmeet l o) (digits l i) = hasB o (digits l i):=by
        intro i hi
        obtain ⟨d1,d2,d3⟩:=has_dig hk N hN i hi
        have q1:=in_meet l o (digits l i) (ckBox0 k1).2.2.1 (ckBox0 k2).2.2.1 k3
        have q2:=hasB_in (List.zipWith rmeet l o) (digits l i) (ckBox0 M1).2.2.1 (by rw [digits_len]; omega)
        have q3:=hasB_in o (digits l i) (ckBox0 k2).2.2.1 (by rw [digits_len]; exact k3)
        cases hh : hasB o (digits l i) with
        | true => exact q2.2 (q1.2 ⟨d1,q3.1 hh⟩)
        | false =>
          cases hg : hasB (List.zipWith rmeet l o) (digits l i) with
          | false => rfl
          | true => rw [q3.2 (q1.1 (q2.1 hg)).2] at hh; cases hh
      obtain ⟨uO,Ho,Hu⟩ : ∃ uO : D,((unionD l o).2 = 0 → callP (level E (n+60)) 20 [(unionD l o).1] = some uO) ∧ ((unionD l o).2 = 0 → ∀ i : Nat,i < N → callP (level E (n+60)) 35 [uO,slD false 1 ((digits l i).map ic)] = some (.tup [.bool true,.int .i64 0])):=by
        by_cases h : (unionD l o).2 = 0
        · obtain ⟨x,u,u1,u2,u3,u4,u5⟩:=union_box h
          refine ⟨enB true u,fun _ => by rw [u1]; exact okOwnBox (n+59) x u (by omega),fun _ i hi => ?_⟩
          obtain ⟨d1,d2,d3⟩:=has_dig hk N hN i hi
          have a:=HH true u u2 u3 i hi
          rw [(hasB_in u (digits l i) (ckBox0 u2).2.2.1 (by rw [digits_len]; exact u3.symm)).2 (u4 (by omega) _ d1)] at a
          exact a
        · exact ⟨.nil,fun h' => absurd h' h,fun h' => absurd h' h⟩
      have L1:=setL1 n m c b b' p ko vo l o (List.zipWith rmeet l o) hk lo (by omega) (unionD l o).1 uO (unionD l o).2 N hN hN2 (HH true o k2 k3.symm)
        (fun i hi => by rw [← Hm i hi]; exact HH true _ M1 hz i hi) Ho Hu
      rw [hi]
      rw [seq_step (s':=⟨[.junk,.junk,.junk,.junk,.junk,.ptr 0 0,.ptr 1 0,.imm (enB b l),.imm (enB b' o),.junk,.junk,.junk,.junk,.junk,.junk,.imm (enB true (List.zipWith rmeet l o)),.junk,.imm (unionD l o).1,.imm (.int .i64 ((unionD l o).2)),.imm (.int .i64 (cntR (fun i => hasB o (digits l (i : Nat))) N : Nat)),.junk,.junk,.junk,.junk,.junk,.junk,.junk,.imm (.int .i64 (cntR (fun i => hasB o (digits l (i : Nat))) N : Nat)),.imm (.int .i64 0),.junk,.junk,.junk,.junk,.junk,.junk,.junk,.junk,.junk,.junk,.junk,.junk,.junk,.junk,.junk,.junk,.junk,.junk,.junk,.junk,.junk,.junk,.junk,.junk,.junk,.junk,.junk,.imm (.bool false),.junk,.junk,.junk,.junk,.junk,.junk,.junk,.junk,.junk,.junk,.junk,.junk,.junk,.junk],[boxI m,xBox c p ko vo],none⟩)]
      rotate_left
      · simp only [boxI,xBox,enB] at L1 om sz
        simp only [go_sem,Nat.reduceAdd,Nat.reduceSub,Nat.reduceMul,Nat.reduceDiv,Nat.reduceMod,Nat.reduceLeDiff,Nat.reduceLT,Nat.reduceBEq,Int.reduceToNat,Int.reduceLT,Int.reduceLE,Int.reduceEq,ptsD,he,boxI,xBox,enB] at L1 ⊢
        rw [L1]
        simp only [go_sem,Nat.reduceAdd,Nat.reduceSub,Nat.reduceMul,Nat.reduceDiv,Nat.reduceMod,Nat.reduceLeDiff,Nat.reduceLT,Nat.reduceBEq,Int.reduceToNat,Int.reduceLT,Int.reduceLE,Int.reduceEq,om,sz,ne_eq,not_true_eq_false]
      exact T2 _ _ _ _ _ _ _ _ _ _ _ _ _ _ _ _ _ _ _ _ _ _ _ _ _ _ _ _ _ _ _ _ _ _ _ _ _ _ _ _ _ _ _ _ _ _ _ _ _ _ _ _ _ _ _ _ _ _ _ _ _ _ _ _ _
    · rw [seq_step (s':=⟨[.junk,.junk,.junk,.junk,.junk,.ptr 0 0,.ptr 1 0,.imm (enB b l),.imm (enB b' o),.imm (ptsD l N),.junk,.junk,.junk,.junk,.junk,.imm (interD l o),.imm (.int .i64 (ckBoth l o)),.imm (unionD l o).1,.imm (.int .i64 ((unionD l o).2)),.junk,.junk,.junk,.junk,.junk,.junk,.junk,.junk,.junk,.junk,.junk,.junk,.junk,.junk,.junk,.junk,.junk,.junk,.junk,.junk,.junk,.junk,.junk,.junk,.junk,.junk,.junk,.junk,.imm (.bool false),.junk,.junk,.junk,.junk,.junk,.junk,.junk,.junk,.junk,.junk,.junk,.junk,.junk,.junk,.junk,.junk,.junk,.junk,.junk,.junk,.junk,.junk,.junk],[boxI m,xBox c p ko vo],none⟩)]
      rotate_left
      · simp only [go_sem,Nat.reduceAdd,Nat.reduceSub,Nat.reduceMul,Nat.reduceDiv,Nat.reduceMod,Nat.reduceLeDiff,Nat.reduceLT,Nat.reduceBEq,Int.reduceToNat,Int.reduceLT,Int.reduceLE,Int.reduceEq,he,boxI,xBox,enB]
      exact T2 _ _ _ _ _ _ _ _ _ _ _ _ _ _ _ _ _ _ _ _ _ _ _ _ _ _ _ _ _ _ _ _ _ _ _ _ _ _ _ _ _ _ _ _ _ _ _ _ _ _ _ _ _ _ _ _ _ _ _ _ _ _ _ _ _
  · have pt:=okPoints (n+55) true l (by omega) hk
    simp only [enB] at pt
    simp only [go_sem,Nat.reduceAdd,Nat.reduceSub,Nat.reduceMul,Nat.reduceDiv,Nat.reduceMod,Nat.reduceLeDiff,Nat.reduceLT,Nat.reduceBEq,Int.reduceToNat,Int.reduceLT,Int.reduceLE,Int.reduceEq,enIm,enB,boxI,xBox,ob,pt,hk,hA,ne_eq,not_false_eq_true]
end Go.Vm.P4D

/- Chapter 04: ImageSets: the row and the card. -/
set_option maxRecDepth 100000
namespace Go.Proofs.YtgbmhofpndjdoaaDoor
open Go Go.Vm Go.Vm.P4 Go.Vm.P4D Go.ChangeShapes Go.WideShapes Go.ChangeAt Go.RowKit
theorem readBox2 : Tryd.prog.readableRec 76 = true:=by kernel_rfl
theorem rowBox2 : 76 < Tryd.prog.types.size:=of_decide_eq_true (by kernel_rfl)
theorem readImage : Tryd.prog.readableRec 27 = true:=by kernel_rfl
theorem rowImage : 27 < Tryd.prog.types.size:=of_decide_eq_true (by kernel_rfl)
theorem readSpot : Tryd.prog.readableRec 78 = true:=by kernel_rfl
theorem rowSpot : 78 < Tryd.prog.types.size:=of_decide_eq_true (by kernel_rfl)
theorem liftedImageSets (os : Os) (started : os.Started) (H : Type) (enc : TypeId × Value → H) :
    ReturnsInHanded {} Tryd.checked os 6 .any (fun w args => (Rows.imageSetsSpec.pre enc Tryd.prog Tryd.f6 [] false w args ∧ laidMetH Tryd.prog laidW w) ∧ sizedMet enc Tryd.prog Tryd.f6 (OpenSpec.ofChange Rows.imageSetsSpec) false w args)
      (Rows.imageSetsSpec.post enc Tryd.prog Tryd.f6 false true false false):=by
  refine returnsInHanded_of_change_and (C:=Tryd.checked) (X:=fun w _ => laidMetH Tryd.prog laidW w) (fun _ _ _ hh h => h.of_heap hh) ownT started (by kernel_rfl) Tryd.func6
    (ChangeSpec.witness_shaped (enc:=enc) (C:=Tryd.checked) (os:=os) (X:=fun w _ => laidMetH Tryd.prog laidW w) false (World.doorLaid Tryd.prog 2000 os) #[.agg #[.slice none 0 0,.slice none 0 0],.agg #[.int .i64 0,.slice none 0 0,.slice none 0 0,.slice none 0 0],.agg #[.slice none 0 0,.int .i64 0,.int .u64 0]] 8 rfl (World.shaped_of_RefB (by kernel_rfl) (by kernel_rfl)) (by kernel_rfl) (by kernel_rfl) (by kernel_rfl) (door_met os _)) ?_
  intro W base args ds gs before hval0 hW _ _ hL _
  have hW':=hW
  have hlt:=hW.lt
  obtain ⟨p,q,hA0,hV,rfl,hfz,hnd⟩:=hW
  have hA : DataW.TrodAll enc Tryd.prog W 0 (fun _ => true) true Tryd.f6.params.toList args.toList ds p:=hA0
  rw [Tryd.params6] at hA
  obtain ⟨v0,v1,v2,d0,d1,d2,p0,p1,p2,rfl,rfl,rfl,h0,h1,h2⟩:=trodAll_three hA
  obtain ⟨rfl,rfl⟩:=trodVars_none hV
  have hval : ∀ (j : Nat) t v,Tryd.f6.params[j]? = some t → (#[v0,v1,v2] : Array Value)[j]? = some v → Value.okWide Tryd.prog W .any base t v:=hval0
  rw [Tryd.params6] at hval
  obtain ⟨b0,l0,c0,n0,r0⟩:=arg_box2 (hval 0 76 v0 rfl rfl) h0
  obtain ⟨m1,g1,r1⟩:=arg_image (hval 1 27 v1 rfl rfl) h1
  obtain ⟨b2,l2,k2,u2,g2,r2⟩:=arg_spot (hval 2 78 v2 rfl rfl) h2
  refine (call_ok anyXP (okImageSets 0 (okAwake 0) b0 c0 l0 n0 m1 b2 l2 k2 u2 g1 g2.1 g2.2) hL rfl (fun j d hj => ?_)).mono fun e w ⟨r,F,he,htr,hr⟩ => ?_
  · match j,hj with
    | 0,hj => injection hj with hj; subst hj; exact r0
    | 1,hj => injection hj with hj; subst hj; exact r1
    | 2,hj => injection hj with hj; subst hj; exact r2
    | j + 3,hj => simp at hj
  · subst he
    have hb:=below_of htr
    obtain rfl:=bool_of hr
    refine ⟨_,rfl,[d0,d1,d2],[],p0 ++ p1 ++ p2 ++ [],[],p0 ++ (p1 ++ p2),[],hW',trodAll_mk1 (shut_bool Tryd.underlying4 _),?_,rfl,hb.frame _,nofun⟩
    exact trodAll_mk3 (Below.trod laidOutT readBox2 rowBox2 h0 hb fun x hx => hlt x (by simp [hx])) (Below.trod laidOutT readImage rowImage h1 hb fun x hx => hlt x (by simp [hx])) (Below.trod laidOutT readSpot rowSpot h2 hb fun x hx => hlt x (by simp [hx]))
theorem imageSets_said : Rows.ImageSetsSaid :=
  OpenClaim.holds_of_wide 6 Tryd.f6 rfl rfl rfl rfl rfl rfl rfl ⟨rfl,rfl,rfl,rfl,rfl⟩ rfl rfl rfl rfl rfl (by kernel_rfl) Tryd.func6 (by kernel_rfl)
    (of_decide_eq_true (by kernel_rfl)) (by unfold Func.isWrapper; first | (rw [if_pos (by decide +kernel)]; kernel_rfl) | (rw [if_neg (by decide +kernel)]; exact ⟨rfl,rfl⟩))
    (fun os started H enc _ => liftedImageSets os started H enc)
theorem imageSets_holds : Rows.ImageSetsCardSaid :=
  Claim7.holds_tied_plain_at .later [] [.data,.funcs] true (true, "359382384c43234c9f54482ff26339fbdcdd3930ee5da971ef51885eb1764899") false
    imageSets_said (fun _ h => by cases h) (by kernel_rfl) (fun _ h => by cases h) imageSets_row_tie rfl ⟨rfl,rfl⟩ (by kernel_rfl) rfl
    (fun f fn hf hfn => by
      obtain rfl : f = 6:=Option.some.inj ((show Tryd.prog.funcNamed "halation/halationlaw04.ImageSets" = some 6 by kernel_rfl).symm.trans hf) |>.symm
      obtain rfl : fn = Tryd.f6:=(Option.some.inj (Tryd.func6.symm.trans hfn)).symm
      exact ⟨by kernel_rfl,fun j t ht => by
        rw [Tryd.params6] at ht
        have hm : t ∈ [76,27,78]:=by simpa using Array.mem_of_getElem? ht
        have hall : ([76,27,78].all fun u => !Tryd.prog.wantsStandIn u) = true:=by kernel_rfl
        exact (show Tryd.prog.wantsStandIn t = false by simpa using List.all_eq_true.1 hall t hm)⟩)
    (by kernel_rfl)
#print axioms imageSets_holds
end Go.Proofs.YtgbmhofpndjdoaaDoor
