/- A part of the proof that the law answers true for every input; the conditions are those of the card: the listed variable reads as the program lays it. -/
import Derived.Test.YtgbmhofpndjdoaaGreatDoorV5
set_option linter.unusedSimpArgs false
set_option linter.unusedVariables false
/- Chapter 04,functions: the reference's Slice and Transpose. -/
set_option maxRecDepth 100000
set_option maxHeartbeats 8000000
namespace Go.Vm.P4Z
open Go Go.Vm Go.Vm.P4
theorem drop_fold (d : Nat) : ∀ (l : Bx) (a : Bx) (k : Nat),(l.foldl (fun (a : Bx × Nat) x => (if a.2 = d then a.1 else a.1 ++ [x],a.2 + 1)) (a,k)).1 = a ++ (if k ≤ d then l.eraseIdx (d - k) else l)
  | [],a,k => by simp
  | x :: l,a,k => by
    rw [List.foldl_cons,drop_fold d l]
    by_cases h : k = d
    · subst h; rw [if_pos rfl,if_neg (by omega),if_pos (Nat.le_refl _)]; simp
    · by_cases h2 : k ≤ d
      · have e : d - k = (d - (k + 1)) + 1:=by omega
        rw [if_neg h,if_pos h2,if_pos (by omega),e,List.eraseIdx_cons_succ]; simp
      · rw [if_neg h,if_neg h2,if_neg (by omega)]; simp
theorem cast_1 : ((0 + 1 : Nat) : Int) = 1:=rfl
theorem cast_2 : ((0 + 1 + 1 : Nat) : Int) = 2:=rfl
def bxO (a : List Int) (es : List (List D)) : AO:=match a with | [] => .arr 2 es | _ => .farr 2 es
theorem okRSlice (n : Nat) (m : Im) (M : Nat) (G : Good m M) (d : Nat) (hd : d < m.bx.length) (r : Rg) (hr : m.bx[d]? = some r) (at' : Int) (ha : r.lo ≤ at') (ha2 : at' < r.lo + r.ex) (h2 : m.bx.length ≠ 1) (N : Nat) (hN : many (m.bx.eraseIdx d) = N) (hN2 : N < 1000000) :
    callP (level E (n+3)) 35 [enIm m,.int .i64 d,.int .i64 at'] = some (enIm (dnI m.kd true (m.bx.eraseIdx d) N (fun p => atI m (insP d at' p)))):=by
  have l3:=G.len3
  rw [p35]
  simp only [go_sem,Nat.reduceAdd,Nat.reduceSub,Nat.reduceMul,Nat.reduceDiv,Nat.reduceMod,Nat.reduceLeDiff,Nat.reduceLT,Nat.reduceBEq,Int.reduceToNat,Int.reduceLT,Int.reduceLE,Int.reduceEq,enIm]
  have h:=loop_fold (f:=aCode (level E (n+2)) ⟨0,false⟩ b35_0) (h:=head ⟨0,false⟩ [0,1,1,1,1,1,1,0,0,0,0,0,0,0]) (Φ:=outC ⟨0,false⟩ [0,1,1,1,1,1,0,0,0,0,0,0,0,0]) m.bx (fun (a : Bx × Nat) i => ⟨[.junk,.imm (.int .i64 d),.imm (.int .i64 at'),.ptr 0 0,.ptr 1 0,vK 2 2 (a.1.map enR),.imm (.int .i64 i),.junk,.junk,.junk,.junk,.junk,.junk,.junk],boxZ :: boxI m :: oK 2 (a.1.map enR),none⟩) (fun a i => a.2 = i ∧ a.1.length ≤ i)
    (fun a x => (if a.2 = d then a.1 else a.1 ++ [x],a.2 + 1)) (fun a => some (.exit 0,⟨[.junk,.imm (.int .i64 d),.imm (.int .i64 at'),.ptr 0 0,.ptr 1 0,vK 2 2 (a.1.map enR),.junk,.junk,.junk,.junk,.junk,.junk,.junk,.junk],boxZ :: boxI m :: oK 2 (a.1.map enR),none⟩)) ([],0) ⟨rfl,Nat.le_refl _⟩
    (fun a i x hI h2 h1 => ⟨by
      obtain ⟨hI,hI2⟩:=hI
      have e1 : (a.1.length + 1) * 17 ≤ 70368744177664:=by omega
      rcases a with ⟨a,k⟩
      have hI : k = i:=hI
      subst hI
      rw [rnd_eq]
      by_cases hk : k = d
      · subst hk
        rcases a with _ | ⟨y,t⟩
        · simp only [go_sem,Nat.reduceAdd,Nat.reduceSub,Nat.reduceMul,Nat.reduceDiv,Nat.reduceMod,Nat.reduceLeDiff,Nat.reduceLT,Nat.reduceBEq,Int.reduceToNat,Int.reduceLT,Int.reduceLE,Int.reduceEq,lt_t h2,h1,vK,oK,enB,ne_eq,not_true_eq_false]
          rw [wrpS (by omega)]
        · simp only [List.length_cons] at e1
          simp only [go_sem,Nat.reduceAdd,Nat.reduceSub,Nat.reduceMul,Nat.reduceDiv,Nat.reduceMod,Nat.reduceLeDiff,Nat.reduceLT,Nat.reduceBEq,Int.reduceToNat,Int.reduceLT,Int.reduceLE,Int.reduceEq,lt_t h2,h1,vK,oK,e1,enB,ne_eq,not_true_eq_false]
          rw [wrpS (by omega)]
      · have hk' : ¬ (k : Int) = d:=by omega
        rcases a with _ | ⟨y,t⟩
        · simp only [go_sem,Nat.reduceAdd,Nat.reduceSub,Nat.reduceMul,Nat.reduceDiv,Nat.reduceMod,Nat.reduceLeDiff,Nat.reduceLT,Nat.reduceBEq,Int.reduceToNat,Int.reduceLT,Int.reduceLE,Int.reduceEq,lt_t h2,h1,hk,hk',vK,oK,enB,ne_eq,not_false_eq_true]
          rw [wrpS (by omega)]
        · simp only [List.length_cons] at e1
          simp only [go_sem,Nat.reduceAdd,Nat.reduceSub,Nat.reduceMul,Nat.reduceDiv,Nat.reduceMod,Nat.reduceLeDiff,Nat.reduceLT,Nat.reduceBEq,Int.reduceToNat,Int.reduceLT,Int.reduceLE,Int.reduceEq,lt_t h2,h1,hk,hk',vK,oK,e1,enB,ne_eq,not_false_eq_true]
          rw [wrpS (by omega)],⟨by simp [hI.1],by have:=hI.2; dsimp only; split <;> simp <;> omega⟩⟩)
    (fun a _ => by
      rw [rnd_eq]
      rcases a with ⟨a,k⟩
      rcases a with _ | ⟨y,t⟩ <;> simp only [go_sem,Nat.reduceAdd,Nat.reduceSub,Nat.reduceMul,Nat.reduceDiv,Nat.reduceMod,Nat.reduceLeDiff,Nat.reduceLT,Nat.reduceBEq,Int.reduceToNat,Int.reduceLT,Int.reduceLE,Int.reduceEq,lt_f (Nat.le_refl _),vK,oK,enB])
  rw [cast_0] at h
  simp only [vK,oK,List.map_nil,enB] at h
  rw [h]
  clear h
  have e:=drop_fold d m.bx [] 0
  simp only [Nat.zero_le,if_true,Nat.sub_zero,List.nil_append] at e
  rw [e]
  clear e
  have okB:=erase_okr G.okr d
  have lB : (m.bx.eraseIdx d).length + 1 = m.bx.length:=by rw [List.length_eraseIdx_of_lt hd]; omega
  have l1:=G.len1
  have key : ∀ p,InB (m.bx.eraseIdx d) p → InB m.bx (insP d at' p):=fun p hp => ins_in m.bx p d r at' hr ha ha2 hp
  generalize m.bx.eraseIdx d = B at *
  rcases B with _ | ⟨b0,bt⟩
  · simp only [List.length_nil] at lB; omega
  simp only [vK,oK,go_sem,Nat.reduceAdd,Nat.reduceSub,Nat.reduceMul,Nat.reduceDiv,Nat.reduceMod,Nat.reduceLeDiff,Nat.reduceLT,Nat.reduceBEq,Int.reduceToNat,Int.reduceLT,Int.reduceLE,Int.reduceEq]
  have pr:=okRProduct (n+1) false (b0 :: bt) (by omega)
  simp only [enB,slD_c,List.map_cons,enR] at pr
  rw [hN] at pr
  have h:=loop_fold (f:=aCode (level E (n+2)) ⟨0,false⟩ b35_1) (h:=head ⟨0,false⟩ [0,1,1,1,1,1,0,1,1,0,0,0,0,0]) (Φ:=outC ⟨0,false⟩ [0,0,0,1,1,1,0,1,0,0,0,0,0,0]) (List.range N) (fun (a : List Int) i => ⟨[.junk,.imm (.int .i64 d),.imm (.int .i64 at'),.ptr 0 0,.ptr 1 0,.ref 2 2 0 (bt.length + 1),.junk,vK 3 1 (a.map ub),.imm (.int .i64 i),.junk,.junk,.junk,.junk,.junk],boxZ :: boxI m :: bxO a ([.int .i64 b0.lo,.int .i64 b0.ex] :: bt.map enR) :: oK 1 (a.map ub),none⟩) (fun a i => a.length = i)
    (fun a i => a ++ [atI m (insP d at' (digits (b0 :: bt) (i : Nat)))]) (fun a => some (.exit 2,⟨[.junk,.junk,.junk,.ptr 0 0,.ptr 1 0,.ref 2 2 0 (bt.length + 1),.junk,vK 3 1 (a.map ub),.junk,.junk,.junk,.junk,.junk,.junk],boxZ :: boxI m :: bxO a ([.int .i64 b0.lo,.int .i64 b0.ex] :: bt.map enR) :: oK 1 (a.map ub),none⟩)) [] rfl
    (fun a i x hI h2 h1 => ⟨by
      have:=getRange h1
      subst this
      rw [List.length_range] at h2
      have hx:=ex_pos okB (by omega : many (b0 :: bt) ≠ 0)
      have rp:=okRPoint (n+1) false (b0 :: bt) x (by omega) (fun r hr => by have:=hx r hr; omega)
      rw [ptW_dig (b0 :: bt) x okB hx (by omega) (by omega)] at rp
      obtain ⟨k,k1,k2,k3⟩:=G.at (key _ (digits_in (b0 :: bt) x hx))
      have dl:=digits_len (b0 :: bt) x
      generalize digits (b0 :: bt) (x : Int) = p at *
      have rb:=okRBits n m true (insP d at' p) l3 (by have:=G.stl; omega) (by simp only [insP,List.length_append,List.length_take,List.length_cons,List.length_drop]; omega) k _ k1 k3
      have hlt : (x : Int) < N:=by omega
      generalize atI m (insP d at' p) = V at *
      clear key k1 k2 k3 h1
      have e1 : (a.length + 1) * 9 ≤ 70368744177664:=by omega
      simp only [enIm] at rb
      simp only [enB,slD_c,List.map_cons,enR] at rp
      rw [rnd_eq]
      rcases p with _ | ⟨u,_ | ⟨v,_ | ⟨w,p⟩⟩⟩
      · simp only [List.length_nil,List.length_cons] at dl; omega
      · rcases d with _ | _ | d
        · simp only [insP,go_sem,Nat.reduceAdd,Nat.reduceSub,Nat.reduceMul,Nat.reduceDiv,Nat.reduceMod,Nat.reduceLeDiff,Nat.reduceLT,Nat.reduceBEq,Int.reduceToNat,Int.reduceLT,Int.reduceLE,Int.reduceEq,slD_c,List.take_zero,List.drop_zero,List.take_succ_cons,List.drop_succ_cons,List.take_nil,List.drop_nil,List.nil_append,List.cons_append,cast_0,cast_1,cast_2] at rb rp
          rcases a with _ | ⟨y,t⟩
          · simp only [cast_0,cast_1,cast_2,bxO,go_sem,Nat.reduceAdd,Nat.reduceSub,Nat.reduceMul,Nat.reduceDiv,Nat.reduceMod,Nat.reduceLeDiff,Nat.reduceLT,Nat.reduceBEq,Int.reduceToNat,Int.reduceLT,Int.reduceLE,Int.reduceEq,pr,hlt,rp,rb,vK,oK,enB]
            rw [wrpS (by omega)]
          · simp only [List.length_cons] at e1
            simp only [cast_0,cast_1,cast_2,bxO,go_sem,Nat.reduceAdd,Nat.reduceSub,Nat.reduceMul,Nat.reduceDiv,Nat.reduceMod,Nat.reduceLeDiff,Nat.reduceLT,Nat.reduceBEq,Int.reduceToNat,Int.reduceLT,Int.reduceLE,Int.reduceEq,pr,hlt,rp,rb,vK,oK,e1,enB]
            rw [wrpS (by omega)]
        · simp only [insP,go_sem,Nat.reduceAdd,Nat.reduceSub,Nat.reduceMul,Nat.reduceDiv,Nat.reduceMod,Nat.reduceLeDiff,Nat.reduceLT,Nat.reduceBEq,Int.reduceToNat,Int.reduceLT,Int.reduceLE,Int.reduceEq,slD_c,List.take_zero,List.drop_zero,List.take_succ_cons,List.drop_succ_cons,List.take_nil,List.drop_nil,List.nil_append,List.cons_append,cast_0,cast_1,cast_2] at rb rp
          rcases a with _ | ⟨y,t⟩
          · simp only [cast_0,cast_1,cast_2,bxO,go_sem,Nat.reduceAdd,Nat.reduceSub,Nat.reduceMul,Nat.reduceDiv,Nat.reduceMod,Nat.reduceLeDiff,Nat.reduceLT,Nat.reduceBEq,Int.reduceToNat,Int.reduceLT,Int.reduceLE,Int.reduceEq,pr,hlt,rp,rb,vK,oK,enB]
            rw [wrpS (by omega)]
          · simp only [List.length_cons] at e1
            simp only [cast_0,cast_1,cast_2,bxO,go_sem,Nat.reduceAdd,Nat.reduceSub,Nat.reduceMul,Nat.reduceDiv,Nat.reduceMod,Nat.reduceLeDiff,Nat.reduceLT,Nat.reduceBEq,Int.reduceToNat,Int.reduceLT,Int.reduceLE,Int.reduceEq,pr,hlt,rp,rb,vK,oK,e1,enB]
            rw [wrpS (by omega)]
        · simp only [List.length_cons,List.length_nil] at dl lB; omega
      · rcases d with _ | _ | _ | d
        · simp only [insP,go_sem,Nat.reduceAdd,Nat.reduceSub,Nat.reduceMul,Nat.reduceDiv,Nat.reduceMod,Nat.reduceLeDiff,Nat.reduceLT,Nat.reduceBEq,Int.reduceToNat,Int.reduceLT,Int.reduceLE,Int.reduceEq,slD_c,List.take_zero,List.drop_zero,List.take_succ_cons,List.drop_succ_cons,List.take_nil,List.drop_nil,List.nil_append,List.cons_append,cast_0,cast_1,cast_2] at rb rp
          rcases a with _ | ⟨y,t⟩
          · simp only [cast_0,cast_1,cast_2,bxO,go_sem,Nat.reduceAdd,Nat.reduceSub,Nat.reduceMul,Nat.reduceDiv,Nat.reduceMod,Nat.reduceLeDiff,Nat.reduceLT,Nat.reduceBEq,Int.reduceToNat,Int.reduceLT,Int.reduceLE,Int.reduceEq,pr,hlt,rp,rb,vK,oK,enB]
            rw [wrpS (by omega)]
          · simp only [List.length_cons] at e1
            simp only [cast_0,cast_1,cast_2,bxO,go_sem,Nat.reduceAdd,Nat.reduceSub,Nat.reduceMul,Nat.reduceDiv,Nat.reduceMod,Nat.reduceLeDiff,Nat.reduceLT,Nat.reduceBEq,Int.reduceToNat,Int.reduceLT,Int.reduceLE,Int.reduceEq,pr,hlt,rp,rb,vK,oK,e1,enB]
            rw [wrpS (by omega)]
        · simp only [insP,go_sem,Nat.reduceAdd,Nat.reduceSub,Nat.reduceMul,Nat.reduceDiv,Nat.reduceMod,Nat.reduceLeDiff,Nat.reduceLT,Nat.reduceBEq,Int.reduceToNat,Int.reduceLT,Int.reduceLE,Int.reduceEq,slD_c,List.take_zero,List.drop_zero,List.take_succ_cons,List.drop_succ_cons,List.take_nil,List.drop_nil,List.nil_append,List.cons_append,cast_0,cast_1,cast_2] at rb rp
          rcases a with _ | ⟨y,t⟩
          · simp only [cast_0,cast_1,cast_2,bxO,go_sem,Nat.reduceAdd,Nat.reduceSub,Nat.reduceMul,Nat.reduceDiv,Nat.reduceMod,Nat.reduceLeDiff,Nat.reduceLT,Nat.reduceBEq,Int.reduceToNat,Int.reduceLT,Int.reduceLE,Int.reduceEq,pr,hlt,rp,rb,vK,oK,enB]
            rw [wrpS (by omega)]
          · simp only [List.length_cons] at e1
            simp only [cast_0,cast_1,cast_2,bxO,go_sem,Nat.reduceAdd,Nat.reduceSub,Nat.reduceMul,Nat.reduceDiv,Nat.reduceMod,Nat.reduceLeDiff,Nat.reduceLT,Nat.reduceBEq,Int.reduceToNat,Int.reduceLT,Int.reduceLE,Int.reduceEq,pr,hlt,rp,rb,vK,oK,e1,enB]
            rw [wrpS (by omega)]
        · simp only [insP,go_sem,Nat.reduceAdd,Nat.reduceSub,Nat.reduceMul,Nat.reduceDiv,Nat.reduceMod,Nat.reduceLeDiff,Nat.reduceLT,Nat.reduceBEq,Int.reduceToNat,Int.reduceLT,Int.reduceLE,Int.reduceEq,slD_c,List.take_zero,List.drop_zero,List.take_succ_cons,List.drop_succ_cons,List.take_nil,List.drop_nil,List.nil_append,List.cons_append,cast_0,cast_1,cast_2] at rb rp
          rcases a with _ | ⟨y,t⟩
          · simp only [cast_0,cast_1,cast_2,bxO,go_sem,Nat.reduceAdd,Nat.reduceSub,Nat.reduceMul,Nat.reduceDiv,Nat.reduceMod,Nat.reduceLeDiff,Nat.reduceLT,Nat.reduceBEq,Int.reduceToNat,Int.reduceLT,Int.reduceLE,Int.reduceEq,pr,hlt,rp,rb,vK,oK,enB]
            rw [wrpS (by omega)]
          · simp only [List.length_cons] at e1
            simp only [cast_0,cast_1,cast_2,bxO,go_sem,Nat.reduceAdd,Nat.reduceSub,Nat.reduceMul,Nat.reduceDiv,Nat.reduceMod,Nat.reduceLeDiff,Nat.reduceLT,Nat.reduceBEq,Int.reduceToNat,Int.reduceLT,Int.reduceLE,Int.reduceEq,pr,hlt,rp,rb,vK,oK,e1,enB]
            rw [wrpS (by omega)]
        · simp only [List.length_cons,List.length_nil] at dl lB; omega
      · simp only [List.length_cons] at dl lB; omega,by simp [hI]⟩)
    (fun a _ => by
      rw [rnd_eq]
      rw [List.length_range]
      have hlt : ¬ (N : Int) < N:=by omega
      rcases a with _ | ⟨y,t⟩ <;> simp only [bxO,go_sem,Nat.reduceAdd,Nat.reduceSub,Nat.reduceMul,Nat.reduceDiv,Nat.reduceMod,Nat.reduceLeDiff,Nat.reduceLT,Nat.reduceBEq,Int.reduceToNat,Int.reduceLT,Int.reduceLE,Int.reduceEq,pr,hlt,vK,oK,enB])
  rw [cast_0] at h
  simp only [bxO,vK,oK,List.map_nil] at h
  rw [h,fold_snoc,List.nil_append]
  clear h
  have mk:=okRMake n m.kd false true (b0 :: bt) ((List.range N).map fun i => atI m (insP d at' (digits (b0 :: bt) (i : Nat)))) (by omega) (by simp; omega)
  have mk' : callP (level E (n+2)) 45 [.int .i64 m.kd,.sl 2 ([.int .i64 b0.lo,.int .i64 b0.ex] :: bt.map enR),slD true 1 (((List.range N).map fun i => atI m (insP d at' (digits (b0 :: bt) (i : Nat)))).map ub)] = some (enIm (dnI m.kd true (b0 :: bt) N (fun p => atI m (insP d at' p)))):=by
    rw [dnI]; simp only [enB,slD_c,List.map_cons,enR] at mk; exact mk
  clear mk
  have hR : (dnI m.kd true (b0 :: bt) N (fun p => atI m (insP d at' p))).bx ≠ []:=by simp [dnI]
  generalize dnI m.kd true (b0 :: bt) N (fun p => atI m (insP d at' p)) = R at *
  have fx : R.bx ≠ []:=hR
  have hfe : flatD (enB R.bb R.bx) = false:=flatB R.bb fx
  rcases hq : (List.range N).map (fun i => atI m (insP d at' (digits (b0 :: bt) (i : Nat)))) with _ | ⟨y,t⟩
  · rw [hq] at mk'
    simp only [slD,List.map_nil] at mk'
    simp only [bxO,go_sem,Nat.reduceAdd,Nat.reduceSub,Nat.reduceMul,Nat.reduceDiv,Nat.reduceMod,Nat.reduceLeDiff,Nat.reduceLT,Nat.reduceBEq,Int.reduceToNat,Int.reduceLT,Int.reduceLE,Int.reduceEq,vK,oK,mk']
    simp only [go_sem,Nat.reduceAdd,Nat.reduceSub,Nat.reduceMul,Nat.reduceDiv,Nat.reduceMod,Nat.reduceLeDiff,Nat.reduceLT,Nat.reduceBEq,Int.reduceToNat,Int.reduceLT,Int.reduceLE,Int.reduceEq,enIm,hfe,Bool.false_and,Bool.and_false]
  · rw [hq] at mk'
    simp only [slD_c,List.map_cons,ub] at mk'
    simp only [bxO,go_sem,Nat.reduceAdd,Nat.reduceSub,Nat.reduceMul,Nat.reduceDiv,Nat.reduceMod,Nat.reduceLeDiff,Nat.reduceLT,Nat.reduceBEq,Int.reduceToNat,Int.reduceLT,Int.reduceLE,Int.reduceEq,vK,oK,mk']
    simp only [go_sem,Nat.reduceAdd,Nat.reduceSub,Nat.reduceMul,Nat.reduceDiv,Nat.reduceMod,Nat.reduceLeDiff,Nat.reduceLT,Nat.reduceBEq,Int.reduceToNat,Int.reduceLT,Int.reduceLE,Int.reduceEq,enIm,hfe,Bool.false_and,Bool.and_false]
end Go.Vm.P4Z

/- Chapter 04,functions: the reference's Transpose. -/
set_option maxRecDepth 100000
set_option maxHeartbeats 8000000
namespace Go.Vm.P4Z
open Go Go.Vm Go.Vm.P4
theorem okOwnBoxI (n : Nat) (b : Bool) (l : Bx) (hl : l.length < 1000000) : callI (level E (n+1)) 26 [enB b l] = some (vK 0 2 (l.map enR),oK 2 (l.map enR)):=by
  rw [i26]
  rcases l with _ | ⟨x,t⟩
  · cases b <;> simp only [go_sem,Nat.reduceAdd,Nat.reduceSub,Nat.reduceMul,Nat.reduceDiv,Nat.reduceMod,Nat.reduceLeDiff,Nat.reduceLT,Nat.reduceBEq,Int.reduceToNat,Int.reduceLT,Int.reduceLE,Int.reduceEq,slD,vK,oK,enB] <;> rfl
  · have e : (t.length + 1) * 17 ≤ 70368744177664:=by simp at hl; omega
    have e0 : enB b (x :: t) = .sl 2 ((x :: t).map enR):=by cases b <;> rfl
    rw [e0]
    simp only [go_sem,Nat.reduceAdd,Nat.reduceSub,Nat.reduceMul,Nat.reduceDiv,Nat.reduceMod,Nat.reduceLeDiff,Nat.reduceLT,Nat.reduceBEq,Int.reduceToNat,Int.reduceLT,Int.reduceLE,Int.reduceEq,e,vK,oK] <;> rfl
theorem okRPointI (n : Nat) (b : Bool) (l : Bx) (k : Int) (hl : l.length < 1000000) (hx : ∀ r ∈ l,r.ex ≠ 0) : callI (level E (n+1)) 75 [enB b l,.int .i64 k] = some (vK 0 1 ((ptW l k).map ic),oK 1 ((ptW l k).map ic)):=by
  rw [i75]
  simp only [go_sem,Nat.reduceAdd,Nat.reduceSub,Nat.reduceMul,Nat.reduceDiv,Nat.reduceMod,Nat.reduceLeDiff,Nat.reduceLT,Nat.reduceBEq,Int.reduceToNat,Int.reduceLT,Int.reduceLE,Int.reduceEq]
  have h:=loop_fold (f:=aCode (level E (n)) ⟨0,false⟩ b75_0) (h:=head ⟨0,false⟩ [1,1,0,1,1,0]) (Φ:=outC ⟨0,false⟩ [0,0,0,1,0,0]) l (fun (a : List Int × Int) i => ⟨[.imm (slD b 2 (l.map enR)),.imm (.int .i64 a.2),.junk,vK 0 1 (a.1.map ic),.imm (.int .i64 i),.junk],oK 1 (a.1.map ic),none⟩) (fun a i => a.1.length = i)
    (fun a r => (a.1 ++ [ad r.lo (a.2.tmod r.ex)],wrp .i64 (a.2.tdiv r.ex))) (fun a => some (.exit 0,⟨[.junk,.junk,.junk,vK 0 1 (a.1.map ic),.junk,.junk],oK 1 (a.1.map ic),none⟩)) ([],k) rfl
    (fun a i r hI h2 h1 => ⟨by
      rw [rnd_eq]
      have e1 : (a.1.length + 1) * 9 ≤ 70368744177664:=by omega
      have e2:=hx r (List.mem_of_getElem? h1)
      rcases a with ⟨_ | ⟨y,t⟩,m⟩
      · simp only [go_sem,Nat.reduceAdd,Nat.reduceSub,Nat.reduceMul,Nat.reduceDiv,Nat.reduceMod,Nat.reduceLeDiff,Nat.reduceLT,Nat.reduceBEq,Int.reduceToNat,Int.reduceLT,Int.reduceLE,Int.reduceEq,lt_t h2,h1,ad,vK,oK,e2,ne_eq,not_false_eq_true]
        rw [wrpS (by omega)]
      · simp only [List.length_cons] at e1
        simp only [go_sem,Nat.reduceAdd,Nat.reduceSub,Nat.reduceMul,Nat.reduceDiv,Nat.reduceMod,Nat.reduceLeDiff,Nat.reduceLT,Nat.reduceBEq,Int.reduceToNat,Int.reduceLT,Int.reduceLE,Int.reduceEq,lt_t h2,h1,ad,vK,oK,e1,e2,ne_eq,not_false_eq_true]
        rw [wrpS (by omega)],by simp [hI]⟩)
    (fun a _ => by
      rw [rnd_eq]
      rcases a with ⟨_ | ⟨y,t⟩,m⟩ <;> simp only [go_sem,Nat.reduceAdd,Nat.reduceSub,Nat.reduceMul,Nat.reduceDiv,Nat.reduceMod,Nat.reduceLeDiff,Nat.reduceLT,Nat.reduceBEq,Int.reduceToNat,Int.reduceLT,Int.reduceLE,Int.reduceEq,lt_f (Nat.le_refl _),vK,oK])
  rw [cast_0] at h
  simp only [List.map_nil,vK,oK] at h
  rw [h]
  generalize hA : (l.foldl (fun (a : List Int × Int) r => (a.1 ++ [ad r.lo (a.2.tmod r.ex)],wrp .i64 (a.2.tdiv r.ex))) ([],k)).1 = A
  have e:=pt_fold l [] k
  rw [hA,List.nil_append] at e
  rw [← e]
  rcases A with _ | ⟨y,t⟩ <;> simp only [go_sem,Nat.reduceAdd,Nat.reduceSub,Nat.reduceMul,Nat.reduceDiv,Nat.reduceMod,Nat.reduceLeDiff,Nat.reduceLT,Nat.reduceBEq,Int.reduceToNat,Int.reduceLT,Int.reduceLE,Int.reduceEq,vK,oK]
theorem slD_f {sz : Nat} {es : List (List D)} : slD false sz es = .sl sz es:=by cases es <;> rfl
theorem fl_ic : ∀ l : List Int,flatDLL (l.map ic) = true
  | [] => by simp [flatDLL]
  | x :: l => by simp [flatDLL,flatDL,flatD,ic,fl_ic l]
noncomputable def lpAt {γ : Type} {f : S → Option (AExit × S)} {h : S → S} {Φ : Option (AExit × S) → γ} (t : S) : γ:=Φ (rnd f h t)
theorem okRTransL (n : Nat) (m : Im) (M : Nat) (G : Good m M) (a b : Nat) (hla : a < m.bx.length) (hlb : b < m.bx.length) (B : Bx) (hB : swp m.bx a b = B) (b0 : Rg) (bt : Bx) (hB2 : B = b0 :: bt) (N : Nat) (hN : many B = N) (hN2 : N < 1000000) (c : List Int) (hc : c = (List.range N).map (fun i => atI m (swp (digits B (i : Nat)) a b))) :
    lpAt (f:=aCode (level E (n+2)) ⟨0,false⟩ b36_0) (h:=head ⟨0,false⟩ [0,1,1,1,1,1,1,1,0]) (Φ:=outC ⟨0,false⟩ [0,0,0,1,1,1,1,0,0]) (⟨[.junk,.imm (.int .i64 a),.imm (.int .i64 b),.ptr 0 0,.ptr 1 0,.ref 2 2 0 (bt.length + 1),.imm .nil,.imm (.int .i64 0),.junk],[boxZ,boxI m,.arr 2 ([.int .i64 b0.lo,.int .i64 b0.ex] :: bt.map enR)],none⟩) = outC ⟨0,false⟩ [0,0,0,1,1,1,1,0,0] (some (.exit 0,⟨[.junk,.junk,.junk,.ptr 0 0,.ptr 1 0,.ref 2 2 0 (bt.length + 1),vK 3 1 (c.map ub),.junk,.junk],boxZ :: boxI m :: .arr 2 ([.int .i64 b0.lo,.int .i64 b0.ex] :: bt.map enR) :: oK 1 (c.map ub),none⟩)):=by
  have l3:=G.len3
  have okB : Okr B:=by rw [← hB]; exact swp_okr G.okr a b
  have lB : B.length = m.bx.length:=by rw [← hB]; exact swp_len _ _ _
  have key : ∀ p,InB B p → InB m.bx (swp p a b):=fun p hp => swp_in hla hlb (by rw [hB]; exact hp)
  subst hB2
  have pr:=okRProduct (n+1) false (b0 :: bt) (by omega)
  simp only [enB,slD_c,List.map_cons,enR] at pr
  rw [hN] at pr
  have h:=loop_fold (f:=aCode (level E (n+2)) ⟨0,false⟩ b36_0) (h:=head ⟨0,false⟩ [0,1,1,1,1,1,1,1,0]) (Φ:=outC ⟨0,false⟩ [0,0,0,1,1,1,1,0,0]) (List.range N) (fun (a' : List Int) i => ⟨[.junk,.imm (.int .i64 a),.imm (.int .i64 b),.ptr 0 0,.ptr 1 0,.ref 2 2 0 (bt.length + 1),vK 3 1 (a'.map ub),.imm (.int .i64 i),.junk],boxZ :: boxI m :: .arr 2 ([.int .i64 b0.lo,.int .i64 b0.ex] :: bt.map enR) :: oK 1 (a'.map ub),none⟩) (fun a i => a.length = i)
    (fun a' i => a' ++ [atI m (swp (digits (b0 :: bt) (i : Nat)) a b)]) (fun a' => some (.exit 0,⟨[.junk,.junk,.junk,.ptr 0 0,.ptr 1 0,.ref 2 2 0 (bt.length + 1),vK 3 1 (a'.map ub),.junk,.junk],boxZ :: boxI m :: .arr 2 ([.int .i64 b0.lo,.int .i64 b0.ex] :: bt.map enR) :: oK 1 (a'.map ub),none⟩)) [] rfl
    (fun a' i x hI h2 h1 => ⟨by
      have:=getRange h1
      subst this
      rw [List.length_range] at h2
      have hx:=ex_pos okB (by omega : many (b0 :: bt) ≠ 0)
      have rp:=okRPointI (n+1) false (b0 :: bt) x (by omega) (fun r hr => by have:=hx r hr; omega)
      rw [ptW_dig (b0 :: bt) x okB hx (by omega) (by omega)] at rp
      obtain ⟨k,k1,k2,k3⟩:=G.at (key _ (digits_in (b0 :: bt) x hx))
      have dl:=digits_len (b0 :: bt) x
      have sw:=okRSwapped (n+1) true (digits (b0 :: bt) x) a b (by omega) (by omega) (by omega)
      have rb:=okRBits n m false (swp (digits (b0 :: bt) x) a b) l3 (by have:=G.stl; omega) (by rw [swp_len]; omega) k _ k1 k3
      have hlt : (x : Int) < N:=by omega
      have e1 : (a'.length + 1) * 9 ≤ 70368744177664:=by omega
      simp only [enIm] at rb
      generalize digits (b0 :: bt) (x : Int) = p at *
      rcases p with _ | ⟨u,p⟩
      · simp only [List.length_nil,List.length_cons] at dl; omega
      generalize swp (u :: p) a b = q at *
      simp only [enB,slD_c,List.map_cons,enR,ic,slD_f,vK,oK] at rp sw rb
      rw [rnd_eq]
      rcases a' with _ | ⟨y,t⟩
      · simp only [fl_ic,go_sem,Nat.reduceAdd,Nat.reduceSub,Nat.reduceMul,Nat.reduceDiv,Nat.reduceMod,Nat.reduceLeDiff,Nat.reduceLT,Nat.reduceBEq,Int.reduceToNat,Int.reduceLT,Int.reduceLE,Int.reduceEq,pr,hlt,rp,sw,rb,vK,oK,enB]
        rw [wrpS (by omega)]
      · simp only [List.length_cons] at e1
        simp only [fl_ic,go_sem,Nat.reduceAdd,Nat.reduceSub,Nat.reduceMul,Nat.reduceDiv,Nat.reduceMod,Nat.reduceLeDiff,Nat.reduceLT,Nat.reduceBEq,Int.reduceToNat,Int.reduceLT,Int.reduceLE,Int.reduceEq,pr,hlt,rp,sw,rb,vK,oK,e1,enB]
        rw [wrpS (by omega)],by simp [hI]⟩)
    (fun a' _ => by
      rw [rnd_eq]
      rw [List.length_range]
      have hlt : ¬ (N : Int) < N:=by omega
      rcases a' with _ | ⟨y,t⟩ <;> simp only [fl_ic,go_sem,Nat.reduceAdd,Nat.reduceSub,Nat.reduceMul,Nat.reduceDiv,Nat.reduceMod,Nat.reduceLeDiff,Nat.reduceLT,Nat.reduceBEq,Int.reduceToNat,Int.reduceLT,Int.reduceLE,Int.reduceEq,pr,hlt,vK,oK,enB])
  rw [cast_0,fold_snoc,List.nil_append,← hc] at h
  simp only [bxO,vK,oK,List.map_nil] at h
  unfold lpAt
  rw [h]
  rcases c with _ | ⟨y,t⟩ <;> simp only [go_sem,Nat.reduceAdd,Nat.reduceSub,Nat.reduceMul,Nat.reduceDiv,Nat.reduceMod,Nat.reduceLeDiff,Nat.reduceLT,Nat.reduceBEq,Int.reduceToNat,Int.reduceLT,Int.reduceLE,Int.reduceEq,bxO,vK,oK]
theorem c_1 : ((1 : Nat) : Int) = 1:=rfl
theorem c_2 : ((2 : Nat) : Int) = 2:=rfl
theorem okRTranspose (n : Nat) (m : Im) (M : Nat) (G : Good m M) (a b : Nat) (ha : a < m.bx.length) (hb : b < m.bx.length) (N : Nat) (hN : many (swp m.bx a b) = N) (hN2 : N < 1000000) :
    callP (level E (n+3)) 36 [enIm m,.int .i64 a,.int .i64 b] = some (enIm (dnI m.kd true (swp m.bx a b) N (fun p => atI m (swp p a b)))):=by
  have l3:=G.len3
  have l1:=G.len1
  obtain ⟨b0,bt,hB⟩ : ∃ b0 bt,swp m.bx a b = b0 :: bt:=by
    rcases hq : swp m.bx a b with _ | ⟨b0,bt⟩
    · have:=swp_len m.bx a b; rw [hq] at this; simp at this; omega
    · exact ⟨_,_,rfl⟩
  rw [hB] at hN ⊢
  obtain ⟨c,hc⟩ : ∃ c,c = (List.range N).map (fun i => atI m (swp (digits (b0 :: bt) (i : Nat)) a b)):=⟨_,rfl⟩
  have h:=okRTransL n m M G a b ha hb (b0 :: bt) hB b0 bt rfl N hN hN2 c hc
  have o1:=okOwnBoxI (n+1) m.bb m.bx (by omega)
  have lc : c.length < 1000000:=by rw [hc]; simp; omega
  have lB : (b0 :: bt).length = m.bx.length:=by rw [← hB]; exact swp_len _ _ _
  have mk:=okRMake n m.kd false true (b0 :: bt) c (by omega) lc
  have mk' : callP (level E (n+2)) 45 [.int .i64 m.kd,.sl 2 ([.int .i64 b0.lo,.int .i64 b0.ex] :: bt.map enR),slD true 1 (c.map ub)] = some (enIm (dnI m.kd true (b0 :: bt) N (fun p => atI m (swp p a b)))):=by
    rw [dnI,← hc]; simp only [enB,slD_c,List.map_cons,enR] at mk; exact mk
  clear mk
  have fx : (dnI m.kd true (b0 :: bt) N (fun p => atI m (swp p a b))).bx ≠ []:=by simp [dnI]
  generalize dnI m.kd true (b0 :: bt) N (fun p => atI m (swp p a b)) = R at *
  have hfe : flatD (enB R.bb R.bx) = false:=flatB R.bb fx
  clear hc hN G
  unfold lpAt at h
  rcases m with ⟨kd,bb,bx,tb,st,db,dt⟩
  dsimp only at *
  have ha3 : a = 0 ∨ a = 1 ∨ a = 2:=by omega
  have hb3 : b = 0 ∨ b = 1 ∨ b = 2:=by omega
  rcases c with _ | ⟨q,c⟩
  · simp only [slD,List.map_nil,slD_c,go_sem,Nat.reduceAdd,Nat.reduceSub,Nat.reduceMul,Nat.reduceDiv,Nat.reduceMod,Nat.reduceLeDiff,Nat.reduceLT,Nat.reduceBEq,Int.reduceToNat,Int.reduceLT,Int.reduceLE,Int.reduceEq] at mk'
    rcases ha3 with rfl | rfl | rfl <;> rcases hb3 with rfl | rfl | rfl <;> rcases bx with _ | ⟨x,_ | ⟨y,_ | ⟨z,_ | ⟨w,bx⟩⟩⟩⟩ <;>
    first
    | (exfalso; simp only [List.length_cons,List.length_nil] at ha hb l1 l3; omega)
    | (simp only [swp,List.getElem?_cons_zero,List.getElem?_cons_succ,List.set_cons_zero,List.set_cons_succ] at hB
       injection hB with hB hB2
       subst hB hB2
       simp only [cast_0,c_1,c_2,go_sem,Nat.reduceAdd,Nat.reduceSub,Nat.reduceMul,Nat.reduceDiv,Nat.reduceMod,Nat.reduceLeDiff,Nat.reduceLT,Nat.reduceBEq,Int.reduceToNat,Int.reduceLT,Int.reduceLE,Int.reduceEq,enB,vK,oK,boxI,boxZ,slD_c] at o1 h
       rw [p36]
       simp only [cast_0,c_1,c_2,go_sem,Nat.reduceAdd,Nat.reduceSub,Nat.reduceMul,Nat.reduceDiv,Nat.reduceMod,Nat.reduceLeDiff,Nat.reduceLT,Nat.reduceBEq,Int.reduceToNat,Int.reduceLT,Int.reduceLE,Int.reduceEq,enIm,enB,o1,slD_c,ia_sl,vK,oK]
       rw [h]
       simp only [go_sem,Nat.reduceAdd,Nat.reduceSub,Nat.reduceMul,Nat.reduceDiv,Nat.reduceMod,Nat.reduceLeDiff,Nat.reduceLT,Nat.reduceBEq,Int.reduceToNat,Int.reduceLT,Int.reduceLE,Int.reduceEq] at mk'
       simp only [go_sem,Nat.reduceAdd,Nat.reduceSub,Nat.reduceMul,Nat.reduceDiv,Nat.reduceMod,Nat.reduceLeDiff,Nat.reduceLT,Nat.reduceBEq,Int.reduceToNat,Int.reduceLT,Int.reduceLE,Int.reduceEq,mk']
       simp only [go_sem,Nat.reduceAdd,Nat.reduceSub,Nat.reduceMul,Nat.reduceDiv,Nat.reduceMod,Nat.reduceLeDiff,Nat.reduceLT,Nat.reduceBEq,Int.reduceToNat,Int.reduceLT,Int.reduceLE,Int.reduceEq,enIm,hfe,Bool.false_and,Bool.and_false])
  · simp only [slD_c,go_sem,Nat.reduceAdd,Nat.reduceSub,Nat.reduceMul,Nat.reduceDiv,Nat.reduceMod,Nat.reduceLeDiff,Nat.reduceLT,Nat.reduceBEq,Int.reduceToNat,Int.reduceLT,Int.reduceLE,Int.reduceEq] at mk'
    rcases ha3 with rfl | rfl | rfl <;> rcases hb3 with rfl | rfl | rfl <;> rcases bx with _ | ⟨x,_ | ⟨y,_ | ⟨z,_ | ⟨w,bx⟩⟩⟩⟩ <;>
    first
    | (exfalso; simp only [List.length_cons,List.length_nil] at ha hb l1 l3; omega)
    | (simp only [swp,List.getElem?_cons_zero,List.getElem?_cons_succ,List.set_cons_zero,List.set_cons_succ] at hB
       injection hB with hB hB2
       subst hB hB2
       simp only [cast_0,c_1,c_2,go_sem,Nat.reduceAdd,Nat.reduceSub,Nat.reduceMul,Nat.reduceDiv,Nat.reduceMod,Nat.reduceLeDiff,Nat.reduceLT,Nat.reduceBEq,Int.reduceToNat,Int.reduceLT,Int.reduceLE,Int.reduceEq,enB,vK,oK,boxI,boxZ,slD_c] at o1 h
       rw [p36]
       simp only [cast_0,c_1,c_2,go_sem,Nat.reduceAdd,Nat.reduceSub,Nat.reduceMul,Nat.reduceDiv,Nat.reduceMod,Nat.reduceLeDiff,Nat.reduceLT,Nat.reduceBEq,Int.reduceToNat,Int.reduceLT,Int.reduceLE,Int.reduceEq,enIm,enB,o1,slD_c,ia_sl,vK,oK]
       rw [h]
       simp only [go_sem,Nat.reduceAdd,Nat.reduceSub,Nat.reduceMul,Nat.reduceDiv,Nat.reduceMod,Nat.reduceLeDiff,Nat.reduceLT,Nat.reduceBEq,Int.reduceToNat,Int.reduceLT,Int.reduceLE,Int.reduceEq] at mk'
       simp only [go_sem,Nat.reduceAdd,Nat.reduceSub,Nat.reduceMul,Nat.reduceDiv,Nat.reduceMod,Nat.reduceLeDiff,Nat.reduceLT,Nat.reduceBEq,Int.reduceToNat,Int.reduceLT,Int.reduceLE,Int.reduceEq,mk']
       simp only [go_sem,Nat.reduceAdd,Nat.reduceSub,Nat.reduceMul,Nat.reduceDiv,Nat.reduceMod,Nat.reduceLeDiff,Nat.reduceLT,Nat.reduceBEq,Int.reduceToNat,Int.reduceLT,Int.reduceLE,Int.reduceEq,enIm,hfe,Bool.false_and,Bool.and_false])
end Go.Vm.P4Z

/- Chapter 04,plain law: what the parts of an image answer,with the reference's errors. -/
set_option maxRecDepth 100000
set_option maxHeartbeats 1000000
namespace Go.Vm.P4Z
open Go Go.Vm Go.Vm.P4
theorem all_in {m : Im} {l : Bx} (hm : Okr m.bx) (ho : Okr l) (h3 : l.length ≤ 3) (hl : l.length = m.bx.length) {N : Nat} (hN : many l = N) : allIn m l N = true ↔ ∀ p,InB l p → InB m.bx p:=by
  unfold allIn
  rw [List.all_eq_true]
  constructor
  · intro h p hp
    obtain ⟨i,hi,rfl⟩:=in_num ho h3 N hN hp
    exact (hasB_in m.bx _ hm (by rw [digits_len,hl])).1 (h i (by simpa using hi))
  · intro h i hi
    have hi : i < N:=by simpa using hi
    exact (hasB_in m.bx _ hm (by rw [digits_len,hl])).2 (h _ (digits_in l i (ex_pos ho (by omega))))
theorem crop_all {m : Im} {l : Bx} (hm : Okr m.bx) (ho : Okr l) (h3 : l.length ≤ 3) (hl : l.length = m.bx.length) {N : Nat} (hN : many l = N) : (many l ≠ 0 ∧ List.zipWith rmeet m.bx l ≠ l) ↔ ¬ allIn m l N = true:=by
  rw [all_in hm ho h3 hl hN]
  by_cases h0 : many l = 0
  · constructor
    · intro h; exact absurd h0 h.1
    · intro h
      refine absurd (fun p hp => ?_) h
      obtain ⟨i,hi,_⟩:=in_num ho h3 N hN hp
      omega
  · rw [← meet_in m.bx l hm ho (ex_pos ho h0) hl.symm]
    exact ⟨fun h => h.2,fun h => ⟨h0,h⟩⟩
def wCropE (m : Im) (l : Bx) : Int:=let a:=fnz [ckI m,ckBox l]; if a = 0 then (if l.length = m.bx.length then (if allIn m l (many l).toNat then 0 else 14) else 13) else a
def wSl0 (m : Im) (a : Int) : Int:=fnz [ckI m,if m.bx.length = 1 then 13 else 0,if a < 0 ∨ a ≥ m.bx.length then 3 else 0]
def wSlE (m : Im) (a b : Int) : Int:=if wSl0 m a = 0 then (match m.bx[a.toNat]? with | some r => if b < r.lo ∨ b ≥ r.lo + r.ex then 14 else 0 | none => 0) else wSl0 m a
def wTrE (m : Im) (a b : Int) : Int:=fnz [ckI m,if a < 0 ∨ a ≥ m.bx.length ∨ b < 0 ∨ b ≥ m.bx.length then 3 else 0]
def wDense (m : Im) : Im:=if ckI m = 0 then dnI m.kd true m.bx (many m.bx).toNat (atI m) else im0
def wCrop (m : Im) (l : Bx) : Im:=if wCropE m l = 0 then dnI m.kd true l (many l).toNat (atI m) else im0
def wSlice (m : Im) (a b : Int) : Im:=if wSlE m a b = 0 then dnI m.kd true (m.bx.eraseIdx a.toNat) (many (m.bx.eraseIdx a.toNat)).toNat (fun p => atI m (insP a.toNat b p)) else im0
def wTrans (m : Im) (a b : Int) : Im:=if wTrE m a b = 0 then dnI m.kd true (swp m.bx a.toNat b.toNat) (many (swp m.bx a.toNat b.toNat)).toNat (fun p => atI m (swp p a.toNat b.toNat)) else im0
def Alike (m o : Im) : Prop:=o.kd = m.kd ∧ o.bx = m.bx ∧ o.st = m.st ∧ o.dt = m.dt ∧ m.bx.length < 1000000 ∧ m.st.length < 1000000 ∧ m.dt.length < 1000000
theorem alike_dn (kd : Int) (b c : Bool) (l : Bx) (N : Nat) (F : List Int → Int) (h3 : l.length ≤ 3) (hN : N < 1000000) : Alike (dnI kd b l N F) (dnI kd c l N F) :=
  ⟨rfl,rfl,rfl,rfl,by show l.length < _; omega,by show (strides 1 l).length < _; rw [strides_len]; omega,by simp [dnI]; exact hN⟩
theorem alike_im0 : Alike im0 im0:=⟨rfl,rfl,rfl,rfl,by decide,by decide,by decide⟩
theorem lt_one' {l : Bx} (h : Okr l) (h3 : l.length ≤ 3) : ∃ N : Nat,many l = N ∧ N < 1000000:=by
  obtain ⟨h1,h2⟩:=many_nn h3 h
  exact ⟨(many l).toNat,by omega,by omega⟩
theorem cropE (m : Im) (l : Bx) : (cropR m l).2 = wCropE m l ∧ Alike (cropR m l).1 (wCrop m l):=by
  unfold wCrop cropR wCropE ckC1
  by_cases h : fnz [ckI m,ckBox l] = 0
  · have g1:=fz0 _ h (ckI m) (by simp)
    have g2:=fz0 _ h (ckBox l) (by simp)
    obtain ⟨M,G⟩:=good_of g1
    obtain ⟨k1,k2,k3,k4⟩:=ckBox0 g2
    obtain ⟨N,hN,hN2⟩:=many_nat g2
    have hNt : (many l).toNat = N:=by omega
    rw [g1,g2,hNt]
    by_cases hl : l.length = m.bx.length
    · have hc:=crop_all G.okr k3 k2 hl hN
      simp only [fnz,hl,if_true,hN] at hc ⊢
      by_cases ha : allIn m l N = true
      · rw [if_neg (fun h => hc.1 h ha),if_pos ha]
        exact ⟨rfl,by rw [if_pos rfl]; exact alike_dn _ _ _ _ _ _ k2 (by omega)⟩
      · rw [if_pos (hc.2 ha),if_neg ha]
        exact ⟨rfl,by rw [if_neg (by decide)]; exact alike_im0⟩
    · simp only [fnz,hl,if_true,if_false,show ¬ (13 : Int) = 0 by decide]
      exact ⟨trivial,alike_im0⟩
  · have e : fnz [ckI m,ckBox l,if l.length = m.bx.length then 0 else 13] = fnz [ckI m,ckBox l]:=by
      by_cases a : ckI m = 0
      · by_cases b : ckBox l = 0
        · exact absurd (by simp [fnz,a,b]) h
        · simp [fnz,a,b]
      · simp [fnz,a]
    rw [e]
    simp only [h,if_false]
    exact ⟨trivial,alike_im0⟩
theorem sliceE (m : Im) (a b : Int) : (sliceR m a b).2 = wSlE m a b ∧ Alike (sliceR m a b).1 (wSlice m a b):=by
  have e : ckS1 m a = wSl0 m a:=by
    unfold ckS1 wSl0
    congr 3
    by_cases h : a < 0 ∨ a ≥ m.bx.length
    · rw [if_pos h,if_neg (by omega)]
    · rw [if_neg h,if_pos (by omega)]
  unfold sliceR wSlice wSlE
  rw [e]
  by_cases h : wSl0 m a = 0
  · have g1:=fz0 _ h (ckI m) (by simp)
    have g2:=fz0 _ h (if m.bx.length = 1 then 13 else 0) (by simp)
    have g3:=fz0 _ h (if a < 0 ∨ a ≥ m.bx.length then 3 else 0) (by simp)
    have g2 : m.bx.length ≠ 1:=by intro h; rw [if_pos h] at g2; omega
    have g3 : ¬ (a < 0 ∨ a ≥ m.bx.length):=by split at g3; omega; assumption
    obtain ⟨M,G⟩:=good_of g1
    simp only [h,if_true]
    rcases hr : m.bx[a.toNat]? with _ | r
    · rw [List.getElem?_eq_none_iff] at hr; omega
    simp only []
    by_cases hb : b < r.lo ∨ b ≥ r.lo + r.ex
    · have hb' : ¬ (r.lo ≤ b ∧ b ≤ r.lo + r.ex - 1):=by omega
      simp only [hb,hb',if_true,if_false]
      exact ⟨trivial,alike_im0⟩
    · have hb' : r.lo ≤ b ∧ b ≤ r.lo + r.ex - 1:=by omega
      simp only [hb,hb',and_self,if_true,if_false]
      have hel : (m.bx.eraseIdx a.toNat).length ≤ 3:=Nat.le_trans (List.length_eraseIdx_le _ _) G.len3
      obtain ⟨N,hN,hN2⟩:=lt_one' (erase_okr G.okr a.toNat) hel
      exact ⟨trivial,alike_dn _ _ _ _ _ _ hel (by omega)⟩
  · simp only [h,if_false]
    exact ⟨trivial,alike_im0⟩
theorem transE (m : Im) (a b : Int) : (transR m a b).2 = wTrE m a b ∧ Alike (transR m a b).1 (wTrans m a b):=by
  have e : ckT1 m a b = wTrE m a b:=by
    unfold ckT1 wTrE
    by_cases h1 : 0 ≤ a ∧ a ≤ (m.bx.length : Int) - 1
    · by_cases h2 : 0 ≤ b ∧ b ≤ (m.bx.length : Int) - 1
      · rw [if_pos h1,if_pos h2,if_neg (by omega)]; simp [fnz]
      · rw [if_pos h1,if_neg h2,if_pos (by omega)]; simp [fnz]
    · have h2 : a < 0 ∨ a ≥ m.bx.length ∨ b < 0 ∨ b ≥ m.bx.length:=by omega
      rw [if_neg h1,if_pos h2]; simp [fnz]
  unfold transR wTrans
  rw [e]
  by_cases h : wTrE m a b = 0
  · have g1:=fz0 _ h (ckI m) (by simp)
    obtain ⟨M,G⟩:=good_of g1
    simp only [h,if_true]
    have hel : (swp m.bx a.toNat b.toNat).length ≤ 3:=by rw [swp_len]; exact G.len3
    obtain ⟨N,hN,hN2⟩:=lt_one' (swp_okr G.okr a.toNat b.toNat) hel
    exact ⟨trivial,alike_dn _ _ _ _ _ _ hel (by omega)⟩
  · simp only [h,if_false]
    exact ⟨trivial,alike_im0⟩
theorem denseE (m : Im) : Alike (if ckI m = 0 then dnI m.kd false m.bx (many m.bx).toNat (atI m) else im0) (wDense m):=by
  unfold wDense
  by_cases h : ckI m = 0
  · obtain ⟨M,G⟩:=good_of h
    rw [if_pos h,if_pos h]
    exact alike_dn _ _ _ _ _ _ G.len3 (by have:=G.many; have:=G.small; omega)
  · rw [if_neg h,if_neg h]; exact alike_im0
end Go.Vm.P4Z

/- Chapter 04: the law ImageEdges,given the examples. -/
set_option maxRecDepth 100000
set_option maxHeartbeats 4000000
namespace Go.Vm.P4Z
open Go Go.Vm Go.Vm.P4
theorem shortI_len {m : Im} (h : shortI m = true) : m.bx.length ≤ 4 ∧ m.st.length ≤ 5 ∧ m.dt.length ≤ 200:=by
  simp [shortI] at h
  omega
theorem ckPts_own (m : Im) : ∀ (l : List Nat) (T : List Int),ckPts m.own T l = ckPts m T l
  | [],_ => rfl
  | i :: l,T => by
    unfold ckPts
    rw [ckPts_own m l]
    rfl
theorem ckI_own (m : Im) : ckI m.own = ckI m:=by
  unfold ckI ckIm
  rw [ckPts_own]
  rfl
end Go.Vm.P4Z

/- Chapter 04: the law ImageParts,given the examples (printed by gen4p.py). -/
set_option maxRecDepth 100000
set_option maxHeartbeats 8000000
namespace Go.Vm.P4Z
open Go Go.Vm Go.Vm.P4
theorem seq_step {lo : Lower} {cx : Cx} {a b : IR} {s s' : S} (h : aCode lo cx a s = some (.normal,s')) : aCode lo cx (.seq a b) s = aCode lo cx b s':=by rw [ac_seq,h]; rfl
theorem ckC1_own (m : Im) (l : Bx) : ckC1 m.own l = ckC1 m l:=by unfold ckC1; rw [ckI_own]; rfl
theorem cropR_own (m : Im) (l : Bx) : cropR m.own l = cropR m l:=by unfold cropR; rw [ckC1_own]; rfl
theorem sliceR_own (m : Im) (x y : Int) : sliceR m.own x y = sliceR m x y:=by unfold sliceR ckS1; rw [ckI_own]; rfl
theorem transR_own (m : Im) (x y : Int) : transR m.own x y = transR m x y:=by unfold transR ckT1; rw [ckI_own]; rfl
theorem okAlike (n : Nat) {m o : Im} (h : Alike m o) : callP (level E (n+2)) 18 [enIm m,enIm o] = some (.bool true):=by
  obtain ⟨h1,h2,h3,h4,h5,h6,h7⟩:=h
  exact okSameImage n m o h1 h2 h3 h4 h5 h6 h7
theorem partsS (n : Nat) (hA : callP (level E (n+60)) 8 [] = some (.bool true)) (m d c s t : Im) (b : Bool) (l : Bx) (x y ed ec es et : Int) (hv : Ok64 m.dt) (lx : m.bx.length < 1000000) (ls : m.st.length < 1000000) (ld : m.dt.length < 1000000) (ll : l.length < 1000000)
    (s1 : callP (level E (n+60)) 7 [enIm m] = some (.bool true)) (s2 : callP (level E (n+60)) 23 [enB b l] = some (.bool true))
    (dn : callP (level E (n+60)) 24 [enIm m.own] = some (.tup [enIm d,.int .i64 ed])) (cr : callP (level E (n+60)) 25 [enIm m.own,enB true l] = some (.tup [enIm c,.int .i64 ec]))
    (sl : callP (level E (n+60)) 27 [enIm m.own,.int .i64 x,.int .i64 y] = some (.tup [enIm s,.int .i64 es])) (tr : callP (level E (n+60)) 28 [enIm m.own,.int .i64 x,.int .i64 y] = some (.tup [enIm t,.int .i64 et]))
    (ad : Alike d (wDense m) ∧ ed = ckI m) (ac : Alike c (wCrop m l) ∧ ec = wCropE m l) (asl : Alike s (wSlice m x y) ∧ es = wSlE m x y) (at' : Alike t (wTrans m x y) ∧ et = wTrE m x y)
    (wd : ckI m = 0 → callP (level E (n+60)) 33 [enIm m] = some (enIm (wDense m))) (wc : wCropE m l = 0 → callP (level E (n+60)) 34 [enIm m,enB b l] = some (enIm (wCrop m l)))
    (ws : wSlE m x y = 0 → callP (level E (n+60)) 35 [enIm m,.int .i64 x,.int .i64 y] = some (enIm (wSlice m x y))) (wt : wTrE m x y = 0 → callP (level E (n+60)) 36 [enIm m,.int .i64 x,.int .i64 y] = some (enIm (wTrans m x y))) :
    callP (level E (n+61)) 5 [enIm m,enB b l,.agg [.int .i64 x,.int .i64 y]] = some (.bool true):=by
  obtain ⟨ad,rfl⟩:=ad
  obtain ⟨ac,rfl⟩:=ac
  obtain ⟨asl,rfl⟩:=asl
  obtain ⟨at',rfl⟩:=at'
  have o1:=okOwnImage (n+58) m lx ls ld
  have o2:=okOwnBox (n+59) b l ll
  have ck:=okRCheck (n+55) m lx ls ld hv
  have rb:=okRCheckBox (n+58) b l ll
  have f2 : callP (level E (n+60)) 29 [.sl 1 [[.int .i64 (ckI m)],[.int .i64 (ckBox l)]]] = some (.int .i64 (fnz [ckI m,ckBox l])):=okQFirstL (n+59) _ [ckI m,ckBox l] rfl (by simp)
  have w13 : callP (level E (n+60)) 32 [.bool (decide ((m.bx.length : Int) = 1)),.int .i64 13] = some (.int .i64 (if m.bx.length = 1 then 13 else 0)):=by
    rw [okQWhen (n+59)]
    by_cases h : m.bx.length = 1
    · simp [h]
    · have : ¬ (m.bx.length : Int) = 1:=by omega
      simp [h,this]
  have w3:=okQWhen (n+59) true 3
  have w0:=okQWhen (n+59) false 3
  have w14:=okQWhen (n+59) true 14
  have w140:=okQWhen (n+59) false 14
  have f3 : ∀ z : Int,z = (if x < 0 ∨ x ≥ m.bx.length then 3 else 0) → callP (level E (n+60)) 29 [.sl 1 [[.int .i64 (ckI m)],[.int .i64 (if m.bx.length = 1 then 13 else 0)],[.int .i64 z]]] = some (.int .i64 (wSl0 m x)):=by
    intro z hz; rw [wSl0,← hz]; exact okQFirstL (n+59) _ [ckI m,if m.bx.length = 1 then 13 else 0,z] rfl (by simp)
  have f4 : ∀ z : Int,z = (if x < 0 ∨ x ≥ m.bx.length ∨ y < 0 ∨ y ≥ m.bx.length then 3 else 0) → callP (level E (n+60)) 29 [.sl 1 [[.int .i64 (ckI m)],[.int .i64 z]]] = some (.int .i64 (wTrE m x y)):=by
    intro z hz; rw [wTrE,← hz]; exact okQFirstL (n+59) _ [ckI m,z] rfl (by simp)
  generalize (if m.bx.length = 1 then 13 else 0 : Int) = x13 at w13 f3
  have ad1:=okAlike (n+58) ad
  have ac1:=okAlike (n+58) ac
  have as1:=okAlike (n+58) asl
  have at1:=okAlike (n+58) at'
  simp only [enIm,enB,Im.own] at s1 s2 o1 o2 dn cr sl tr ck rb ad1 ac1 as1 at1
  simp only [Bool.false_eq_true,if_true,if_false] at w3 w0 w14 w140
  rw [p5]
  unfold c5
  rw [seq_step (s':=⟨[.imm (enIm m),.imm (enB b l),.imm (.agg [.int .i64 x,.int .i64 y]),.imm (.bool false),.ptr 0 0,.ptr 1 0,.junk,.junk,.junk,.junk,.junk,.junk,.junk,.junk,.junk,.junk,.junk,.junk,.junk,.junk,.junk,.junk,.junk,.junk,.junk,.junk,.junk,.junk,.junk,.junk],[boxI m,.box [.imm (.int .i64 x),.imm (.int .i64 y)]],none⟩)]
  rotate_left
  · simp only [go_sem,Nat.reduceAdd,Nat.reduceSub,Nat.reduceMul,Nat.reduceDiv,Nat.reduceMod,Nat.reduceLeDiff,Nat.reduceLT,Nat.reduceBEq,Int.reduceToNat,Int.reduceLT,Int.reduceLE,Int.reduceEq,enIm,enB]
  rw [seq_step (s':=⟨[.imm (enIm m),.imm (enB b l),.imm (.agg [.int .i64 x,.int .i64 y]),.imm (.bool false),.ptr 0 0,.ptr 1 0,.junk,.junk,.junk,.junk,.junk,.junk,.junk,.junk,.junk,.junk,.junk,.junk,.junk,.junk,.junk,.junk,.junk,.imm (.bool false),.junk,.junk,.junk,.junk,.junk,.junk],[boxI m,.box [.imm (.int .i64 x),.imm (.int .i64 y)]],none⟩)]
  rotate_left
  · simp only [go_sem,Nat.reduceAdd,Nat.reduceSub,Nat.reduceMul,Nat.reduceDiv,Nat.reduceMod,Nat.reduceLeDiff,Nat.reduceLT,Nat.reduceBEq,Int.reduceToNat,Int.reduceLT,Int.reduceLE,Int.reduceEq,enIm,enB,s1,s2]
  rw [seq_step (s':=⟨[.imm (enIm m),.imm (enB b l),.imm (.agg [.int .i64 x,.int .i64 y]),.imm (.bool false),.ptr 0 0,.ptr 1 0,.ptr 2 0,.imm (.int .i64 (ckI m)),.junk,.junk,.junk,.junk,.junk,.junk,.junk,.junk,.junk,.junk,.junk,.junk,.junk,.junk,.junk,.imm (.bool false),.junk,.junk,.junk,.junk,.junk,.junk],[boxI m,.box [.imm (.int .i64 x),.imm (.int .i64 y)],boxI d],none⟩)]
  rotate_left
  · simp only [go_sem,Nat.reduceAdd,Nat.reduceSub,Nat.reduceMul,Nat.reduceDiv,Nat.reduceMod,Nat.reduceLeDiff,Nat.reduceLT,Nat.reduceBEq,Int.reduceToNat,Int.reduceLT,Int.reduceLE,Int.reduceEq,enIm,enB,Im.own,o1,dn]
  rw [seq_step (s':=⟨[.imm (enIm m),.imm (enB b l),.imm (.agg [.int .i64 x,.int .i64 y]),.imm (.bool false),.ptr 0 0,.ptr 1 0,.ptr 2 0,.imm (.int .i64 (ckI m)),.ptr 3 0,.imm (.int .i64 (wCropE m l)),.junk,.junk,.junk,.junk,.junk,.junk,.junk,.junk,.junk,.junk,.junk,.junk,.junk,.imm (.bool false),.junk,.junk,.junk,.junk,.junk,.junk],[boxI m,.box [.imm (.int .i64 x),.imm (.int .i64 y)],boxI d,boxI c],none⟩)]
  rotate_left
  · simp only [go_sem,Nat.reduceAdd,Nat.reduceSub,Nat.reduceMul,Nat.reduceDiv,Nat.reduceMod,Nat.reduceLeDiff,Nat.reduceLT,Nat.reduceBEq,Int.reduceToNat,Int.reduceLT,Int.reduceLE,Int.reduceEq,enIm,enB,Im.own,o1,o2,cr]
  rw [seq_step (s':=⟨[.imm (enIm m),.imm (enB b l),.imm (.agg [.int .i64 x,.int .i64 y]),.imm (.bool false),.ptr 0 0,.ptr 1 0,.ptr 2 0,.imm (.int .i64 (ckI m)),.ptr 3 0,.imm (.int .i64 (wCropE m l)),.ptr 4 0,.imm (.int .i64 (wSlE m x y)),.junk,.junk,.junk,.junk,.junk,.junk,.junk,.junk,.junk,.junk,.junk,.imm (.bool false),.junk,.junk,.junk,.junk,.junk,.junk],[boxI m,.box [.imm (.int .i64 x),.imm (.int .i64 y)],boxI d,boxI c,boxI s],none⟩)]
  rotate_left
  · simp only [go_sem,Nat.reduceAdd,Nat.reduceSub,Nat.reduceMul,Nat.reduceDiv,Nat.reduceMod,Nat.reduceLeDiff,Nat.reduceLT,Nat.reduceBEq,Int.reduceToNat,Int.reduceLT,Int.reduceLE,Int.reduceEq,enIm,enB,Im.own,o1,sl]
  rw [seq_step (s':=⟨[.imm (enIm m),.imm (enB b l),.imm (.agg [.int .i64 x,.int .i64 y]),.imm (.bool false),.ptr 0 0,.ptr 1 0,.ptr 2 0,.imm (.int .i64 (ckI m)),.ptr 3 0,.imm (.int .i64 (wCropE m l)),.ptr 4 0,.imm (.int .i64 (wSlE m x y)),.ptr 5 0,.imm (.int .i64 (wTrE m x y)),.junk,.junk,.junk,.junk,.junk,.junk,.junk,.junk,.junk,.imm (.bool false),.junk,.junk,.junk,.junk,.junk,.junk],[boxI m,.box [.imm (.int .i64 x),.imm (.int .i64 y)],boxI d,boxI c,boxI s,boxI t],none⟩)]
  rotate_left
  · simp only [go_sem,Nat.reduceAdd,Nat.reduceSub,Nat.reduceMul,Nat.reduceDiv,Nat.reduceMod,Nat.reduceLeDiff,Nat.reduceLT,Nat.reduceBEq,Int.reduceToNat,Int.reduceLT,Int.reduceLE,Int.reduceEq,enIm,enB,Im.own,o1,tr]
  rw [seq_step (s':=⟨[.imm (enIm m),.imm (enB b l),.imm (.agg [.int .i64 x,.int .i64 y]),.imm (.bool false),.ptr 0 0,.ptr 1 0,.ptr 2 0,.imm (.int .i64 (ckI m)),.ptr 3 0,.imm (.int .i64 (wCropE m l)),.ptr 4 0,.imm (.int .i64 (wSlE m x y)),.ptr 5 0,.imm (.int .i64 (wTrE m x y)),.imm (.int .i64 (ckI m)),.junk,.junk,.junk,.junk,.junk,.junk,.junk,.junk,.imm (.bool false),.junk,.junk,.junk,.junk,.junk,.junk],[boxI m,.box [.imm (.int .i64 x),.imm (.int .i64 y)],boxI d,boxI c,boxI s,boxI t],none⟩)]
  rotate_left
  · simp only [go_sem,Nat.reduceAdd,Nat.reduceSub,Nat.reduceMul,Nat.reduceDiv,Nat.reduceMod,Nat.reduceLeDiff,Nat.reduceLT,Nat.reduceBEq,Int.reduceToNat,Int.reduceLT,Int.reduceLE,Int.reduceEq,enIm,enB,ck]
  rw [seq_step (s':=⟨[.imm (enIm m),.imm (enB b l),.imm (.agg [.int .i64 x,.int .i64 y]),.imm (.bool false),.ptr 0 0,.ptr 1 0,.ptr 2 0,.imm (.int .i64 (ckI m)),.ptr 3 0,.imm (.int .i64 (wCropE m l)),.ptr 4 0,.imm (.int .i64 (wSlE m x y)),.ptr 5 0,.imm (.int .i64 (wTrE m x y)),.imm (.int .i64 (ckI m)),.imm (.int .i64 (fnz [ckI m,ckBox l])),.junk,.junk,.junk,.junk,.junk,.junk,.junk,.imm (.bool false),.junk,.junk,.junk,.junk,.junk,.junk],[boxI m,.box [.imm (.int .i64 x),.imm (.int .i64 y)],boxI d,boxI c,boxI s,boxI t],none⟩)]
  rotate_left
  · simp only [go_sem,Nat.reduceAdd,Nat.reduceSub,Nat.reduceMul,Nat.reduceDiv,Nat.reduceMod,Nat.reduceLeDiff,Nat.reduceLT,Nat.reduceBEq,Int.reduceToNat,Int.reduceLT,Int.reduceLE,Int.reduceEq,enIm,enB,rb,f2]
  rw [seq_step (s':=⟨[.imm (enIm m),.imm (enB b l),.imm (.agg [.int .i64 x,.int .i64 y]),.imm (.bool false),.ptr 0 0,.ptr 1 0,.ptr 2 0,.imm (.int .i64 (ckI m)),.ptr 3 0,.imm (.int .i64 (wCropE m l)),.ptr 4 0,.imm (.int .i64 (wSlE m x y)),.ptr 5 0,.imm (.int .i64 (wTrE m x y)),.imm (.int .i64 (ckI m)),.imm (.int .i64 (wCropE m l)),.junk,.junk,.junk,.junk,.junk,.junk,.junk,.imm (.bool false),.imm (.bool (decide (fnz [ckI m,ckBox l] = 0))),.junk,.junk,.junk,.junk,.junk],[boxI m,.box [.imm (.int .i64 x),.imm (.int .i64 y)],boxI d,boxI c,boxI s,boxI t],none⟩)]
  rotate_left
  · unfold wCropE
    by_cases h : fnz [ckI m,ckBox l] = 0
    · have g2:=fz0 _ h (ckBox l) (by simp)
      obtain ⟨k1,k2,k3,k4⟩:=ckBox0 g2
      obtain ⟨N,hN,hN2⟩:=many_nat g2
      have cc:=okRCheckCrop (n+58) m b l k3 k2 N hN (by omega) lx
      have hNt : (many l).toNat = N:=by omega
      simp only [enIm,enB] at cc
      simp only [go_sem,Nat.reduceAdd,Nat.reduceSub,Nat.reduceMul,Nat.reduceDiv,Nat.reduceMod,Nat.reduceLeDiff,Nat.reduceLT,Nat.reduceBEq,Int.reduceToNat,Int.reduceLT,Int.reduceLE,Int.reduceEq,enIm,enB,h,cc,hNt]
    · simp only [go_sem,Nat.reduceAdd,Nat.reduceSub,Nat.reduceMul,Nat.reduceDiv,Nat.reduceMod,Nat.reduceLeDiff,Nat.reduceLT,Nat.reduceBEq,Int.reduceToNat,Int.reduceLT,Int.reduceLE,Int.reduceEq,enIm,enB,h]
  rw [seq_step (s':=⟨[.imm (enIm m),.imm (enB b l),.imm (.agg [.int .i64 x,.int .i64 y]),.imm (.bool false),.ptr 0 0,.ptr 1 0,.ptr 2 0,.imm (.int .i64 (ckI m)),.ptr 3 0,.imm (.int .i64 (wCropE m l)),.ptr 4 0,.imm (.int .i64 (wSlE m x y)),.ptr 5 0,.imm (.int .i64 (wTrE m x y)),.imm (.int .i64 (ckI m)),.imm (.int .i64 (wCropE m l)),.imm (.int .i64 m.bx.length),.junk,.junk,.junk,.junk,.junk,.junk,.imm (.bool false),.imm (.bool (decide (fnz [ckI m,ckBox l] = 0))),.junk,.junk,.junk,.junk,.junk],[boxI m,.box [.imm (.int .i64 x),.imm (.int .i64 y)],boxI d,boxI c,boxI s,boxI t],none⟩)]
  rotate_left
  · simp only [go_sem,Nat.reduceAdd,Nat.reduceSub,Nat.reduceMul,Nat.reduceDiv,Nat.reduceMod,Nat.reduceLeDiff,Nat.reduceLT,Nat.reduceBEq,Int.reduceToNat,Int.reduceLT,Int.reduceLE,Int.reduceEq,enIm,enB]
  rw [seq_step (s':=⟨[.imm (enIm m),.imm (enB b l),.imm (.agg [.int .i64 x,.int .i64 y]),.imm (.bool false),.ptr 0 0,.ptr 1 0,.ptr 2 0,.imm (.int .i64 (ckI m)),.ptr 3 0,.imm (.int .i64 (wCropE m l)),.ptr 4 0,.imm (.int .i64 (wSlE m x y)),.ptr 5 0,.imm (.int .i64 (wTrE m x y)),.imm (.int .i64 (ckI m)),.imm (.int .i64 (wCropE m l)),.imm (.int .i64 m.bx.length),.imm (.int .i64 (wSl0 m x)),.junk,.junk,.junk,.junk,.junk,.imm (.bool false),.imm (.bool (decide (fnz [ckI m,ckBox l] = 0))),.junk,.junk,.junk,.junk,.junk],[boxI m,.box [.imm (.int .i64 x),.imm (.int .i64 y)],boxI d,boxI c,boxI s,boxI t],none⟩)]
  rotate_left
  · by_cases a1 : x < 0
    · have f:=f3 3 (by rw [if_pos (by omega)])
      simp only [go_sem,Nat.reduceAdd,Nat.reduceSub,Nat.reduceMul,Nat.reduceDiv,Nat.reduceMod,Nat.reduceLeDiff,Nat.reduceLT,Nat.reduceBEq,Int.reduceToNat,Int.reduceLT,Int.reduceLE,Int.reduceEq,enIm,enB,a1,w13,w3,f]
    · by_cases a2 : x ≥ m.bx.length
      · have f:=f3 3 (by rw [if_pos (by omega)])
        have a2':=a2
        simp only [go_sem,Nat.reduceAdd,Nat.reduceSub,Nat.reduceMul,Nat.reduceDiv,Nat.reduceMod,Nat.reduceLeDiff,Nat.reduceLT,Nat.reduceBEq,Int.reduceToNat,Int.reduceLT,Int.reduceLE,Int.reduceEq,enIm,enB,a1,a2,w13,w3,f]
      · have f:=f3 0 (by rw [if_neg (by omega)])
        simp only [go_sem,Nat.reduceAdd,Nat.reduceSub,Nat.reduceMul,Nat.reduceDiv,Nat.reduceMod,Nat.reduceLeDiff,Nat.reduceLT,Nat.reduceBEq,Int.reduceToNat,Int.reduceLT,Int.reduceLE,Int.reduceEq,enIm,enB,a1,a2,w13,w0,f]
  rw [seq_step (s':=⟨[.imm (enIm m),.imm (enB b l),.imm (.agg [.int .i64 x,.int .i64 y]),.imm (.bool false),.ptr 0 0,.ptr 1 0,.ptr 2 0,.imm (.int .i64 (ckI m)),.ptr 3 0,.imm (.int .i64 (wCropE m l)),.ptr 4 0,.imm (.int .i64 (wSlE m x y)),.ptr 5 0,.imm (.int .i64 (wTrE m x y)),.imm (.int .i64 (ckI m)),.imm (.int .i64 (wCropE m l)),.imm (.int .i64 m.bx.length),.imm (.int .i64 (wSlE m x y)),.junk,.junk,.junk,.junk,.junk,.imm (.bool false),.imm (.bool (decide (fnz [ckI m,ckBox l] = 0))),.imm (.bool (decide (wSl0 m x = 0))),.junk,.junk,.junk,.junk],[boxI m,.box [.imm (.int .i64 x),.imm (.int .i64 y)],boxI d,boxI c,boxI s,boxI t],none⟩)]
  rotate_left
  · unfold wSlE
    by_cases h : wSl0 m x = 0
    · have g1:=fz0 _ h (ckI m) (by simp)
      have g3:=fz0 _ h (if x < 0 ∨ x ≥ m.bx.length then 3 else 0) (by simp)
      have g3 : ¬ (x < 0 ∨ x ≥ m.bx.length):=by split at g3; omega; assumption
      obtain ⟨M,G⟩:=good_of g1
      obtain ⟨k,rfl⟩ : ∃ k : Nat,x = k:=⟨x.toNat,by omega⟩
      have hk : k < m.bx.length:=by omega
      rcases hr : m.bx[k]? with _ | r
      · rw [List.getElem?_eq_none_iff] at hr; omega
      have hr0:=ckRange0 (G.okr r (List.mem_of_getElem? hr))
      have wa : wrp .i64 (r.lo + r.ex) = r.lo + r.ex:=wrp_ok (by omega)
      simp only [h,if_true,Int.toNat_natCast,hr]
      by_cases b1 : y < r.lo
      · simp only [go_sem,Nat.reduceAdd,Nat.reduceSub,Nat.reduceMul,Nat.reduceDiv,Nat.reduceMod,Nat.reduceLeDiff,Nat.reduceLT,Nat.reduceBEq,Int.reduceToNat,Int.reduceLT,Int.reduceLE,Int.reduceEq,enIm,enB,h,hr,b1,w14,true_or]
      · by_cases b2 : y ≥ r.lo + r.ex
        · simp only [go_sem,Nat.reduceAdd,Nat.reduceSub,Nat.reduceMul,Nat.reduceDiv,Nat.reduceMod,Nat.reduceLeDiff,Nat.reduceLT,Nat.reduceBEq,Int.reduceToNat,Int.reduceLT,Int.reduceLE,Int.reduceEq,enIm,enB,h,hr,b1,wa,b2,w14,or_true]
        · simp only [go_sem,Nat.reduceAdd,Nat.reduceSub,Nat.reduceMul,Nat.reduceDiv,Nat.reduceMod,Nat.reduceLeDiff,Nat.reduceLT,Nat.reduceBEq,Int.reduceToNat,Int.reduceLT,Int.reduceLE,Int.reduceEq,enIm,enB,h,hr,b1,wa,b2,w140,or_self]
    · simp only [go_sem,Nat.reduceAdd,Nat.reduceSub,Nat.reduceMul,Nat.reduceDiv,Nat.reduceMod,Nat.reduceLeDiff,Nat.reduceLT,Nat.reduceBEq,Int.reduceToNat,Int.reduceLT,Int.reduceLE,Int.reduceEq,enIm,enB,h,if_false]
  rw [seq_step (s':=⟨[.imm (enIm m),.imm (enB b l),.imm (.agg [.int .i64 x,.int .i64 y]),.imm (.bool false),.ptr 0 0,.ptr 1 0,.ptr 2 0,.imm (.int .i64 (ckI m)),.ptr 3 0,.imm (.int .i64 (wCropE m l)),.ptr 4 0,.imm (.int .i64 (wSlE m x y)),.ptr 5 0,.imm (.int .i64 (wTrE m x y)),.imm (.int .i64 (ckI m)),.imm (.int .i64 (wCropE m l)),.imm (.int .i64 m.bx.length),.imm (.int .i64 (wSlE m x y)),.imm (.int .i64 (wTrE m x y)),.junk,.junk,.junk,.junk,.imm (.bool false),.imm (.bool (decide (fnz [ckI m,ckBox l] = 0))),.imm (.bool (decide (wSl0 m x = 0))),.junk,.junk,.junk,.junk],[boxI m,.box [.imm (.int .i64 x),.imm (.int .i64 y)],boxI d,boxI c,boxI s,boxI t],none⟩)]
  rotate_left
  · by_cases a1 : x < 0
    · have f:=f4 3 (by rw [if_pos (by omega)])
      simp only [go_sem,Nat.reduceAdd,Nat.reduceSub,Nat.reduceMul,Nat.reduceDiv,Nat.reduceMod,Nat.reduceLeDiff,Nat.reduceLT,Nat.reduceBEq,Int.reduceToNat,Int.reduceLT,Int.reduceLE,Int.reduceEq,enIm,enB,a1,w3,f]
    · by_cases a2 : x ≥ m.bx.length
      · have f:=f4 3 (by rw [if_pos (by omega)])
        simp only [go_sem,Nat.reduceAdd,Nat.reduceSub,Nat.reduceMul,Nat.reduceDiv,Nat.reduceMod,Nat.reduceLeDiff,Nat.reduceLT,Nat.reduceBEq,Int.reduceToNat,Int.reduceLT,Int.reduceLE,Int.reduceEq,enIm,enB,a1,a2,w3,f]
      · by_cases a3 : y < 0
        · have f:=f4 3 (by rw [if_pos (by omega)])
          simp only [go_sem,Nat.reduceAdd,Nat.reduceSub,Nat.reduceMul,Nat.reduceDiv,Nat.reduceMod,Nat.reduceLeDiff,Nat.reduceLT,Nat.reduceBEq,Int.reduceToNat,Int.reduceLT,Int.reduceLE,Int.reduceEq,enIm,enB,a1,a2,a3,w3,f]
        · by_cases a4 : y ≥ m.bx.length
          · have f:=f4 3 (by rw [if_pos (by omega)])
            simp only [go_sem,Nat.reduceAdd,Nat.reduceSub,Nat.reduceMul,Nat.reduceDiv,Nat.reduceMod,Nat.reduceLeDiff,Nat.reduceLT,Nat.reduceBEq,Int.reduceToNat,Int.reduceLT,Int.reduceLE,Int.reduceEq,enIm,enB,a1,a2,a3,a4,w3,f]
          · have f:=f4 0 (by rw [if_neg (by omega)])
            simp only [go_sem,Nat.reduceAdd,Nat.reduceSub,Nat.reduceMul,Nat.reduceDiv,Nat.reduceMod,Nat.reduceLeDiff,Nat.reduceLT,Nat.reduceBEq,Int.reduceToNat,Int.reduceLT,Int.reduceLE,Int.reduceEq,enIm,enB,a1,a2,a3,a4,w0,f]
  rw [seq_step (s':=⟨[.imm (enIm m),.imm (enB b l),.imm (.agg [.int .i64 x,.int .i64 y]),.imm (.bool false),.ptr 0 0,.ptr 1 0,.ptr 2 0,.imm (.int .i64 (ckI m)),.ptr 3 0,.imm (.int .i64 (wCropE m l)),.ptr 4 0,.imm (.int .i64 (wSlE m x y)),.ptr 5 0,.imm (.int .i64 (wTrE m x y)),.imm (.int .i64 (ckI m)),.imm (.int .i64 (wCropE m l)),.imm (.int .i64 m.bx.length),.imm (.int .i64 (wSlE m x y)),.imm (.int .i64 (wTrE m x y)),.ptr 6 0,.ptr 7 0,.ptr 8 0,.ptr 9 0,.imm (.bool false),.imm (.bool (decide (fnz [ckI m,ckBox l] = 0))),.imm (.bool (decide (wSl0 m x = 0))),.junk,.junk,.junk,.junk],[boxI m,.box [.imm (.int .i64 x),.imm (.int .i64 y)],boxI d,boxI c,boxI s,boxI t,boxZ,boxZ,boxZ,boxZ],none⟩)]
  rotate_left
  · simp only [go_sem,Nat.reduceAdd,Nat.reduceSub,Nat.reduceMul,Nat.reduceDiv,Nat.reduceMod,Nat.reduceLeDiff,Nat.reduceLT,Nat.reduceBEq,Int.reduceToNat,Int.reduceLT,Int.reduceLE,Int.reduceEq,enIm,enB]
  rw [seq_step (s':=⟨[.imm (enIm m),.imm (enB b l),.imm (.agg [.int .i64 x,.int .i64 y]),.imm (.bool false),.ptr 0 0,.ptr 1 0,.ptr 2 0,.imm (.int .i64 (ckI m)),.ptr 3 0,.imm (.int .i64 (wCropE m l)),.ptr 4 0,.imm (.int .i64 (wSlE m x y)),.ptr 5 0,.imm (.int .i64 (wTrE m x y)),.imm (.int .i64 (ckI m)),.imm (.int .i64 (wCropE m l)),.imm (.int .i64 m.bx.length),.imm (.int .i64 (wSlE m x y)),.imm (.int .i64 (wTrE m x y)),.ptr 6 0,.ptr 7 0,.ptr 8 0,.ptr 9 0,.imm (.bool false),.imm (.bool (decide (fnz [ckI m,ckBox l] = 0))),.imm (.bool (decide (wSl0 m x = 0))),.imm (.bool (decide (ckI m = 0))),.junk,.junk,.junk],[boxI m,.box [.imm (.int .i64 x),.imm (.int .i64 y)],boxI d,boxI c,boxI s,boxI t,boxI (wDense m),boxZ,boxZ,boxZ],none⟩)]
  rotate_left
  · by_cases h : ckI m = 0
    · have f:=wd h
      simp only [enIm,enB] at f
      simp only [go_sem,Nat.reduceAdd,Nat.reduceSub,Nat.reduceMul,Nat.reduceDiv,Nat.reduceMod,Nat.reduceLeDiff,Nat.reduceLT,Nat.reduceBEq,Int.reduceToNat,Int.reduceLT,Int.reduceLE,Int.reduceEq,enIm,enB,h,f]
    · have e0 : wDense m = im0:=by unfold wDense; rw [if_neg h]
      simp only [go_sem,Nat.reduceAdd,Nat.reduceSub,Nat.reduceMul,Nat.reduceDiv,Nat.reduceMod,Nat.reduceLeDiff,Nat.reduceLT,Nat.reduceBEq,Int.reduceToNat,Int.reduceLT,Int.reduceLE,Int.reduceEq,enIm,enB,h,e0]
      rfl
  rw [seq_step (s':=⟨[.imm (enIm m),.imm (enB b l),.imm (.agg [.int .i64 x,.int .i64 y]),.imm (.bool false),.ptr 0 0,.ptr 1 0,.ptr 2 0,.imm (.int .i64 (ckI m)),.ptr 3 0,.imm (.int .i64 (wCropE m l)),.ptr 4 0,.imm (.int .i64 (wSlE m x y)),.ptr 5 0,.imm (.int .i64 (wTrE m x y)),.imm (.int .i64 (ckI m)),.imm (.int .i64 (wCropE m l)),.imm (.int .i64 m.bx.length),.imm (.int .i64 (wSlE m x y)),.imm (.int .i64 (wTrE m x y)),.ptr 6 0,.ptr 7 0,.ptr 8 0,.ptr 9 0,.imm (.bool false),.imm (.bool (decide (fnz [ckI m,ckBox l] = 0))),.imm (.bool (decide (wSl0 m x = 0))),.imm (.bool (decide (ckI m = 0))),.imm (.bool (decide (wCropE m l = 0))),.junk,.junk],[boxI m,.box [.imm (.int .i64 x),.imm (.int .i64 y)],boxI d,boxI c,boxI s,boxI t,boxI (wDense m),boxI (wCrop m l),boxZ,boxZ],none⟩)]
  rotate_left
  · by_cases h : wCropE m l = 0
    · have f:=wc h
      simp only [enIm,enB] at f
      simp only [go_sem,Nat.reduceAdd,Nat.reduceSub,Nat.reduceMul,Nat.reduceDiv,Nat.reduceMod,Nat.reduceLeDiff,Nat.reduceLT,Nat.reduceBEq,Int.reduceToNat,Int.reduceLT,Int.reduceLE,Int.reduceEq,enIm,enB,h,f]
    · have e0 : wCrop m l = im0:=by unfold wCrop; rw [if_neg h]
      simp only [go_sem,Nat.reduceAdd,Nat.reduceSub,Nat.reduceMul,Nat.reduceDiv,Nat.reduceMod,Nat.reduceLeDiff,Nat.reduceLT,Nat.reduceBEq,Int.reduceToNat,Int.reduceLT,Int.reduceLE,Int.reduceEq,enIm,enB,h,e0]
      rfl
  rw [seq_step (s':=⟨[.imm (enIm m),.imm (enB b l),.imm (.agg [.int .i64 x,.int .i64 y]),.imm (.bool false),.ptr 0 0,.ptr 1 0,.ptr 2 0,.imm (.int .i64 (ckI m)),.ptr 3 0,.imm (.int .i64 (wCropE m l)),.ptr 4 0,.imm (.int .i64 (wSlE m x y)),.ptr 5 0,.imm (.int .i64 (wTrE m x y)),.imm (.int .i64 (ckI m)),.imm (.int .i64 (wCropE m l)),.imm (.int .i64 m.bx.length),.imm (.int .i64 (wSlE m x y)),.imm (.int .i64 (wTrE m x y)),.ptr 6 0,.ptr 7 0,.ptr 8 0,.ptr 9 0,.imm (.bool false),.imm (.bool (decide (fnz [ckI m,ckBox l] = 0))),.imm (.bool (decide (wSl0 m x = 0))),.imm (.bool (decide (ckI m = 0))),.imm (.bool (decide (wCropE m l = 0))),.imm (.bool (decide (wSlE m x y = 0))),.junk],[boxI m,.box [.imm (.int .i64 x),.imm (.int .i64 y)],boxI d,boxI c,boxI s,boxI t,boxI (wDense m),boxI (wCrop m l),boxI (wSlice m x y),boxZ],none⟩)]
  rotate_left
  · by_cases h : wSlE m x y = 0
    · have f:=ws h
      simp only [enIm,enB] at f
      simp only [go_sem,Nat.reduceAdd,Nat.reduceSub,Nat.reduceMul,Nat.reduceDiv,Nat.reduceMod,Nat.reduceLeDiff,Nat.reduceLT,Nat.reduceBEq,Int.reduceToNat,Int.reduceLT,Int.reduceLE,Int.reduceEq,enIm,enB,h,f]
    · have e0 : wSlice m x y = im0:=by unfold wSlice; rw [if_neg h]
      simp only [go_sem,Nat.reduceAdd,Nat.reduceSub,Nat.reduceMul,Nat.reduceDiv,Nat.reduceMod,Nat.reduceLeDiff,Nat.reduceLT,Nat.reduceBEq,Int.reduceToNat,Int.reduceLT,Int.reduceLE,Int.reduceEq,enIm,enB,h,e0]
      rfl
  rw [seq_step (s':=⟨[.imm (enIm m),.imm (enB b l),.imm (.agg [.int .i64 x,.int .i64 y]),.imm (.bool false),.ptr 0 0,.ptr 1 0,.ptr 2 0,.imm (.int .i64 (ckI m)),.ptr 3 0,.imm (.int .i64 (wCropE m l)),.ptr 4 0,.imm (.int .i64 (wSlE m x y)),.ptr 5 0,.imm (.int .i64 (wTrE m x y)),.imm (.int .i64 (ckI m)),.imm (.int .i64 (wCropE m l)),.imm (.int .i64 m.bx.length),.imm (.int .i64 (wSlE m x y)),.imm (.int .i64 (wTrE m x y)),.ptr 6 0,.ptr 7 0,.ptr 8 0,.ptr 9 0,.imm (.bool false),.imm (.bool (decide (fnz [ckI m,ckBox l] = 0))),.imm (.bool (decide (wSl0 m x = 0))),.imm (.bool (decide (ckI m = 0))),.imm (.bool (decide (wCropE m l = 0))),.imm (.bool (decide (wSlE m x y = 0))),.imm (.bool (decide (wTrE m x y = 0)))],[boxI m,.box [.imm (.int .i64 x),.imm (.int .i64 y)],boxI d,boxI c,boxI s,boxI t,boxI (wDense m),boxI (wCrop m l),boxI (wSlice m x y),boxI (wTrans m x y)],none⟩)]
  rotate_left
  · by_cases h : wTrE m x y = 0
    · have f:=wt h
      simp only [enIm,enB] at f
      simp only [go_sem,Nat.reduceAdd,Nat.reduceSub,Nat.reduceMul,Nat.reduceDiv,Nat.reduceMod,Nat.reduceLeDiff,Nat.reduceLT,Nat.reduceBEq,Int.reduceToNat,Int.reduceLT,Int.reduceLE,Int.reduceEq,enIm,enB,h,f]
    · have e0 : wTrans m x y = im0:=by unfold wTrans; rw [if_neg h]
      simp only [go_sem,Nat.reduceAdd,Nat.reduceSub,Nat.reduceMul,Nat.reduceDiv,Nat.reduceMod,Nat.reduceLeDiff,Nat.reduceLT,Nat.reduceBEq,Int.reduceToNat,Int.reduceLT,Int.reduceLE,Int.reduceEq,enIm,enB,h,e0]
      rfl
  simp only [go_sem,Nat.reduceAdd,Nat.reduceSub,Nat.reduceMul,Nat.reduceDiv,Nat.reduceMod,Nat.reduceLeDiff,Nat.reduceLT,Nat.reduceBEq,Int.reduceToNat,Int.reduceLT,Int.reduceLE,Int.reduceEq,enIm,enB,ad1,ac1,as1,at1,hA]
end Go.Vm.P4Z

/- Chapter 04: the law ImageParts. -/
set_option maxRecDepth 100000
set_option maxHeartbeats 4000000
namespace Go.Vm.P4Z
open Go Go.Vm Go.Vm.P4
theorem rdense_w (n : Nat) (m : Im) (h : ckI m = 0) : callP (level E (n+4)) 33 [enIm m] = some (enIm (wDense m)):=by
  obtain ⟨N,G⟩:=good_of h
  have hN : (many m.bx).toNat = N:=by have:=G.many; omega
  rw [wDense,if_pos h,hN]
  exact okRDense n m N G
theorem rcrop_w (n : Nat) (m : Im) (b : Bool) (l : Bx) (h : wCropE m l = 0) : callP (level E (n+3)) 34 [enIm m,enB b l] = some (enIm (wCrop m l)):=by
  have h0:=h
  unfold wCropE at h
  by_cases h1 : fnz [ckI m,ckBox l] = 0
  · have g1:=fz0 _ h1 (ckI m) (by simp)
    have g2:=fz0 _ h1 (ckBox l) (by simp)
    obtain ⟨M,G⟩:=good_of g1
    obtain ⟨k1,k2,k3,k4⟩:=ckBox0 g2
    obtain ⟨N,hN,hN2⟩:=many_nat g2
    have hNt : (many l).toNat = N:=by omega
    simp only [h1,if_true,hNt] at h
    by_cases hl : l.length = m.bx.length
    · by_cases ha : allIn m l N = true
      · rw [wCrop,if_pos h0,hNt]
        exact okRCrop n m M G b l k3 k2 hl N hN (by omega) (fun _ p hp => (all_in G.okr k3 k2 hl hN).1 ha p hp)
      · simp [hl,ha] at h
    · simp [hl] at h
  · simp only [h1,if_false] at h
theorem rslice_w (n : Nat) (m : Im) (x y : Int) (h : wSlE m x y = 0) : callP (level E (n+3)) 35 [enIm m,.int .i64 x,.int .i64 y] = some (enIm (wSlice m x y)):=by
  have h0:=h
  unfold wSlE at h
  by_cases h1 : wSl0 m x = 0
  · have g1:=fz0 _ h1 (ckI m) (by simp)
    have g2:=fz0 _ h1 (if m.bx.length = 1 then 13 else 0) (by simp)
    have g3:=fz0 _ h1 (if x < 0 ∨ x ≥ m.bx.length then 3 else 0) (by simp)
    have g2 : m.bx.length ≠ 1:=by intro h; rw [if_pos h] at g2; omega
    have g3 : ¬ (x < 0 ∨ x ≥ m.bx.length):=by split at g3; omega; assumption
    obtain ⟨M,G⟩:=good_of g1
    obtain ⟨k,rfl⟩ : ∃ k : Nat,x = k:=⟨x.toNat,by omega⟩
    have hk : k < m.bx.length:=by omega
    rcases hr : m.bx[k]? with _ | r
    · rw [List.getElem?_eq_none_iff] at hr; omega
    simp only [h1,if_true,Int.toNat_natCast,hr] at h
    by_cases hb : y < r.lo ∨ y ≥ r.lo + r.ex
    · simp [hb] at h
    · have hel : (m.bx.eraseIdx k).length ≤ 3:=Nat.le_trans (List.length_eraseIdx_le _ _) G.len3
      obtain ⟨N,hN,hN2⟩:=lt_one' (erase_okr G.okr k) hel
      have hNt : (many (m.bx.eraseIdx k)).toNat = N:=by omega
      rw [wSlice,if_pos h0,Int.toNat_natCast,hNt]
      exact okRSlice n m M G k hk r hr y (by omega) (by omega) g2 N hN hN2
  · simp only [h1,if_false] at h
theorem rtrans_w (n : Nat) (m : Im) (x y : Int) (h : wTrE m x y = 0) : callP (level E (n+3)) 36 [enIm m,.int .i64 x,.int .i64 y] = some (enIm (wTrans m x y)):=by
  have h0:=h
  unfold wTrE at h
  have g1:=fz0 _ h (ckI m) (by simp)
  have g3:=fz0 _ h (if x < 0 ∨ x ≥ m.bx.length ∨ y < 0 ∨ y ≥ m.bx.length then 3 else 0) (by simp)
  have g3 : ¬ (x < 0 ∨ x ≥ m.bx.length ∨ y < 0 ∨ y ≥ m.bx.length):=by split at g3; omega; assumption
  obtain ⟨M,G⟩:=good_of g1
  obtain ⟨k,rfl⟩ : ∃ k : Nat,x = k:=⟨x.toNat,by omega⟩
  obtain ⟨j,rfl⟩ : ∃ j : Nat,y = j:=⟨y.toNat,by omega⟩
  have hel : (swp m.bx k j).length ≤ 3:=by rw [swp_len]; exact G.len3
  obtain ⟨N,hN,hN2⟩:=lt_one' (swp_okr G.okr k j) hel
  have hNt : (many (swp m.bx k j)).toNat = N:=by omega
  rw [wTrans,if_pos h0,Int.toNat_natCast,Int.toNat_natCast,hNt]
  exact okRTranspose n m M G k j (by omega) (by omega) N hN hN2
theorem okImageParts (n : Nat) (hA : callP (level E (n+60)) 8 [] = some (.bool true)) (m : Im) (b : Bool) (l : Bx) (x y : Int) (hv : Ok64 m.dt) :
    callP (level E (n+61)) 5 [enIm m,enB b l,.agg [.int .i64 x,.int .i64 y]] = some (.bool true):=by
  have s1:=okShortImage (n+59) m
  have s2:=okShortBox (n+59) b l
  cases hs1 : shortI m with
  | false =>
    rw [hs1] at s1
    rw [p5]
    simp only [enIm,enB] at s1
    simp only [go_sem,Nat.reduceAdd,Nat.reduceSub,Nat.reduceMul,Nat.reduceDiv,Nat.reduceMod,Nat.reduceLeDiff,Nat.reduceLT,Nat.reduceBEq,Int.reduceToNat,Int.reduceLT,Int.reduceLE,Int.reduceEq,enIm,enB,s1,hA]
  | true =>
    rw [hs1] at s1
    cases hs2 : (decide (l.length ≤ 4) && decide (shortN l ≤ 64)) with
    | false =>
      rw [hs2] at s2
      rw [p5]
      simp only [enIm,enB] at s1 s2
      simp only [go_sem,Nat.reduceAdd,Nat.reduceSub,Nat.reduceMul,Nat.reduceDiv,Nat.reduceMod,Nat.reduceLeDiff,Nat.reduceLT,Nat.reduceBEq,Int.reduceToNat,Int.reduceLT,Int.reduceLE,Int.reduceEq,enIm,enB,s1,s2,hA]
    | true =>
      rw [hs2] at s2
      obtain ⟨l1,l2,l3⟩:=shortI_len hs1
      have ll : l.length < 1000000:=by simp at hs2; omega
      have lx : m.bx.length < 1000000:=by omega
      have ls : m.st.length < 1000000:=by omega
      have ld : m.dt.length < 1000000:=by omega
      have dn:=okDenseG (n+50) m.own lx ls ld hv
      have cr:=okCropG (n+50) m.own true l lx ls ld hv ll
      have sl:=okSliceG (n+50) m.own x y lx ls ld hv
      have tr:=okTransG (n+50) m.own x y lx ls ld hv
      rw [ckI_own] at dn
      rw [cropR_own] at cr
      rw [sliceR_own] at sl
      rw [transR_own] at tr
      exact partsS n hA m _ _ _ _ b l x y _ _ _ _ hv lx ls ld ll s1 s2 dn cr sl tr ⟨denseE m,rfl⟩ ⟨(cropE m l).2,(cropE m l).1⟩ ⟨(sliceE m x y).2,(sliceE m x y).1⟩ ⟨(transE m x y).2,(transE m x y).1⟩
        (fun h => rdense_w (n+56) m h) (fun h => rcrop_w (n+57) m b l h) (fun h => rslice_w (n+57) m x y h) (fun h => rtrans_w (n+57) m x y h)
end Go.Vm.P4Z

/- Chapter 04: ImageParts: the row and the card. -/
set_option maxRecDepth 100000
namespace Go.Proofs.YtgbmhofpndjdoaaGreatDoor
open Go Go.Vm Go.Vm.P4 Go.Vm.P4Z Go.ChangeShapes Go.WideShapes Go.ChangeAt Go.RowKit
theorem readImage : Tryz.prog.readableRec 27 = true:=by kernel_rfl
theorem rowImage : 27 < Tryz.prog.types.size:=of_decide_eq_true (by kernel_rfl)
theorem readBox : Tryz.prog.readableRec 23 = true:=by kernel_rfl
theorem rowBox : 23 < Tryz.prog.types.size:=of_decide_eq_true (by kernel_rfl)
theorem readInt2 : Tryz.prog.readableRec 58 = true:=by kernel_rfl
theorem rowInt2 : 58 < Tryz.prog.types.size:=of_decide_eq_true (by kernel_rfl)
theorem liftedImageParts (os : Os) (started : os.Started) (H : Type) (enc : TypeId × Value → H) :
    ReturnsInHanded {} Tryz.checked os 5 .any (fun w args => (Rows.imagePartsSpec.pre enc Tryz.prog Tryz.f5 [] false w args ∧ laidMetH Tryz.prog laidW w) ∧ sizedMet enc Tryz.prog Tryz.f5 (OpenSpec.ofChange Rows.imagePartsSpec) false w args)
      (Rows.imagePartsSpec.post enc Tryz.prog Tryz.f5 false true false false):=by
  refine returnsInHanded_of_change_and (C:=Tryz.checked) (X:=fun w _ => laidMetH Tryz.prog laidW w) (fun _ _ _ hh h => h.of_heap hh) ownT started (by kernel_rfl) Tryz.func5
    (ChangeSpec.witness_shaped (enc:=enc) (C:=Tryz.checked) (os:=os) (X:=fun w _ => laidMetH Tryz.prog laidW w) false (World.doorLaid Tryz.prog 2000 os) #[.agg #[.int .i64 0,.slice none 0 0,.slice none 0 0,.slice none 0 0],.slice none 0 0,.agg #[.int .i64 0,.int .i64 0]] 8 rfl (World.shaped_of_RefB (by kernel_rfl) (by kernel_rfl)) (by kernel_rfl) (by kernel_rfl) (by kernel_rfl) (door_met os _)) ?_
  intro W base args ds gs before hval0 hW _ _ hL _
  have hW':=hW
  have hlt:=hW.lt
  obtain ⟨p,q,hA0,hV,rfl,hfz,hnd⟩:=hW
  have hA : DataW.TrodAll enc Tryz.prog W 0 (fun _ => true) true Tryz.f5.params.toList args.toList ds p:=hA0
  rw [Tryz.params5] at hA
  obtain ⟨v0,v1,v2,d0,d1,d2,p0,p1,p2,rfl,rfl,rfl,h0,h1,h2⟩:=trodAll_three hA
  obtain ⟨rfl,rfl⟩:=trodVars_none hV
  have hval : ∀ (j : Nat) t v,Tryz.f5.params[j]? = some t → (#[v0,v1,v2] : Array Value)[j]? = some v → Value.okWide Tryz.prog W .any base t v:=hval0
  rw [Tryz.params5] at hval
  obtain ⟨m0,g0,r0⟩:=arg_image (hval 0 27 v0 rfl rfl) h0
  obtain ⟨b1,l1,r1⟩:=arg_box (hval 1 23 v1 rfl rfl) h1
  obtain ⟨x2,y2,r2⟩:=arg_int2 (hval 2 58 v2 rfl rfl) h2
  refine (call_ok anyXP (okImageParts 0 (okAwake 0) m0 b1 l1 x2 y2 g0) hL rfl (fun j d hj => ?_)).mono fun e w ⟨r,F,he,htr,hr⟩ => ?_
  · match j,hj with
    | 0,hj => injection hj with hj; subst hj; exact r0
    | 1,hj => injection hj with hj; subst hj; exact r1
    | 2,hj => injection hj with hj; subst hj; exact r2
    | j + 3,hj => simp at hj
  · subst he
    have hb:=below_of htr
    obtain rfl:=bool_of hr
    refine ⟨_,rfl,[d0,d1,d2],[],p0 ++ p1 ++ p2 ++ [],[],p0 ++ (p1 ++ p2),[],hW',trodAll_mk1 (shut_bool Tryz.underlying4 _),?_,rfl,hb.frame _,nofun⟩
    exact trodAll_mk3 (Below.trod laidOutT readImage rowImage h0 hb fun x hx => hlt x (by simp [hx])) (Below.trod laidOutT readBox rowBox h1 hb fun x hx => hlt x (by simp [hx])) (Below.trod laidOutT readInt2 rowInt2 h2 hb fun x hx => hlt x (by simp [hx]))
theorem imageParts_said : Rows.ImagePartsSaid :=
  OpenClaim.holds_of_wide 5 Tryz.f5 rfl rfl rfl rfl rfl rfl rfl ⟨rfl,rfl,rfl,rfl,rfl⟩ rfl rfl rfl rfl rfl (by kernel_rfl) Tryz.func5 (by kernel_rfl)
    (of_decide_eq_true (by kernel_rfl)) (by unfold Func.isWrapper; first | (rw [if_pos (by decide +kernel)]; kernel_rfl) | (rw [if_neg (by decide +kernel)]; exact ⟨rfl,rfl⟩))
    (fun os started H enc _ => liftedImageParts os started H enc)
theorem imageParts_holds : Rows.ImagePartsCardSaid :=
  Claim7.holds_tied_plain_at .later [] [.data,.funcs] true (true, "47b693bda246c1c9613a75da3a0118561ee6bcc2ec34998d3f5c399ab10df9b5") false
    imageParts_said (fun _ h => by cases h) (by kernel_rfl) (fun _ h => by cases h) imageParts_row_tie rfl ⟨rfl,rfl⟩ (by kernel_rfl) rfl
    (fun f fn hf hfn => by
      obtain rfl : f = 5:=Option.some.inj ((show Tryz.prog.funcNamed "halation/halationlaw04.ImageParts" = some 5 by kernel_rfl).symm.trans hf) |>.symm
      obtain rfl : fn = Tryz.f5:=(Option.some.inj (Tryz.func5.symm.trans hfn)).symm
      exact ⟨by kernel_rfl,fun j t ht => by
        rw [Tryz.params5] at ht
        have hm : t ∈ [27,23,58]:=by simpa using Array.mem_of_getElem? ht
        have hall : ([27,23,58].all fun u => !Tryz.prog.wantsStandIn u) = true:=by kernel_rfl
        exact (show Tryz.prog.wantsStandIn t = false by simpa using List.all_eq_true.1 hall t hm)⟩)
    (by kernel_rfl)
#print axioms imageParts_holds
end Go.Proofs.YtgbmhofpndjdoaaGreatDoor
