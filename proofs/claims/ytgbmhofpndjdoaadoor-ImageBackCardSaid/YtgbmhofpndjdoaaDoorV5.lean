/- A part of the proof that the law answers true for every input; the conditions are those of the card: the listed variable reads as the program lays it. -/
import Derived.Test.YtgbmhofpndjdoaaDoorV4
set_option linter.unusedSimpArgs false
set_option linter.unusedVariables false
/- Chapter 04,functions: numbers,ranges,boxes. -/
set_option maxRecDepth 100000
set_option maxHeartbeats 1000000
namespace Go.Vm.P4D
open Go Go.Vm Go.Vm.P4
theorem okWhen (n : Nat) (b : Bool) (x : Int) : callP (level E (n+1)) 54 [.bool b,.int .i64 x] = some (.int .i64 (if b then x else 0)):=by
  rw [p54]
  cases b <;> simp only [go_sem,simprocAttr,Bool.false_eq_true]
theorem okNwhen (n : Nat) (b : Bool) (x : Int) : callP (level E (n+1)) 92 [.bool b,.int .i64 x] = some (.int .i64 (if b then x else 0)):=by
  rw [p92]
  cases b <;> simp only [go_sem,simprocAttr,Bool.false_eq_true]
theorem okWithin (n : Nat) (x a b : Int) : callP (level E (n+1)) 57 [.int .i64 x,.int .i64 a,.int .i64 b] = some (.bool (decide (x ≥ a) && decide (x ≤ b))):=by
  rw [p57]
  by_cases h : x ≥ a <;> simp only [go_sem,simprocAttr,h]
theorem okFirst (n : Nat) (b : Bool) (l : List Int) (hl : l.length < 1000000000) : callP (level E (n+1)) 55 [slD b 1 (l.map ic)] = some (.int .i64 (fnz l)):=by
  rw [p55]
  simp only [go_sem,simprocAttr]
  have h:=loop_run (f:=aCode (level E (n)) ⟨0,false⟩ b55_0) (h:=head ⟨0,false⟩ [0,0,0,1,1,1,0,0]) (Φ:=outC ⟨0,false⟩ [0,1,0,0,0,0,0,0]) l (fun (_ : Unit) i => ⟨[.junk,.junk,.junk,.imm (slD b 1 (l.map ic)),.imm (.int .i64 l.length),.imm (.int .i64 i),.junk,.junk],[],none⟩) (fun _ _ => True)
    (fun _ x => if x = 0 then .inl () else .inr (some (.ret,⟨[.junk,.imm (.int .i64 x),.junk,.junk,.junk,.junk,.junk,.junk],[],none⟩))) (fun _ => some (.exit 0,⟨[.junk,.junk,.junk,.junk,.junk,.junk,.junk,.junk],[],none⟩)) () trivial
    (fun _ i x _ h2 h1 => ⟨by
      rw [rnd_eq]
      by_cases h0 : x = 0
      · subst h0
        simp only [go_sem,simprocAttr,lt_t h2,h1,ne_eq,not_true_eq_false]
        rw [wrpS (by omega)]
      · simp only [go_sem,simprocAttr,lt_t h2,h1,ne_eq,h0,not_false_eq_true],fun _ _ => trivial⟩)
    (fun _ _ => by
      rw [rnd_eq]
      simp only [go_sem,simprocAttr,lt_f (Nat.le_refl _)])
  rw [cast_0] at h
  rw [h]
  clear h hl
  induction l with
  | nil => simp only [go_sem,simprocAttr,runL_nil,fnz]
  | cons x r ih =>
    by_cases h0 : x = 0
    · simp only [runL_cons,h0,if_true,fnz]; exact ih
    · simp only [go_sem,simprocAttr,runL_cons,h0,fnz]
theorem okMany (n : Nat) (b : Bool) (l : Bx) (hl : l.length < 1000000000) : callP (level E (n+1)) 59 [enB b l] = some (.int .i64 (many l)):=by
  rw [p59]
  simp only [go_sem,simprocAttr]
  have h:=loop_fold (f:=aCode (level E (n)) ⟨0,false⟩ b59_0) (h:=head ⟨0,false⟩ [0,0,1,0,1,1,1,0]) (Φ:=outC ⟨0,false⟩ [0,0,1,0,0,0,0,0]) l (fun (a : Int) i => ⟨[.junk,.junk,.imm (.int .i64 a),.junk,.imm (slD b 2 (l.map enR)),.imm (.int .i64 l.length),.imm (.int .i64 i),.junk],[],none⟩) (fun _ _ => True)
    (fun a x => ml a x.ex) (fun a => some (.exit 0,⟨[.junk,.junk,.imm (.int .i64 a),.junk,.junk,.junk,.junk,.junk],[],none⟩)) 1 trivial
    (fun a i x _ h2 h1 => ⟨by
      rw [rnd_eq]
      simp only [go_sem,simprocAttr,lt_t h2,h1,ml]
      rw [wrpS (by omega)],trivial⟩)
    (fun _ _ => by
      rw [rnd_eq]
      simp only [go_sem,simprocAttr,lt_f (Nat.le_refl _)])
  rw [cast_0] at h
  rw [h]
  simp only [go_sem,simprocAttr,many]
def strides : Int → Bx → List Int
  | _,[] => []
  | n,r :: b => n :: strides (ml n r.ex) b
theorem strides_len : ∀ (n : Int) (b : Bx),(strides n b).length = b.length
  | _,[] => rfl
  | n,r :: b => by simp only [strides,List.length_cons,strides_len _ b]
theorem strides_fold : ∀ (b : Bx) (acc : List Int) (n : Int),(b.foldl (fun (p : List Int × Int) r => (p.1 ++ [p.2],ml p.2 r.ex)) (acc,n)).1 = acc ++ strides n b
  | [],acc,n => by simp [strides]
  | r :: b,acc,n => by simp only [List.foldl_cons,strides_fold b,strides,List.append_assoc,List.cons_append,List.nil_append]
theorem okDense (n : Nat) (b : Bool) (l : Bx) (hl : l.length < 1000000000) : callP (level E (n+1)) 58 [enB b l] = some (slD true 1 ((strides 1 l).map ic)):=by
  rw [p58]
  simp only [go_sem,simprocAttr]
  have h:=loop_fold (f:=aCode (level E (n)) ⟨0,false⟩ b58_0) (h:=head ⟨0,false⟩ [0,0,1,1,0,1,1,1,0]) (Φ:=outC ⟨0,false⟩ [0,0,1,0,0,0,0,0,0]) l (fun (a : List Int × Int) i => ⟨[.junk,.junk,vK 0 1 (a.1.map ic),.imm (.int .i64 a.2),.junk,.imm (slD b 2 (l.map enR)),.imm (.int .i64 l.length),.imm (.int .i64 i),.junk],oK 1 (a.1.map ic),none⟩) (fun a i => a.1.length = i)
    (fun a x => (a.1 ++ [a.2],ml a.2 x.ex)) (fun a => some (.exit 0,⟨[.junk,.junk,vK 0 1 (a.1.map ic),.junk,.junk,.junk,.junk,.junk,.junk],oK 1 (a.1.map ic),none⟩)) ([],1) rfl
    (fun a i x hI h2 h1 => ⟨by
      rw [rnd_eq]
      have e1 : (a.1.length + 1) * 9 ≤ 70368744177664:=by omega
      rcases a with ⟨_ | ⟨y,t⟩,m⟩
      · simp only [go_sem,simprocAttr,lt_t h2,h1,ml,vK,oK]
        rw [wrpS (by omega)]
      · simp only [List.length_cons] at e1
        simp only [go_sem,simprocAttr,lt_t h2,h1,ml,vK,oK,e1]
        rw [wrpS (by omega)],by simp [hI]⟩)
    (fun a _ => by
      rw [rnd_eq]
      rcases a with ⟨_ | ⟨y,t⟩,m⟩ <;> simp only [go_sem,simprocAttr,lt_f (Nat.le_refl _),vK,oK])
  rw [cast_0] at h
  simp only [List.map_nil,vK,oK] at h
  rw [h]
  generalize hA : (l.foldl (fun (a : List Int × Int) (x : Rg) => (a.1 ++ [a.2],ml a.2 x.ex)) ([],1)).1 = A
  have e:=strides_fold l [] 1
  rw [hA,List.nil_append] at e
  rw [← e]
  rcases A with _ | ⟨y,t⟩ <;> simp only [go_sem,simprocAttr,vK,oK,slD]
def hasB : Bx → List Int → Bool
  | r :: b,x :: p => if x < r.lo ∨ x ≥ ad r.lo r.ex then false else hasB b p
  | _,_ => true
theorem okHas0 (n : Nat) (b c : Bool) (l : Bx) (p : List Int) (hl : l.length < 1000000000) (hp : l.length ≤ p.length) : callP (level E (n+1)) 81 [enB b l,slD c 1 (p.map ic)] = some (.bool (hasB l p)):=by
  rw [p81]
  simp only [go_sem,simprocAttr]
  have h:=loop_run (f:=aCode (level E (n)) ⟨0,false⟩ b81_0) (h:=head ⟨0,false⟩ [0,1,0,0,0,1,1,1,0,0]) (Φ:=outC ⟨0,false⟩ [0,0,1,0,0,0,0,0,0,0]) l (fun (_ : List Int) i => ⟨[.junk,.imm (slD c 1 (p.map ic)),.junk,.junk,.junk,.imm (slD b 2 (l.map enR)),.imm (.int .i64 l.length),.imm (.int .i64 i),.junk,.junk],[],none⟩) (fun a i => p.drop i = a)
    (fun a r => match a with | [] => .inl [] | x :: t => if x < r.lo ∨ x ≥ ad r.lo r.ex then .inr (some (.ret,⟨[.junk,.junk,.imm (.bool false),.junk,.junk,.junk,.junk,.junk,.junk,.junk],[],none⟩)) else .inl t) (fun _ => some (.exit 0,⟨[.junk,.junk,.junk,.junk,.junk,.junk,.junk,.junk,.junk,.junk],[],none⟩)) p rfl
    (fun a i r hI h2 h1 => by
      rcases a with _ | ⟨x,t⟩
      · have:=drop_n hI; omega
      obtain ⟨q1,q2,q3⟩:=drop_c hI
      refine ⟨?_,fun t' ht => ?_⟩
      · rw [rnd_eq]
        by_cases k1 : x < r.lo
        · simp only [go_sem,simprocAttr,lt_t h2,h1,q1,k1,true_or]
        · by_cases k2 : x ≥ ad r.lo r.ex
          · have k3 : wrp .i64 (r.lo + r.ex) ≤ x:=k2
            simp only [go_sem,simprocAttr,lt_t h2,h1,q1,k1,k2,k3,or_true]
          · have k3 : ¬ wrp .i64 (r.lo + r.ex) ≤ x:=k2
            simp only [go_sem,simprocAttr,lt_t h2,h1,q1,k1,k2,k3,or_self]
            rw [wrpS (by omega)]
      · dsimp only at ht
        split at ht
        · cases ht
        · injection ht with ht; rw [← ht]; exact q3)
    (fun _ _ => by
      rw [rnd_eq]
      simp only [go_sem,simprocAttr,lt_f (Nat.le_refl _)])
  rw [cast_0] at h
  rw [h]
  clear h hl
  induction l generalizing p with
  | nil => simp only [go_sem,simprocAttr,runL_nil,hasB]
  | cons r l ih =>
    rcases p with _ | ⟨x,t⟩
    · simp at hp
    by_cases k : x < r.lo ∨ x ≥ ad r.lo r.ex
    · simp only [go_sem,simprocAttr,runL_cons,hasB,k]
    · simp only [runL_cons,hasB,k,if_false]
      exact ih t (by simpa using hp)
def enP (p : List Int) : D:=.agg (p.map (.int .i64 ·))
def elt : Bx → List Int → List Int → Int → Int
  | r :: b,x :: p,s :: t,n => elt b p t (ad n (ml (sb x r.lo) s))
  | _,_,_,n => n
theorem sg_map (p : List Int) : ((p.map (D.int .i64 ·)).map AV.imm).all single = true:=by simp [single]
theorem elt_fold : ∀ (l : Bx) (p s : List Int) (m : Int),l.length ≤ p.length → l.length ≤ s.length → (l.foldl (fun (a : List Int × List Int × Int) r => (a.1.tail,a.2.1.tail,ad a.2.2 (ml (sb (a.1.headD 0) r.lo) (a.2.1.headD 0)))) (p,s,m)).2.2 = elt l p s m
  | [],_,_,_,_,_ => by simp [elt]
  | r :: l,[],_,_,h,_ => by simp at h
  | r :: l,_ :: _,[],_,_,h => by simp at h
  | r :: l,x :: p,y :: s,m,h1,h2 => by
    simp only [List.foldl_cons,List.tail_cons,List.headD_cons,elt]
    exact elt_fold l p s _ (by simpa using h1) (by simpa using h2)
theorem okElement (n : Nat) (b c : Bool) (l : Bx) (s p : List Int) (hl : l.length ≤ 3) (hs : l.length ≤ s.length) (hp : p.length = 3) : callP (level E (n+1)) 82 [enB b l,slD c 1 (s.map ic),enP p] = some (.int .i64 (elt l p s 0)):=by
  rw [p82]
  simp only [go_sem,simprocAttr,enP,sg_map]
  have h:=loop_fold (f:=aCode (level E (n)) ⟨0,false⟩ b82_0) (h:=head ⟨0,false⟩ [0,1,0,0,1,1,0,0,1,1,1,0]) (Φ:=outC ⟨0,false⟩ [0,0,0,0,0,1,0,0,0,0,0,0]) l (fun (a : List Int × List Int × Int) i => ⟨[.junk,.imm (slD c 1 (s.map ic)),.junk,.junk,.imm (.ptr (p.map (.int .i64 ·))),.imm (.int .i64 a.2.2),.junk,.junk,.imm (slD b 2 (l.map enR)),.imm (.int .i64 l.length),.imm (.int .i64 i),.junk],[],none⟩) (fun a i => p.drop i = a.1 ∧ s.drop i = a.2.1)
    (fun a r => (a.1.tail,a.2.1.tail,ad a.2.2 (ml (sb (a.1.headD 0) r.lo) (a.2.1.headD 0)))) (fun a => some (.exit 0,⟨[.junk,.junk,.junk,.junk,.junk,.imm (.int .i64 a.2.2),.junk,.junk,.junk,.junk,.junk,.junk],[],none⟩)) (p,s,0) ⟨rfl,rfl⟩
    (fun a i r hI h2 h1 => by
      rcases a with ⟨_ | ⟨x,t⟩,_ | ⟨y,u⟩,m⟩
      · have:=drop_n hI.1; omega
      · have:=drop_n hI.1; omega
      · have:=drop_n hI.2; omega
      obtain ⟨q1,q2,q3⟩:=drop_c hI.1
      obtain ⟨u1,u2,u3⟩:=drop_c hI.2
      refine ⟨?_,q3,u3⟩
      rw [rnd_eq]
      have q4 : (p.map (D.int .i64 ·))[i]? = some (.int .i64 x):=by simp [q1]
      have k1 : i < 3:=by omega
      simp only [go_sem,simprocAttr,lt_t h2,h1,q1,u1,k1,q4]
      rw [wrpS (by omega)]
      rfl)
    (fun _ _ => by
      rw [rnd_eq]
      simp only [go_sem,simprocAttr,lt_f (Nat.le_refl _)])
  rw [cast_0] at h
  rw [h]
  simp only [go_sem,simprocAttr]
  rw [elt_fold l p s 0 (by omega) hs]
def rmeet (a b : Rg) : Rg:=⟨max a.lo b.lo,max (sb (min (ad a.lo a.ex) (ad b.lo b.ex)) (max a.lo b.lo)) 0⟩
def rspan (a b : Rg) : Rg:=⟨min a.lo b.lo,sb (max (ad a.lo a.ex) (ad b.lo b.ex)) (min a.lo b.lo)⟩
theorem okMeet (n : Nat) (a b : Rg) : callP (level E (n+1)) 70 [enRD a,enRD b] = some (enRD (rmeet a b)):=by
  rw [p70]
  simp only [go_sem,simprocAttr,rmeet,ad,sb]
theorem okSpan (n : Nat) (a b : Rg) : callP (level E (n+1)) 78 [enRD a,enRD b] = some (enRD (rspan a b)):=by
  rw [p78]
  simp only [go_sem,simprocAttr,rspan,ad,sb]
end Go.Vm.P4D

/- Chapter 04,functions: boxes are checked,met and joined. -/
set_option maxRecDepth 100000
set_option maxHeartbeats 1000000
namespace Go.Vm.P4D
open Go Go.Vm Go.Vm.P4
theorem zip_fold (k : Rg → Rg → Rg) : ∀ (l acc m : Bx),l.length ≤ m.length → (l.foldl (fun (a : Bx × Bx) x => (a.1 ++ [k x (a.2.headD ⟨0,0⟩)],a.2.tail)) (acc,m)).1 = acc ++ List.zipWith k l m
  | [],acc,m,_ => by simp
  | x :: l,acc,[],h => by simp at h
  | x :: l,acc,y :: m,h => by
    simp only [List.foldl_cons,List.headD_cons,List.tail_cons,List.zipWith_cons_cons]
    rw [zip_fold k l _ m (by simpa using h)]
    simp
theorem okZipped (n : Nat) (b c : Bool) (l m : Bx) (f : FuncId) (k : Rg → Rg → Rg) (hl : l.length < 1000000) (hm : l.length ≤ m.length) (H : ∀ r s,callP (level E n) f [enRD r,enRD s] = some (enRD (k r s))) :
    callP (level E (n+1)) 69 [enB b l,enB c m,.fn f [] []] = some (enB true (List.zipWith k l m)):=by
  rw [p69]
  simp only [go_sem,simprocAttr]
  have h:=loop_fold (f:=aCode (level E (n)) ⟨0,false⟩ b69_0) (h:=head ⟨0,false⟩ [1,1,1,0,1,0,1,1,0]) (Φ:=outC ⟨0,false⟩ [0,0,0,0,1,0,0,0,0]) l (fun (a : Bx × Bx) i => ⟨[.imm (slD b 2 (l.map enR)),.imm (slD c 2 (m.map enR)),.imm (.fn f [] []),.junk,vK 0 2 (a.1.map enR),.junk,.imm (.int .i64 l.length),.imm (.int .i64 i),.junk],oK 2 (a.1.map enR),none⟩) (fun a i => a.1.length = i ∧ m.drop i = a.2)
    (fun a x => (a.1 ++ [k x (a.2.headD ⟨0,0⟩)],a.2.tail)) (fun a => some (.exit 0,⟨[.junk,.junk,.junk,.junk,vK 0 2 (a.1.map enR),.junk,.junk,.junk,.junk],oK 2 (a.1.map enR),none⟩)) ([],m) ⟨rfl,rfl⟩
    (fun a i x hI h2 h1 => by
      rcases a with ⟨a,_ | ⟨y,t⟩⟩
      · have:=drop_n hI.2; omega
      obtain ⟨q1,q2,q3⟩:=drop_c hI.2
      refine ⟨?_,by simp [hI.1],q3⟩
      rw [rnd_eq]
      have e1 : (a.length + 1) * 17 ≤ 70368744177664:=by have hI1 : a.length = i:=hI.1; omega
      have H':=H x y
      simp only [enRD,enR] at H'
      rcases a with _ | ⟨z,a⟩
      · simp only [go_sem,simprocAttr,lt_t h2,h1,q1,vK,oK,H']
        rw [wrpS (by omega)]
      · simp only [List.length_cons] at e1
        simp only [go_sem,simprocAttr,lt_t h2,h1,q1,vK,oK,e1,H']
        rw [wrpS (by omega)])
    (fun a _ => by
      rw [rnd_eq]
      rcases a with ⟨_ | ⟨y,t⟩,m⟩ <;> simp only [go_sem,simprocAttr,lt_f (Nat.le_refl _),vK,oK])
  rw [cast_0] at h
  simp only [List.map_nil,vK,oK] at h
  rw [h]
  clear h
  generalize hA : (l.foldl (fun (a : Bx × Bx) x => (a.1 ++ [k x (a.2.headD ⟨0,0⟩)],a.2.tail)) ([],m)).1 = A
  have e:=zip_fold k l [] m hm
  rw [hA,List.nil_append] at e
  rw [← e]
  rcases A with _ | ⟨y,t⟩ <;> simp only [go_sem,simprocAttr] <;> rfl
theorem okMapR (n : Nat) (b : Bool) (l : Bx) (f : FuncId) (k : Rg → Int) (hl : l.length < 1000000) (H : ∀ r,callP (level E n) f [enRD r] = some (.int .i64 (k r))) :
    callP (level E (n+1)) 84 [enB b l,.fn f [] []] = some (slD false 1 ((l.map k).map ic)):=by
  rw [p84]
  have e0 : (8 : Int) * (l.length : Int) ≤ 70368744177664:=by omega
  have e2 : (l.length : Int) ≤ 70368744177664:=by omega
  have e3 : (0 : Int) ≤ (l.length : Int):=by omega
  simp only [go_sem,simprocAttr,e0,e2,e3]
  have h:=loop_fold (f:=aCode (level E (n)) ⟨0,false⟩ b84_0) (h:=head ⟨0,false⟩ [0,1,0,1,0,1,1,1,0]) (Φ:=outC ⟨0,false⟩ [0,0,0,1,0,0,0,0,0]) l (fun (a : List Int) i => ⟨[.junk,.imm (.fn f [] []),.junk,.ref 0 1 0 a.length,.junk,.imm (slD b 2 (l.map enR)),.imm (.int .i64 l.length),.imm (.int .i64 i),.junk],[.arr 1 (a.map ic)],none⟩) (fun a i => a.length = i)
    (fun a x => a ++ [k x]) (fun a => some (.exit 0,⟨[.junk,.junk,.junk,.ref 0 1 0 a.length,.junk,.junk,.junk,.junk,.junk],[.arr 1 (a.map ic)],none⟩)) [] rfl
    (fun a i x hI h2 h1 => by
      refine ⟨?_,by simp [hI]⟩
      rw [rnd_eq]
      have e1 : (a.length + 1) * 9 ≤ 70368744177664:=by omega
      have H':=H x
      simp only [enRD,enR] at H'
      simp only [go_sem,simprocAttr,lt_t h2,h1,e1,H']
      rw [wrpS (by omega)])
    (fun a _ => by
      rw [rnd_eq]
      simp only [go_sem,simprocAttr,lt_f (Nat.le_refl _)])
  rw [cast_0] at h
  simp only [List.map_nil,List.length_nil] at h
  rw [h]
  clear h
  have e : ∀ acc : List Int,l.foldl (fun a x => a ++ [k x]) acc = acc ++ l.map k:=by
    intro acc
    clear hl e0 e2 e3
    induction l generalizing acc with
    | nil => simp
    | cons x l ih => simp only [List.foldl_cons,ih,List.map_cons,List.append_assoc,List.cons_append,List.nil_append]
  rw [e,List.nil_append]
  simp only [go_sem,simprocAttr,slD]
def ckRange (r : Rg) : Int:=if r.lo < -1048576 ∨ 1048576 < r.lo ∨ r.ex < 0 ∨ 64 < r.ex ∨ 1048577 < r.lo + r.ex then 3 else 0
theorem okCheckRange (n : Nat) (r : Rg) : callP (level E (n+2)) 85 [enRD r] = some (.int .i64 (ckRange r)):=by
  rw [p85]
  simp only [enRD,enR]
  by_cases h1 : r.lo ≥ -1048576
  · by_cases h2 : r.lo ≤ 1048576
    · by_cases h3 : r.ex ≥ 0
      · by_cases h4 : r.ex ≤ 64
        · have e : wrp .i64 (r.lo + r.ex) = r.lo + r.ex:=wrp_ok (by omega)
          by_cases h5 : r.lo + r.ex > 1048577
          · simp only [go_sem,simprocAttr,okWithin,okWhen,h1,h2,h3,h4,h5,e]
            rw [ckRange,if_pos (by omega)]
          · simp only [go_sem,simprocAttr,okWithin,okWhen,h1,h2,h3,h4,h5,e]
            rw [ckRange,if_neg (by omega)]
        · simp only [go_sem,simprocAttr,okWithin,okWhen,h1,h2,h3,h4]
          rw [ckRange,if_pos (by omega)]
      · simp only [go_sem,simprocAttr,okWithin,okWhen,h1,h2,h3]
        rw [ckRange,if_pos (by omega)]
    · simp only [go_sem,simprocAttr,okWithin,okWhen,h1,h2]
      rw [ckRange,if_pos (by omega)]
  · simp only [go_sem,simprocAttr,okWithin,okWhen,h1]
    rw [ckRange,if_pos (by omega)]
def ckBox (b : Bx) : Int:=if b.length < 1 ∨ 3 < b.length then 13 else fnz [fnz (b.map ckRange),if 4096 < many b then 5 else 0]
theorem okFirstL (n : Nat) (es : List (List D)) (l : List Int) (he : es = l.map ic) (hl : l.length < 1000000000) : callP (level E (n+1)) 55 [.sl 1 es] = some (.int .i64 (fnz l)):=by
  subst he
  exact okFirst n false l hl
theorem okCheckBox (n : Nat) (b : Bool) (l : Bx) (hl : l.length < 1000000) : callP (level E (n+4)) 40 [enB b l] = some (.int .i64 (ckBox l)):=by
  rw [p40]
  by_cases h1 : l.length < 1
  · have h1' : (l.length : Int) < 1:=by omega
    simp only [go_sem,simprocAttr,h1',ckBox,h1,true_or]
  · have h1' : ¬ (l.length : Int) < 1:=by omega
    by_cases h2 : 3 < l.length
    · have h2' : (3 : Int) < l.length:=by omega
      simp only [go_sem,simprocAttr,h1',h2',ckBox,h1,h2,or_true]
    · have h2' : ¬ (3 : Int) < l.length:=by omega
      have hm:=okMapR (n+2) b l 85 ckRange hl (fun r => okCheckRange n r)
      have hf:=okFirst (n+2) false (l.map ckRange) (by simp; omega)
      have hf2:=okFirstL (n+2) [[.int .i64 (fnz (l.map ckRange))],[.int .i64 (if 4096 < many l then 5 else 0)]] [fnz (l.map ckRange),if 4096 < many l then 5 else 0] rfl (by simp)
      have hmm:=okMany (n+2) b l (by omega)
      by_cases h3 : 4096 < many l
      · simp only [if_pos h3] at hf2
        simp only [go_sem,simprocAttr,h1',h2',ckBox,h1,h2,or_self,hm,hf,hmm,h3,okWhen,hf2]
      · simp only [if_neg h3] at hf2
        simp only [go_sem,simprocAttr,h1',h2',ckBox,h1,h2,or_self,hm,hf,hmm,h3,okWhen,hf2]
end Go.Vm.P4D

/- Chapter 04,functions: Intersect,Union,Size. -/
set_option maxRecDepth 100000
set_option maxHeartbeats 1000000
namespace Go.Vm.P4D
open Go Go.Vm Go.Vm.P4
def clV (b : Bool) (sz : Nat) (es : List (List D)) : AV:=match b,es with | true,[] => .imm .nil | false,[] => .e0 sz | _,es => .ref 0 sz 0 es.length
def clO (sz : Nat) (es : List (List D)) : List AO:=match es with | [] => [] | es => [.arr sz es]
theorem okCloneB (n : Nat) (b : Bool) (l : Bx) (hl : l.length < 1000000) : callI (level E (n+1)) 66 [enB b l] = some (clV b 2 (l.map enR),clO 2 (l.map enR)):=by
  rw [i66]
  rcases l with _ | ⟨x,t⟩
  · cases b <;> simp only [go_sem,simprocAttr,slD,clV,clO,isNilSl,aEq] <;> rfl
  · have e : (t.length + 1) * 17 ≤ 70368744177664:=by simp at hl; omega
    have e0 : enB b (x :: t) = .sl 2 ((x :: t).map enR):=by cases b <;> rfl
    have e1 : clV b 2 ((x :: t).map enR) = .ref 0 2 0 (t.length + 1):=by cases b <;> simp [clV]
    rw [e0,e1]
    simp only [go_sem,simprocAttr,clO,e,isNilSl,aEq]
    done
def ckBoth (a b : Bx) : Int:=fnz [ckBox a,ckBox b,if a.length = b.length then 0 else 13]
theorem okCheckBoth (n : Nat) (b c : Bool) (l m : Bx) (hl : l.length < 1000000) (hm : m.length < 1000000) : callP (level E (n+5)) 77 [enB b l,enB c m] = some (.int .i64 (ckBoth l m)):=by
  rw [p77]
  have h1:=okCheckBox n b l hl
  have h2:=okCheckBox n c m hm
  have hf:=okFirstL (n+3) [[.int .i64 (ckBox l)],[.int .i64 (ckBox m)],[.int .i64 (if l.length = m.length then 0 else 13)]] [ckBox l,ckBox m,if l.length = m.length then 0 else 13] rfl (by simp)
  by_cases h : l.length = m.length
  · have h' : (l.length : Int) = m.length:=by omega
    simp only [if_pos h] at hf
    simp only [go_sem,simprocAttr,h1,h2,h,okWhen,ne_eq,not_true_eq_false,hf,ckBoth]
  · have h' : ¬ (l.length : Int) = m.length:=by omega
    simp only [if_neg h] at hf
    simp only [go_sem,simprocAttr,h1,h2,h,h',okWhen,ne_eq,not_false_eq_true,hf,ckBoth]
def interD (a b : Bx) : D:=if ckBoth a b = 0 then enB true (List.zipWith rmeet a b) else .nil
theorem okIntersect (n : Nat) (b c : Bool) (l m : Bx) (hl : l.length < 1000000) (hm : m.length < 1000000) (hlm : ckBoth l m = 0 → l.length = m.length) :
    callP (level E (n+6)) 25 [enB b l,enB c m] = some (.tup [interD l m,.int .i64 (ckBoth l m)]):=by
  rw [p25]
  have h1:=okCheckBoth n b c l m hl hm
  by_cases h : ckBoth l m = 0
  · have h2:=okZipped (n+4) b c l m 70 rmeet hl (Nat.le_of_eq (hlm h)) (fun r s => okMeet (n+3) r s)
    simp only [go_sem,simprocAttr,h1,h2,h,ne_eq,not_true_eq_false,interD]
  · simp only [go_sem,simprocAttr,h1,h,ne_eq,not_false_eq_true,interD]
def unionD (a b : Bx) : D × Int:=if ckBoth a b = 0 then (if many b = 0 then (enB false a,0) else if many a = 0 then (enB false b,0) else if ckBox (List.zipWith rspan a b) = 0 then (enB true (List.zipWith rspan a b),0) else (.nil,4)) else (.nil,ckBoth a b)
theorem okUnion (n : Nat) (b c : Bool) (l m : Bx) (hl : l.length < 1000000) (hm : m.length < 1000000) (hlm : ckBoth l m = 0 → l.length = m.length ∧ l ≠ [] ∧ m ≠ []) :
    callP (level E (n+6)) 26 [enB b l,enB c m] = some (.tup [(unionD l m).1,.int .i64 (unionD l m).2]):=by
  rw [p26]
  have h1:=okCheckBoth n b c l m hl hm
  have m1:=okMany (n+4) b l (by omega)
  have m2:=okMany (n+4) c m (by omega)
  have c1:=okCloneB (n+4) b l hl
  have c2:=okCloneB (n+4) c m hm
  by_cases h : ckBoth l m = 0
  · obtain ⟨k1,k2,k3⟩:=hlm h
    obtain ⟨x,t,rfl⟩ : ∃ x t,l = x :: t:=by rcases l with _ | ⟨x,t⟩; exact absurd rfl k2; exact ⟨x,t,rfl⟩
    obtain ⟨y,u,rfl⟩ : ∃ x t,m = x :: t:=by rcases m with _ | ⟨x,t⟩; exact absurd rfl k3; exact ⟨x,t,rfl⟩
    have e1 : ∀ b : Bool,clV b 2 ((x :: t).map enR) = .ref 0 2 0 (t.length + 1):=by intro b; cases b <;> simp [clV]
    have e2 : ∀ b : Bool,clV b 2 ((y :: u).map enR) = .ref 0 2 0 (u.length + 1):=by intro b; cases b <;> simp [clV]
    rw [e1] at c1
    rw [e2] at c2
    by_cases hb : many (y :: u) = 0
    · simp only [go_sem,simprocAttr,h1,h,m1,m2,hb,c1,clO,ne_eq,not_true_eq_false,unionD]
      rfl
    · by_cases ha : many (x :: t) = 0
      · simp only [go_sem,simprocAttr,h1,h,m1,m2,hb,ha,c2,clO,ne_eq,not_true_eq_false,unionD]
        rfl
      · have h2:=okZipped (n+4) b c (x :: t) (y :: u) 78 rspan hl (Nat.le_of_eq k1) (fun r s => okSpan (n+3) r s)
        have h3:=okCheckBox (n+1) true (List.zipWith rspan (x :: t) (y :: u)) (by simp at hl ⊢; omega)
        by_cases hc : ckBox (List.zipWith rspan (x :: t) (y :: u)) = 0
        · simp only [go_sem,simprocAttr,h1,h,m1,m2,hb,ha,h2,h3,hc,ne_eq,not_true_eq_false,unionD]
        · simp only [go_sem,simprocAttr,h1,h,m1,m2,hb,ha,h2,h3,hc,ne_eq,not_true_eq_false,not_false_eq_true,unionD]
  · simp only [go_sem,simprocAttr,h1,h,ne_eq,not_false_eq_true,unionD]
end Go.Vm.P4D

/- Chapter 04,functions: the points of a box,one after the other. -/
set_option maxRecDepth 100000
set_option maxHeartbeats 2000000
namespace Go.Vm.P4D
open Go Go.Vm Go.Vm.P4
def nextW : Bx → List Int → List Int
  | r :: b,x :: p => if ad x 1 < ad r.lo r.ex then ad x 1 :: p else r.lo :: nextW b p
  | _,p => p
def plc0 (l : Bx) : List Int:=(l.map Rg.lo ++ [0,0,0]).take 3
def plc (l : Bx) : Nat → List Int
  | 0 => plc0 l
  | i + 1 => nextW l (plc l i)
theorem nextW_len : ∀ (l : Bx) (p : List Int),(nextW l p).length = p.length
  | [],p => by simp [nextW]
  | r :: b,[] => by simp [nextW]
  | r :: b,x :: p => by
    unfold nextW; split
    · simp
    · simp [nextW_len b p]
theorem plc_len (l : Bx) : ∀ i,(plc l i).length = 3
  | 0 => by simp [plc,plc0]
  | i + 1 => by rw [plc,nextW_len,plc_len l i]
abbrev cI (p : List Int) : List AV:=p.map (fun x => AV.imm (.int .i64 x))
theorem slD_c {b : Bool} {sz : Nat} {x : List D} {r : List (List D)} : slD b sz (x :: r) = .sl sz (x :: r):=by cases b <;> rfl
theorem iL_cI : ∀ p : List Int,idsL (p.map (fun x => AV.imm (.int .i64 x))) = []
  | [] => rfl
  | x :: p => by simp only [List.map_cons,iL_cons,id_imm,iL_cI p,List.append_nil]
theorem rL_cI (f : Nat → Option Nat) : ∀ p : List Int,renL f (p.map (fun x => AV.imm (.int .i64 x))) = p.map (fun x => AV.imm (.int .i64 x))
  | [] => rfl
  | x :: p => by simp only [List.map_cons,rL_cons,rn_imm,rL_cI f p]
theorem okNext (n : Nat) (b : Bool) (l : Bx) (p : List Int) (q : List Int) (tot i : D) (e : Ext) (hl : l.length ≤ 3) (hp : p.length = 3) (hq : q = plc0 l) :
    outC ⟨0,false⟩ [1,1,0,1,1,0,0,0,0,0,0,0,0,0,1,1,0,0,0,0,0,0,0] (rnd (aCode (level E n) ⟨0,false⟩ b95_1) (head ⟨0,false⟩ [1,1,0,1,1,0,0,0,0,0,0,0,0,0,1,1,0,0,1,1,1,0,0])
      ⟨[.yield,.imm (.ptr [enB b l]),.junk,.ptr 0 0,.ptr 1 0,.junk,.junk,.junk,.junk,.junk,.junk,.junk,.junk,.junk,.imm tot,.imm i,.junk,.junk,.imm (enB b l),.imm (.int .i64 l.length),.imm (.int .i64 0),.junk,.junk],[.box (cI p),.box (cI q)],some e⟩) =
    some (.exit 4,⟨[.yield,.imm (.ptr [enB b l]),.junk,.ptr 0 0,.ptr 1 0,.junk,.junk,.junk,.junk,.junk,.junk,.junk,.junk,.junk,.imm tot,.imm i,.junk,.junk,.junk,.junk,.junk,.junk,.junk],[.box (cI (nextW l p)),.box (cI q)],some e⟩):=by
  obtain ⟨x,y,z,rfl⟩ : ∃ x y z,p = [x,y,z]:=by
    match p,hp with
    | [x,y,z],_ => exact ⟨x,y,z,rfl⟩
  subst hq
  have i0 : (0 : Int) < ((3 : Nat) : Int):=by decide
  have i1 : (1 : Int) < ((3 : Nat) : Int):=by decide
  have i2 : (2 : Int) < ((3 : Nat) : Int):=by decide
  have j1 : ((1 : Nat) : Int) = 1:=rfl
  have j2 : ((2 : Nat) : Int) = 2:=rfl
  have j3 : ((3 : Nat) : Int) = 3:=rfl
  rcases l with _ | ⟨r,_ | ⟨s,_ | ⟨t,_ | ⟨u,l⟩⟩⟩⟩
  · simp only [go_sem,Nat.reduceAdd,Nat.reduceSub,Nat.reduceMul,Nat.reduceDiv,Nat.reduceMod,Nat.reduceLeDiff,Nat.reduceLT,Nat.reduceBEq,Int.reduceToNat,Int.reduceLT,Int.reduceLE,Int.reduceEq,rnd_eq,nextW,cI,plc0]
  · by_cases h0 : ad x 1 < ad r.lo r.ex
    · have h0':=h0
      unfold ad at h0'
      simp only [go_sem,Nat.reduceAdd,Nat.reduceSub,Nat.reduceMul,Nat.reduceDiv,Nat.reduceMod,Nat.reduceLeDiff,Nat.reduceLT,Nat.reduceBEq,Int.reduceToNat,Int.reduceLT,Int.reduceLE,Int.reduceEq,rnd_eq,nextW,h0,h0',cI,plc0,i0,i1,i2,j1,j2,j3,ad,enB,slD_c,ia_sl]
    have h0':=h0
    unfold ad at h0'
    simp only [go_sem,Nat.reduceAdd,Nat.reduceSub,Nat.reduceMul,Nat.reduceDiv,Nat.reduceMod,Nat.reduceLeDiff,Nat.reduceLT,Nat.reduceBEq,Int.reduceToNat,Int.reduceLT,Int.reduceLE,Int.reduceEq,rnd_eq,nextW,h0,h0',cI,plc0,i0,i1,i2,j1,j2,j3,ad,enB,slD_c,ia_sl]
  · by_cases h0 : ad x 1 < ad r.lo r.ex
    · have h0':=h0
      unfold ad at h0'
      simp only [go_sem,Nat.reduceAdd,Nat.reduceSub,Nat.reduceMul,Nat.reduceDiv,Nat.reduceMod,Nat.reduceLeDiff,Nat.reduceLT,Nat.reduceBEq,Int.reduceToNat,Int.reduceLT,Int.reduceLE,Int.reduceEq,rnd_eq,nextW,h0,h0',cI,plc0,i0,i1,i2,j1,j2,j3,ad,enB,slD_c,ia_sl]
    have h0':=h0
    unfold ad at h0'
    by_cases h1 : ad y 1 < ad s.lo s.ex
    · have h1':=h1
      unfold ad at h1'
      simp only [go_sem,Nat.reduceAdd,Nat.reduceSub,Nat.reduceMul,Nat.reduceDiv,Nat.reduceMod,Nat.reduceLeDiff,Nat.reduceLT,Nat.reduceBEq,Int.reduceToNat,Int.reduceLT,Int.reduceLE,Int.reduceEq,rnd_eq,nextW,h0,h0',h1,h1',cI,plc0,i0,i1,i2,j1,j2,j3,ad,enB,slD_c,ia_sl]
    have h1':=h1
    unfold ad at h1'
    simp only [go_sem,Nat.reduceAdd,Nat.reduceSub,Nat.reduceMul,Nat.reduceDiv,Nat.reduceMod,Nat.reduceLeDiff,Nat.reduceLT,Nat.reduceBEq,Int.reduceToNat,Int.reduceLT,Int.reduceLE,Int.reduceEq,rnd_eq,nextW,h0,h0',h1,h1',cI,plc0,i0,i1,i2,j1,j2,j3,ad,enB,slD_c,ia_sl]
  · by_cases h0 : ad x 1 < ad r.lo r.ex
    · have h0':=h0
      unfold ad at h0'
      simp only [go_sem,Nat.reduceAdd,Nat.reduceSub,Nat.reduceMul,Nat.reduceDiv,Nat.reduceMod,Nat.reduceLeDiff,Nat.reduceLT,Nat.reduceBEq,Int.reduceToNat,Int.reduceLT,Int.reduceLE,Int.reduceEq,rnd_eq,nextW,h0,h0',cI,plc0,i0,i1,i2,j1,j2,j3,ad,enB,slD_c,ia_sl]
    have h0':=h0
    unfold ad at h0'
    by_cases h1 : ad y 1 < ad s.lo s.ex
    · have h1':=h1
      unfold ad at h1'
      simp only [go_sem,Nat.reduceAdd,Nat.reduceSub,Nat.reduceMul,Nat.reduceDiv,Nat.reduceMod,Nat.reduceLeDiff,Nat.reduceLT,Nat.reduceBEq,Int.reduceToNat,Int.reduceLT,Int.reduceLE,Int.reduceEq,rnd_eq,nextW,h0,h0',h1,h1',cI,plc0,i0,i1,i2,j1,j2,j3,ad,enB,slD_c,ia_sl]
    have h1':=h1
    unfold ad at h1'
    by_cases h2 : ad z 1 < ad t.lo t.ex
    · have h2':=h2
      unfold ad at h2'
      simp only [go_sem,Nat.reduceAdd,Nat.reduceSub,Nat.reduceMul,Nat.reduceDiv,Nat.reduceMod,Nat.reduceLeDiff,Nat.reduceLT,Nat.reduceBEq,Int.reduceToNat,Int.reduceLT,Int.reduceLE,Int.reduceEq,rnd_eq,nextW,h0,h0',h1,h1',h2,h2',cI,plc0,i0,i1,i2,j1,j2,j3,ad,enB,slD_c,ia_sl]
    have h2':=h2
    unfold ad at h2'
    simp only [go_sem,Nat.reduceAdd,Nat.reduceSub,Nat.reduceMul,Nat.reduceDiv,Nat.reduceMod,Nat.reduceLeDiff,Nat.reduceLT,Nat.reduceBEq,Int.reduceToNat,Int.reduceLT,Int.reduceLE,Int.reduceEq,rnd_eq,nextW,h0,h0',h1,h1',h2,h2',cI,plc0,i0,i1,i2,j1,j2,j3,ad,enB,slD_c,ia_sl]
  · simp at hl
end Go.Vm.P4D

/- Chapter 04,functions: the loop over the points of a box. -/
set_option maxRecDepth 100000
set_option maxHeartbeats 2000000
namespace Go.Vm.P4D
open Go Go.Vm Go.Vm.P4
theorem okBegin (n : Nat) (b : Bool) (l : Bx) (tot : D) (e : Ext) (hl : l.length ≤ 3) :
    outC ⟨0,false⟩ [1,1,1,1,1,0,0,0,0,0,0,0,0,0,0,0,0,0,0,0,0,0,0] (rnd (aCode (level E n) ⟨0,false⟩ b95_0) (head ⟨0,false⟩ [1,1,1,1,1,0,0,0,0,0,1,1,1,0,0,0,0,0,0,0,0,0,0])
      ⟨[.yield,.imm (.ptr [enB b l]),.imm tot,.ptr 0 0,.ptr 1 0,.junk,.junk,.junk,.junk,.junk,.imm (enB b l),.imm (.int .i64 l.length),.imm (.int .i64 0),.junk,.junk,.junk,.junk,.junk,.junk,.junk,.junk,.junk,.junk],[.box (cI [0,0,0]),.box (cI [0,0,0])],some e⟩) =
    some (.exit 0,⟨[.yield,.imm (.ptr [enB b l]),.imm tot,.ptr 0 0,.ptr 1 0,.junk,.junk,.junk,.junk,.junk,.junk,.junk,.junk,.junk,.junk,.junk,.junk,.junk,.junk,.junk,.junk,.junk,.junk],[.box (cI [0,0,0]),.box (cI (plc0 l))],some e⟩):=by
  have i0 : (0 : Int) < ((3 : Nat) : Int):=by decide
  have i1 : (1 : Int) < ((3 : Nat) : Int):=by decide
  have i2 : (2 : Int) < ((3 : Nat) : Int):=by decide
  have j1 : ((1 : Nat) : Int) = 1:=rfl
  have j2 : ((2 : Nat) : Int) = 2:=rfl
  have j3 : ((3 : Nat) : Int) = 3:=rfl
  rcases l with _ | ⟨r,_ | ⟨s,_ | ⟨t,_ | ⟨u,l⟩⟩⟩⟩
  · simp only [go_sem,Nat.reduceAdd,Nat.reduceSub,Nat.reduceMul,Nat.reduceDiv,Nat.reduceMod,Nat.reduceLeDiff,Nat.reduceLT,Nat.reduceBEq,Int.reduceToNat,Int.reduceLT,Int.reduceLE,Int.reduceEq,rnd_eq,cI,plc0]
  · simp only [go_sem,Nat.reduceAdd,Nat.reduceSub,Nat.reduceMul,Nat.reduceDiv,Nat.reduceMod,Nat.reduceLeDiff,Nat.reduceLT,Nat.reduceBEq,Int.reduceToNat,Int.reduceLT,Int.reduceLE,Int.reduceEq,rnd_eq,cI,plc0,i0,i1,i2,j1,j2,j3,enB,slD_c,ia_sl]
  · simp only [go_sem,Nat.reduceAdd,Nat.reduceSub,Nat.reduceMul,Nat.reduceDiv,Nat.reduceMod,Nat.reduceLeDiff,Nat.reduceLT,Nat.reduceBEq,Int.reduceToNat,Int.reduceLT,Int.reduceLE,Int.reduceEq,rnd_eq,cI,plc0,i0,i1,i2,j1,j2,j3,enB,slD_c,ia_sl]
  · simp only [go_sem,Nat.reduceAdd,Nat.reduceSub,Nat.reduceMul,Nat.reduceDiv,Nat.reduceMod,Nat.reduceLeDiff,Nat.reduceLT,Nat.reduceBEq,Int.reduceToNat,Int.reduceLT,Int.reduceLE,Int.reduceEq,rnd_eq,cI,plc0,i0,i1,i2,j1,j2,j3,enB,slD_c,ia_sl]
  · simp at hl
theorem getRange {N i x : Nat} (h : (List.range N)[i]? = some x) : x = i:=by
  obtain ⟨h1,h2⟩:=List.getElem?_eq_some_iff.1 h
  simpa using h2.symm
theorem okAll1 {β : Type} (n : Nat) (b : Bool) (l : Bx) (hl : l.length ≤ 3) (N : Nat) (hN : many l = N) (hN2 : N < 1000000000) (St : β → Ext) (I : β → Nat → Prop) (g : β → Nat → β ⊕ Ext) (a0 : β) (h0 : I a0 0)
    (hr : ∀ a i,I a i → i < N → ((level E (n+1)).round (St a) [.int .i64 (i : Int),enP (plc l i)] = match g a i with | .inl a' => some (St a',true) | .inr e => some (e,false)) ∧ ∀ a',g a i = .inl a' → I a' (i + 1)) :
    (level E (n+2)).call 95 [.yield,.imm (.ptr [enB b l])] [] (some (St a0)) = some (.imm (.tup []),[],some (runL g St a0 (List.range N))):=by
  have e : (level E (n+2)).call 95 [.yield,.imm (.ptr [enB b l])] [] (some (St a0)) = fin [] (aCode (level E (n+1)) ⟨0,false⟩ c95 ⟨[.yield,.imm (.ptr [enB b l]),.junk,.junk,.junk,.junk,.junk,.junk,.junk,.junk,.junk,.junk,.junk,.junk,.junk,.junk,.junk,.junk,.junk,.junk,.junk,.junk,.junk],[],some (St a0)⟩):=call_go e95 rfl rfl rfl rfl
  rw [e]
  have hm:=okMany n b l (by omega)
  have hb:=okBegin (n+1) b l (.int .i64 (many l)) (St a0) hl
  simp only [cI,List.map_cons,List.map_nil] at hb
  simp only [go_sem,Nat.reduceAdd,Nat.reduceSub,Nat.reduceMul,Nat.reduceDiv,Nat.reduceMod,Nat.reduceLeDiff,Nat.reduceLT,Nat.reduceBEq,Int.reduceToNat,Int.reduceLT,Int.reduceLE,Int.reduceEq,hm]
  rw [hb]
  obtain ⟨u,v,w,hq⟩ : ∃ u v w,plc0 l = [u,v,w]:=by
    match hh : plc0 l,(show (plc0 l).length = 3 from plc_len l 0) with
    | [u,v,w],_ => exact ⟨u,v,w,rfl⟩
  simp only [go_sem,Nat.reduceAdd,Nat.reduceSub,Nat.reduceMul,Nat.reduceDiv,Nat.reduceMod,Nat.reduceLeDiff,Nat.reduceLT,Nat.reduceBEq,Int.reduceToNat,Int.reduceLT,Int.reduceLE,Int.reduceEq,hq,cI]
  have h:=loop_run (f:=aCode (level E (n+1)) ⟨0,false⟩ b95_2) (h:=head ⟨0,false⟩ [1,1,0,1,1,0,0,0,0,0,0,0,0,0,1,1,0,0,0,0,0,0,0]) (Φ:=outC ⟨0,false⟩ [0,0,0,0,0,0,0,0,0,0,0,0,0,0,0,0,0,0,0,0,0,0,0]) (List.range N) (fun (a : β) i => ⟨[.yield,.imm (.ptr [enB b l]),.junk,.ptr 0 0,.ptr 1 0,.junk,.junk,.junk,.junk,.junk,.junk,.junk,.junk,.junk,.imm (.int .i64 (many l)),.imm (.int .i64 i),.junk,.junk,.junk,.junk,.junk,.junk,.junk],[.box (cI (plc l i)),.box (cI [u,v,w])],some (St a)⟩) I
    (fun a i => match g a i with | .inl a' => .inl a' | .inr e => .inr (some (.ret,⟨[.junk,.junk,.junk,.junk,.junk,.junk,.junk,.junk,.junk,.junk,.junk,.junk,.junk,.junk,.junk,.junk,.junk,.junk,.junk,.junk,.junk,.junk,.junk],[],some e⟩))) (fun a => some (.exit 2,⟨[.junk,.junk,.junk,.junk,.junk,.junk,.junk,.junk,.junk,.junk,.junk,.junk,.junk,.junk,.junk,.junk,.junk,.junk,.junk,.junk,.junk,.junk,.junk],[],some (St a)⟩)) a0 h0
    (fun a i j hI h2 h1 => by
      have:=getRange h1
      subst this
      rw [List.length_range] at h2
      obtain ⟨k1,k2⟩:=hr a j hI h2
      obtain ⟨x,y,z,hp⟩ : ∃ x y z,plc l j = [x,y,z]:=by
        match hh : plc l j,plc_len l j with
        | [x,y,z],_ => exact ⟨x,y,z,rfl⟩
      have hx:=fun e => okNext (n+1) b l [x,y,z] [u,v,w] (.int .i64 (many l)) (.int .i64 (j : Int)) e hl rfl hq.symm
      rw [hp] at k1 ⊢
      simp only [enP,List.map_cons,List.map_nil] at k1
      have hlt : (j : Int) < many l:=by omega
      rw [rnd_eq]
      cases hg : g a j with
      | inl a' =>
        rw [hg] at k1
        dsimp only at k1
        refine ⟨?_,fun b hb => by injection hb with hb; subst hb; exact k2 a' hg⟩
        simp only [cI,List.map_cons,List.map_nil] at hx
        simp only [go_sem,Nat.reduceAdd,Nat.reduceSub,Nat.reduceMul,Nat.reduceDiv,Nat.reduceMod,Nat.reduceLeDiff,Nat.reduceLT,Nat.reduceBEq,Int.reduceToNat,Int.reduceLT,Int.reduceLE,Int.reduceEq,hlt,k1,cI]
        rw [hx]
        simp only [go_sem,Nat.reduceAdd,Nat.reduceSub,Nat.reduceMul,Nat.reduceDiv,Nat.reduceMod,Nat.reduceLeDiff,Nat.reduceLT,Nat.reduceBEq,Int.reduceToNat,Int.reduceLT,Int.reduceLE,Int.reduceEq,plc,hp,iL_cI,rL_cI]
        rw [wrpS (by omega)]
      | inr e =>
        rw [hg] at k1
        dsimp only at k1
        refine ⟨?_,fun b hb => by cases hb⟩
        simp only [go_sem,Nat.reduceAdd,Nat.reduceSub,Nat.reduceMul,Nat.reduceDiv,Nat.reduceMod,Nat.reduceLeDiff,Nat.reduceLT,Nat.reduceBEq,Int.reduceToNat,Int.reduceLT,Int.reduceLE,Int.reduceEq,hlt,k1,cI])
    (fun a _ => by
      rw [rnd_eq]
      rw [List.length_range]
      obtain ⟨x,y,z,hp⟩ : ∃ x y z,plc l N = [x,y,z]:=by
        match hh : plc l N,plc_len l N with
        | [x,y,z],_ => exact ⟨x,y,z,rfl⟩
      have hlt : ¬ (N : Int) < many l:=by omega
      simp only [go_sem,Nat.reduceAdd,Nat.reduceSub,Nat.reduceMul,Nat.reduceDiv,Nat.reduceMod,Nat.reduceLeDiff,Nat.reduceLT,Nat.reduceBEq,Int.reduceToNat,Int.reduceLT,Int.reduceLE,Int.reduceEq,hlt,hp,cI])
  rw [cast_0] at h
  simp only [plc,hq,cI,List.map_cons,List.map_nil] at h
  rw [h]
  clear h
  have k : ∀ (r : List Nat) (a : β),runL (γ:=Option (AExit × S)) (fun a i => match g a i with | .inl a' => .inl a' | .inr e => .inr (some (.ret,⟨[.junk,.junk,.junk,.junk,.junk,.junk,.junk,.junk,.junk,.junk,.junk,.junk,.junk,.junk,.junk,.junk,.junk,.junk,.junk,.junk,.junk,.junk,.junk],[],some e⟩))) (fun a => some (.exit 2,⟨[.junk,.junk,.junk,.junk,.junk,.junk,.junk,.junk,.junk,.junk,.junk,.junk,.junk,.junk,.junk,.junk,.junk,.junk,.junk,.junk,.junk,.junk,.junk],[],some (St a)⟩)) a r = some (.ret,⟨[.junk,.junk,.junk,.junk,.junk,.junk,.junk,.junk,.junk,.junk,.junk,.junk,.junk,.junk,.junk,.junk,.junk,.junk,.junk,.junk,.junk,.junk,.junk],[],some (runL g St a r)⟩) ∨
      runL (γ:=Option (AExit × S)) (fun a i => match g a i with | .inl a' => .inl a' | .inr e => .inr (some (.ret,⟨[.junk,.junk,.junk,.junk,.junk,.junk,.junk,.junk,.junk,.junk,.junk,.junk,.junk,.junk,.junk,.junk,.junk,.junk,.junk,.junk,.junk,.junk,.junk],[],some e⟩))) (fun a => some (.exit 2,⟨[.junk,.junk,.junk,.junk,.junk,.junk,.junk,.junk,.junk,.junk,.junk,.junk,.junk,.junk,.junk,.junk,.junk,.junk,.junk,.junk,.junk,.junk,.junk],[],some (St a)⟩)) a r = some (.exit 2,⟨[.junk,.junk,.junk,.junk,.junk,.junk,.junk,.junk,.junk,.junk,.junk,.junk,.junk,.junk,.junk,.junk,.junk,.junk,.junk,.junk,.junk,.junk,.junk],[],some (runL g St a r)⟩):=by
    intro r
    induction r with
    | nil => intro a; exact .inr rfl
    | cons i r ih =>
      intro a
      simp only [runL_cons]
      cases hg : g a i with
      | inl a' => exact ih a'
      | inr e => exact .inl rfl
  rcases k (List.range N) a0 with k | k <;> rw [k] <;> simp only [go_sem,Nat.reduceAdd,Nat.reduceSub,Nat.reduceMul,Nat.reduceDiv,Nat.reduceMod,Nat.reduceLeDiff,Nat.reduceLT,Nat.reduceBEq,Int.reduceToNat,Int.reduceLT,Int.reduceLE,Int.reduceEq]
end Go.Vm.P4D

/- Chapter 04,functions: points. -/
set_option maxRecDepth 100000
set_option maxHeartbeats 2000000
namespace Go.Vm.P4D
open Go Go.Vm Go.Vm.P4
theorem okCloneI (n : Nat) (b : Bool) (l : List Int) (hl : l.length < 1000000) : callI (level E (n+1)) 79 [slD b 1 (l.map ic)] = some (clV b 1 (l.map ic),clO 1 (l.map ic)):=by
  rw [i79]
  rcases l with _ | ⟨x,t⟩
  · cases b <;> simp only [go_sem,simprocAttr,slD,clV,clO,isNilSl,aEq] <;> rfl
  · have e : (t.length + 1) * 9 ≤ 70368744177664:=by simp at hl; omega
    have e0 : slD b 1 ((x :: t).map ic) = .sl 1 ((x :: t).map ic):=by cases b <;> rfl
    have e1 : clV b 1 ((x :: t).map ic) = .ref 0 1 0 (t.length + 1):=by cases b <;> simp [clV]
    rw [e0,e1]
    simp only [go_sem,simprocAttr,clO,e,isNilSl,aEq]
    done
theorem okAll (n : Nat) (b : Bool) (l : Bx) : callP (level E (n+1)) 65 [enB b l] = some (.fn 95 [] [.ptr [enB b l]]):=by
  rw [p65]
  simp only [go_sem,simprocAttr]
  done
theorem okOf (n : Nat) (c : Bool) (p : List Int) (hp : p.length ≤ 3) : callP (level E (n+1)) 75 [slD c 1 (p.map ic)] = some (enP ((p ++ [0,0,0]).take 3)):=by
  rw [p75]
  rcases p with _ | ⟨x,_ | ⟨y,_ | ⟨z,_ | ⟨u,p⟩⟩⟩⟩
  · simp only [go_sem,simprocAttr,enP,src_0]
  · simp only [go_sem,simprocAttr,enP,slD_c,ic]
  · simp only [go_sem,simprocAttr,enP,slD_c,ic]
  · simp only [go_sem,simprocAttr,enP,slD_c,ic]
  · simp at hp
theorem okCheckPoint (n : Nat) (b c : Bool) (l : Bx) (p : List Int) (hl : l.length < 1000000) : callP (level E (n+5)) 80 [enB b l,slD c 1 (p.map ic)] = some (.int .i64 (fnz [ckBox l,if p.length = l.length then 0 else 13])):=by
  rw [p80]
  have h1:=okCheckBox n b l hl
  have hf:=okFirstL (n+3) [[.int .i64 (ckBox l)],[.int .i64 (if p.length = l.length then 0 else 13)]] [ckBox l,if p.length = l.length then 0 else 13] rfl (by simp)
  by_cases h : p.length = l.length
  · simp only [if_pos h] at hf
    simp only [go_sem,simprocAttr,h1,h,okWhen,ne_eq,not_true_eq_false,hf]
  · have h' : ¬ (p.length : Int) = l.length:=by omega
    simp only [if_neg h] at hf
    simp only [go_sem,simprocAttr,h1,h,h',okWhen,ne_eq,not_false_eq_true,hf]
end Go.Vm.P4D

/- Chapter 04,functions: Has,Index,Points. -/
set_option maxRecDepth 100000
set_option maxHeartbeats 2000000
namespace Go.Vm.P4D
open Go Go.Vm Go.Vm.P4
def ckPoint (l : Bx) (p : List Int) : Int:=fnz [ckBox l,if p.length = l.length then 0 else 13]
theorem ckPoint0 {l : Bx} {p : List Int} (h : ckPoint l p = 0) : ckBox l = 0 ∧ p.length = l.length:=by
  have h1:=fz0 _ h (ckBox l) (by simp)
  have h3:=fz0 _ h (if p.length = l.length then 0 else 13) (by simp)
  refine ⟨h1,?_⟩
  split at h3
  · assumption
  · omega
theorem ckBox0 {l : Bx} (h : ckBox l = 0) : 1 ≤ l.length ∧ l.length ≤ 3 ∧ (∀ r ∈ l,ckRange r = 0) ∧ many l ≤ 4096:=by
  unfold ckBox at h
  split at h
  · omega
  · have h1:=fz0 _ h (fnz (l.map ckRange)) (by simp)
    have h3:=fz0 _ h (if 4096 < many l then 5 else 0) (by simp)
    refine ⟨by omega,by omega,fun r hr => fz0 _ h1 _ (List.mem_map_of_mem hr),?_⟩
    split at h3
    · omega
    · omega
theorem okIndex (n : Nat) (b c : Bool) (l : Bx) (p : List Int) (hl : l.length < 1000000) : callP (level E (n+6)) 36 [enB b l,slD c 1 (p.map ic)] =
    some (.tup (if ckPoint l p = 0 then (if hasB l p then [.int .i64 (elt l ((p ++ [0,0,0]).take 3) (strides 1 l) 0),.int .i64 0] else [.int .i64 0,.int .i64 14]) else [.int .i64 0,.int .i64 (ckPoint l p)])):=by
  rw [p36]
  have h1 : callP (level E (n+5)) 80 [enB b l,slD c 1 (p.map ic)] = some (.int .i64 (ckPoint l p)):=okCheckPoint n b c l p hl
  by_cases h : ckPoint l p = 0
  · obtain ⟨k1,k2⟩:=ckPoint0 h
    obtain ⟨k3,k4,_,_⟩:=ckBox0 k1
    have h2:=okHas0 (n+4) b c l p (by omega) (by omega)
    have h3:=okDense (n+4) b l (by omega)
    have h4:=okOf (n+4) c p (by omega)
    have h5:=okElement (n+4) b true l (strides 1 l) ((p ++ [0,0,0]).take 3) k4 (by rw [strides_len]; omega) (by simp)
    cases hh : hasB l p
    · rw [hh] at h2
      simp only [go_sem,simprocAttr,h1,h,ne_eq,not_true_eq_false,h2]
    · rw [hh] at h2
      simp only [go_sem,simprocAttr,h1,h,ne_eq,not_true_eq_false,h2,h3,h4,h5]
  · simp only [go_sem,simprocAttr,h1,h,ne_eq,not_false_eq_true]
def pD (l : Bx) (i : Nat) : D:=.sl 1 (((plc l i).take l.length).map ic)
def PoSt (b : Bool) (l : Bx) (acc : List (List D)) : Ext :=
  ⟨[9,10],b34_0,b34_1,[.imm (enB b l),.imm .nil,.imm (.int .i64 0),.imm (.ptr [enB b l]),.imm (.int .i64 0),.ptr 0 0,.junk,.imm (.bool false),.imm (.fn 95 [] [.ptr [enB b l]]),.junk,.junk],.box [vK 1 1 acc] :: oK 1 acc,0,none⟩
theorem okPointsR (n : Nat) (b : Bool) (l : Bx) (h1 : 1 ≤ l.length) (h3 : l.length ≤ 3) (acc : List (List D)) (i : Nat) (ha : acc.length = i) (hi : i < 1000000) :
    (level E (n+2)).round (PoSt b l acc) [.int .i64 (i : Int),enP (plc l i)] = some (PoSt b l (acc ++ [[pD l i]]),true):=by
  obtain ⟨x,y,z,hp⟩ : ∃ x y z,plc l i = [x,y,z]:=by
    match hh : plc l i,plc_len l i with
    | [x,y,z],_ => exact ⟨x,y,z,rfl⟩
  have c1:=okCloneI n false [x] (by simp)
  have c2:=okCloneI n false [x,y] (by simp)
  have c3:=okCloneI n false [x,y,z] (by simp)
  unfold PoSt pD
  rw [hp,round_go rfl]
  have e1 : (acc.length + 1) * 25 ≤ 70368744177664:=by omega
  simp only [clV,clO,slD,List.map_cons,List.map_nil,ic] at c1 c2 c3
  rcases l with _ | ⟨r,_ | ⟨s,_ | ⟨t,_ | ⟨u,l⟩⟩⟩⟩
  · simp at h1
  · rcases acc with _ | ⟨w,acc⟩
    · simp only [go_sem,simprocAttr,enP,vK,oK,ic,c1]
    · simp only [List.length_cons] at e1
      simp only [go_sem,simprocAttr,enP,vK,oK,ic,c1,e1]
  · rcases acc with _ | ⟨w,acc⟩
    · simp only [go_sem,simprocAttr,enP,vK,oK,ic,c2]
    · simp only [List.length_cons] at e1
      simp only [go_sem,simprocAttr,enP,vK,oK,ic,c2,e1]
  · rcases acc with _ | ⟨w,acc⟩
    · simp only [go_sem,simprocAttr,enP,vK,oK,ic,c3]
    · simp only [List.length_cons] at e1
      simp only [go_sem,simprocAttr,enP,vK,oK,ic,c3,e1]
  · simp at h3
end Go.Vm.P4D

/- Chapter 04,functions: Points of right boxes. -/
set_option maxRecDepth 100000
set_option maxHeartbeats 2000000
namespace Go.Vm.P4D
open Go Go.Vm Go.Vm.P4
theorem ckRange0 {r : Rg} (h : ckRange r = 0) : -1048576 ≤ r.lo ∧ r.lo ≤ 1048576 ∧ 0 ≤ r.ex ∧ r.ex ≤ 64 ∧ r.lo + r.ex ≤ 1048577:=by
  unfold ckRange at h
  split at h
  · omega
  · omega
theorem ml_ok {a b m : Int} (ha : 0 ≤ a) (ha2 : a ≤ m) (hb : 0 ≤ b) (hb2 : b ≤ 64) (hm : m ≤ 1000000) : ml a b = a * b ∧ 0 ≤ a * b ∧ a * b ≤ m * 64:=by
  have h1 : 0 ≤ a * b:=Int.mul_nonneg ha hb
  have h2 : a * b ≤ m * 64:=Int.mul_le_mul ha2 hb2 hb (by omega)
  exact ⟨wrp_ok (by omega),h1,h2⟩
theorem many_nn {l : Bx} (hl : l.length ≤ 3) (h : ∀ r ∈ l,ckRange r = 0) : 0 ≤ many l ∧ many l ≤ 262144:=by
  rcases l with _ | ⟨r,_ | ⟨s,_ | ⟨t,_ | ⟨u,l⟩⟩⟩⟩
  · exact ⟨by decide,by decide⟩
  · have hr:=ckRange0 (h r (by simp))
    obtain ⟨e1,e2,e3⟩:=ml_ok (a:=1) (m:=1) (by omega) (by omega) hr.2.2.1 hr.2.2.2.1 (by omega)
    simp only [many,List.foldl_cons,List.foldl_nil,e1]
    exact ⟨e2,by omega⟩
  · have hr:=ckRange0 (h r (by simp))
    have hs:=ckRange0 (h s (by simp))
    obtain ⟨e1,e2,e3⟩:=ml_ok (a:=1) (m:=1) (by omega) (by omega) hr.2.2.1 hr.2.2.2.1 (by omega)
    obtain ⟨f1,f2,f3⟩:=ml_ok (m:=64) e2 (by omega) hs.2.2.1 hs.2.2.2.1 (by omega)
    simp only [many,List.foldl_cons,List.foldl_nil,e1,f1]
    exact ⟨f2,by omega⟩
  · have hr:=ckRange0 (h r (by simp))
    have hs:=ckRange0 (h s (by simp))
    have ht:=ckRange0 (h t (by simp))
    obtain ⟨e1,e2,e3⟩:=ml_ok (a:=1) (m:=1) (by omega) (by omega) hr.2.2.1 hr.2.2.2.1 (by omega)
    obtain ⟨f1,f2,f3⟩:=ml_ok (m:=64) e2 (by omega) hs.2.2.1 hs.2.2.2.1 (by omega)
    obtain ⟨g1,g2,g3⟩:=ml_ok (m:=4096) f2 (by omega) ht.2.2.1 ht.2.2.2.1 (by omega)
    simp only [many,List.foldl_cons,List.foldl_nil,e1,f1,g1]
    exact ⟨g2,by omega⟩
  · simp at hl
theorem many_nat {l : Bx} (hc : ckBox l = 0) : ∃ N : Nat,many l = N ∧ N ≤ 4096:=by
  obtain ⟨h1,h2,h3,h4⟩:=ckBox0 hc
  obtain ⟨h5,h6⟩:=many_nn h2 h3
  exact ⟨(many l).toNat,by omega,by omega⟩
theorem fold_snoc {α β : Type} (f : α → β) : ∀ (l : List α) (acc : List β),l.foldl (fun a x => a ++ [f x]) acc = acc ++ l.map f
  | [],acc => by simp
  | x :: l,acc => by simp only [List.foldl_cons,fold_snoc f l,List.map_cons,List.append_assoc,List.cons_append,List.nil_append]
def ptsD (l : Bx) (N : Nat) : D:=slD true 1 ((List.range N).map fun i => [pD l i])
theorem okPointsS (n : Nat) (b : Bool) (l : Bx) (hc : ckBox l = 0) (N : Nat) (hN : many l = N) : callP (level E (n+5)) 34 [enB b l] = some (.tup [ptsD l N,.int .i64 0]):=by
  obtain ⟨h1,h2,h3,h4⟩:=ckBox0 hc
  have hN2 : N ≤ 4096:=by omega
  rw [p34]
  have c1:=okCheckBox n b l (by omega)
  have a1:=okAll (n+3) b l
  have h:=okAll1 (n+2) b l h2 N hN (by omega) (PoSt b l) (fun a i => a.length = i) (fun a i => .inl (a ++ [[pD l i]])) [] rfl
    (fun a i hI hi => ⟨okPointsR (n+1) b l h1 h2 a i hI (by omega),fun a' ha => by injection ha with ha; subst ha; simp [hI]⟩)
  rw [runL_fold,fold_snoc,List.nil_append] at h
  simp only [PoSt,enB,vK,oK] at h
  simp only [go_sem,simprocAttr,c1,hc,ne_eq,not_true_eq_false,a1]
  rw [h]
  cases hq : (List.range N).map (fun i => [pD l i]) with
  | nil =>
    simp only [go_sem,simprocAttr,ptsD,hq] <;> rfl
  | cons w t =>
    simp only [go_sem,simprocAttr,ptsD,hq] <;> rfl
end Go.Vm.P4D

/- Chapter 04,functions: values and elements are checked. -/
set_option maxRecDepth 100000
set_option maxHeartbeats 2000000
namespace Go.Vm.P4D
open Go Go.Vm Go.Vm.P4
theorem okIsKind (n : Nat) (k : Int) : callP (level E (n+1)) 93 [.int .i64 k] = some (.bool (decide (0 ≤ k) && decide (k < 11))):=by
  rw [p93]
  by_cases h : k ≥ 0
  · have h' : 0 ≤ k:=h
    simp only [go_sem,Nat.reduceAdd,Nat.reduceSub,Nat.reduceMul,Nat.reduceDiv,Nat.reduceMod,Nat.reduceLeDiff,Nat.reduceLT,Nat.reduceBEq,Int.reduceToNat,Int.reduceLT,Int.reduceLE,Int.reduceEq,h,h']
  · have h' : ¬ 0 ≤ k:=h
    simp only [go_sem,Nat.reduceAdd,Nat.reduceSub,Nat.reduceMul,Nat.reduceDiv,Nat.reduceMod,Nat.reduceLeDiff,Nat.reduceLT,Nat.reduceBEq,Int.reduceToNat,Int.reduceLT,Int.reduceLE,Int.reduceEq,h,h']
def ckKind (k : Int) : Int:=if 0 ≤ k ∧ k < 11 then 0 else 11
theorem okCheckKind (n : Nat) (k : Int) : callP (level E (n+2)) 56 [.int .i64 k] = some (.int .i64 (ckKind k)):=by
  rw [p56]
  have h1:=okIsKind n k
  by_cases h : 0 ≤ k
  · by_cases h2 : k < 11
    · simp only [go_sem,Nat.reduceAdd,Nat.reduceSub,Nat.reduceMul,Nat.reduceDiv,Nat.reduceMod,Nat.reduceLeDiff,Nat.reduceLT,Nat.reduceBEq,Int.reduceToNat,Int.reduceLT,Int.reduceLE,Int.reduceEq,h1,h,h2,okNwhen,ckKind,and_self,Bool.false_eq_true]
    · simp only [go_sem,Nat.reduceAdd,Nat.reduceSub,Nat.reduceMul,Nat.reduceDiv,Nat.reduceMod,Nat.reduceLeDiff,Nat.reduceLT,Nat.reduceBEq,Int.reduceToNat,Int.reduceLT,Int.reduceLE,Int.reduceEq,h1,h,h2,okNwhen,ckKind,and_false,Bool.false_eq_true]
  · simp only [go_sem,Nat.reduceAdd,Nat.reduceSub,Nat.reduceMul,Nat.reduceDiv,Nat.reduceMod,Nat.reduceLeDiff,Nat.reduceLT,Nat.reduceBEq,Int.reduceToNat,Int.reduceLT,Int.reduceLE,Int.reduceEq,h1,h,okNwhen,ckKind,false_and,Bool.false_eq_true]
def bits8 (v : Int) : Prop:=wrp .u64 ((BitVec.ofInt 64 v &&& ~~~ BitVec.ofInt 64 255).toNat : Nat) = 0
theorem okOnes8 (n : Nat) : callP (level E (n+1)) 103 [.int .i64 8] = some (.int .u64 255):=by
  rw [p103]
  have s8 : aBin .shl (.imm (.int .u64 1)) (.imm (.int .i64 8)) = some (.imm (.int .u64 256)):=rfl
  have w8 : wrp .u64 (256 - 1) = 255:=by decide
  simp only [go_sem,Nat.reduceAdd,Nat.reduceSub,Nat.reduceMul,Nat.reduceDiv,Nat.reduceMod,Nat.reduceLeDiff,Nat.reduceLT,Nat.reduceBEq,Int.reduceToNat,Int.reduceLT,Int.reduceLE,Int.reduceEq,s8,w8]
theorem okRight8 (n : Nat) (v : Int) (hv : bits8 v) : callP (level E (n+2)) 97 [.int .i64 1,.int .u64 v] = some (.bool true):=by
  rw [p97]
  have h:=okOnes8 n
  have hv' : wrp .u64 ((BitVec.ofInt 64 v &&& ~~~ BitVec.ofInt 64 255).toNat : Nat) = 0:=hv
  simp only [go_sem,Nat.reduceAdd,Nat.reduceSub,Nat.reduceMul,Nat.reduceDiv,Nat.reduceMod,Nat.reduceLeDiff,Nat.reduceLT,Nat.reduceBEq,Int.reduceToNat,Int.reduceLT,Int.reduceLE,Int.reduceEq,h]
  exact congrArg (fun b => some (D.bool b)) (decide_eq_true hv)
theorem okCheckValue8 (n : Nat) (v : Int) (hv : bits8 v) : callP (level E (n+3)) 73 [.agg [.int .i64 1,.int .u64 v]] = some (.int .i64 0):=by
  rw [p73]
  have h:=okRight8 n v hv
  have h1:=okIsKind (n+1) 1
  simp only [go_sem,Nat.reduceAdd,Nat.reduceSub,Nat.reduceMul,Nat.reduceDiv,Nat.reduceMod,Nat.reduceLeDiff,Nat.reduceLT,Nat.reduceBEq,Int.reduceToNat,Int.reduceLT,Int.reduceLE,Int.reduceEq,h1,h,okNwhen,Bool.false_eq_true]
theorem okCheck8 (n : Nat) (v : Int) (hv : bits8 v) : callP (level E (n+4)) 61 [.int .i64 1,.int .u64 v] = some (.int .i64 0):=by
  rw [p61]
  have h:=okCheckValue8 n v hv
  simp only [go_sem,Nat.reduceAdd,Nat.reduceSub,Nat.reduceMul,Nat.reduceDiv,Nat.reduceMod,Nat.reduceLeDiff,Nat.reduceLT,Nat.reduceBEq,Int.reduceToNat,Int.reduceLT,Int.reduceLE,Int.reduceEq,h,ne_eq,not_true_eq_false,okWhen,Bool.false_eq_true]
def ub (v : Int) : List D:=[.int .u64 v]
attribute [go_sem] ub
theorem okMapU (n : Nat) (b : Bool) (l : List Int) (f : FuncId) (caps : List D) (k : Int → Int) (hl : l.length < 1000000) (H : ∀ v ∈ l,callP (level E n) f ([.int .u64 v] ++ caps) = some (.int .i64 (k v))) :
    callP (level E (n+1)) 100 [slD b 1 (l.map ub),.fn f [] caps] = some (slD false 1 ((l.map k).map ic)):=by
  rw [p100]
  have e0 : (8 : Int) * (l.length : Int) ≤ 70368744177664:=by omega
  have e2 : (l.length : Int) ≤ 70368744177664:=by omega
  have e3 : (0 : Int) ≤ (l.length : Int):=by omega
  simp only [go_sem,Nat.reduceAdd,Nat.reduceSub,Nat.reduceMul,Nat.reduceDiv,Nat.reduceMod,Nat.reduceLeDiff,Nat.reduceLT,Nat.reduceBEq,Int.reduceToNat,Int.reduceLT,Int.reduceLE,Int.reduceEq,e0,e2,e3]
  have h:=loop_fold (f:=aCode (level E (n)) ⟨0,false⟩ b100_0) (h:=head ⟨0,false⟩ [0,1,0,1,0,1,1,1,0]) (Φ:=outC ⟨0,false⟩ [0,0,0,1,0,0,0,0,0]) l (fun (a : List Int) i => ⟨[.junk,.imm (.fn f [] caps),.junk,.ref 0 1 0 a.length,.junk,.imm (slD b 1 (l.map ub)),.imm (.int .i64 l.length),.imm (.int .i64 i),.junk],[.arr 1 (a.map ic)],none⟩) (fun a i => a.length = i)
    (fun a x => a ++ [k x]) (fun a => some (.exit 0,⟨[.junk,.junk,.junk,.ref 0 1 0 a.length,.junk,.junk,.junk,.junk,.junk],[.arr 1 (a.map ic)],none⟩)) [] rfl
    (fun a i x hI h2 h1 => by
      refine ⟨?_,by simp [hI]⟩
      rw [rnd_eq]
      have e1 : (a.length + 1) * 9 ≤ 70368744177664:=by omega
      have H':=H x (List.mem_of_getElem? h1)
      simp only [List.cons_append,List.nil_append] at H'
      simp only [go_sem,Nat.reduceAdd,Nat.reduceSub,Nat.reduceMul,Nat.reduceDiv,Nat.reduceMod,Nat.reduceLeDiff,Nat.reduceLT,Nat.reduceBEq,Int.reduceToNat,Int.reduceLT,Int.reduceLE,Int.reduceEq,lt_t h2,h1,e1,H']
      rw [wrpS (by omega)])
    (fun a _ => by
      rw [rnd_eq]
      simp only [go_sem,Nat.reduceAdd,Nat.reduceSub,Nat.reduceMul,Nat.reduceDiv,Nat.reduceMod,Nat.reduceLeDiff,Nat.reduceLT,Nat.reduceBEq,Int.reduceToNat,Int.reduceLT,Int.reduceLE,Int.reduceEq,lt_f (Nat.le_refl _)])
  rw [cast_0] at h
  simp only [List.map_nil,List.length_nil] at h
  rw [h]
  clear h
  rw [fold_snoc,List.nil_append]
  simp only [go_sem,Nat.reduceAdd,Nat.reduceSub,Nat.reduceMul,Nat.reduceDiv,Nat.reduceMod,Nat.reduceLeDiff,Nat.reduceLT,Nat.reduceBEq,Int.reduceToNat,Int.reduceLT,Int.reduceLE,Int.reduceEq,slD]
theorem okElements (n : Nat) (b : Bool) (kd : Int) (l : List Int) (k : Int → Int) (hl : l.length < 1000000) (H : ∀ v ∈ l,callP (level E (n+1)) 61 [.int .i64 kd,.int .u64 v] = some (.int .i64 (k v))) :
    callP (level E (n+4)) 90 [.int .i64 kd,slD b 1 (l.map ub)] = some (.int .i64 (fnz (l.map k))):=by
  rw [p90]
  have h1:=okMapU (n+2) b l 101 [.ptr [.int .i64 kd]] k hl (fun v hv => by
    have h:=H v hv
    show callP (level E (n+1+1)) 101 [.int .u64 v,.ptr [.int .i64 kd]] = _
    rw [p101]
    simp only [go_sem,Nat.reduceAdd,Nat.reduceSub,Nat.reduceMul,Nat.reduceDiv,Nat.reduceMod,Nat.reduceLeDiff,Nat.reduceLT,Nat.reduceBEq,Int.reduceToNat,Int.reduceLT,Int.reduceLE,Int.reduceEq,h])
  have h2:=okFirst (n+2) false (l.map k) (by simp; omega)
  simp only [go_sem,Nat.reduceAdd,Nat.reduceSub,Nat.reduceMul,Nat.reduceDiv,Nat.reduceMod,Nat.reduceLeDiff,Nat.reduceLT,Nat.reduceBEq,Int.reduceToNat,Int.reduceLT,Int.reduceLE,Int.reduceEq,h1,h2]
theorem okCheck_1 (n : Nat) (x : Int) : callP (level E (n+2)) 89 [.int .i64 x] = some (.bool (!(decide (x ≥ 0) && decide (x ≤ 4096)))):=by
  rw [p89]
  have h1:=okWithin n x 0 4096
  simp only [go_sem,Nat.reduceAdd,Nat.reduceSub,Nat.reduceMul,Nat.reduceDiv,Nat.reduceMod,Nat.reduceLeDiff,Nat.reduceLT,Nat.reduceBEq,Int.reduceToNat,Int.reduceLT,Int.reduceLE,Int.reduceEq,h1]
def idxOf (q : Int → Bool) : List Int → Nat → Int
  | [],_ => -1
  | x :: r,i => if q x then i else idxOf q r (i + 1)
theorem okIndexf (n : Nat) (b : Bool) (l : List Int) (f : FuncId) (q : Int → Bool) (hl : l.length < 1000000000) (H : ∀ x ∈ l,callP (level E n) f [.int .i64 x] = some (.bool (q x))) :
    callP (level E (n+1)) 96 [slD b 1 (l.map ic),.fn f [] []] = some (.int .i64 (idxOf q l 0)):=by
  rw [p96]
  simp only [go_sem,Nat.reduceAdd,Nat.reduceSub,Nat.reduceMul,Nat.reduceDiv,Nat.reduceMod,Nat.reduceLeDiff,Nat.reduceLT,Nat.reduceBEq,Int.reduceToNat,Int.reduceLT,Int.reduceLE,Int.reduceEq]
  have h:=loop_run (f:=aCode (level E (n)) ⟨0,false⟩ b96_0) (h:=head ⟨0,false⟩ [1,1,0,0,1,1,0,0]) (Φ:=outC ⟨0,false⟩ [0,0,1,0,0,0,0,0]) l (fun (j : Nat) i => ⟨[.imm (slD b 1 (l.map ic)),.imm (.fn f [] []),.junk,.junk,.imm (.int .i64 l.length),.imm (.int .i64 i),.junk,.junk],[],none⟩) (fun j i => j = i)
    (fun j x => if q x then .inr (some (.ret,⟨[.junk,.junk,.imm (.int .i64 j),.junk,.junk,.junk,.junk,.junk],[],none⟩)) else .inl (j + 1)) (fun _ => some (.exit 0,⟨[.junk,.junk,.junk,.junk,.junk,.junk,.junk,.junk],[],none⟩)) 0 rfl
    (fun j i x hI h2 h1 => by
      subst hI
      refine ⟨?_,fun j' hj => ?_⟩
      · rw [rnd_eq]
        have H':=H x (List.mem_of_getElem? h1)
        cases hq : q x
        · rw [hq] at H'
          simp only [go_sem,Nat.reduceAdd,Nat.reduceSub,Nat.reduceMul,Nat.reduceDiv,Nat.reduceMod,Nat.reduceLeDiff,Nat.reduceLT,Nat.reduceBEq,Int.reduceToNat,Int.reduceLT,Int.reduceLE,Int.reduceEq,lt_t h2,h1,H']
          rw [wrpS (by omega)]
        · rw [hq] at H'
          simp only [go_sem,Nat.reduceAdd,Nat.reduceSub,Nat.reduceMul,Nat.reduceDiv,Nat.reduceMod,Nat.reduceLeDiff,Nat.reduceLT,Nat.reduceBEq,Int.reduceToNat,Int.reduceLT,Int.reduceLE,Int.reduceEq,lt_t h2,h1,H']
      · split at hj
        · cases hj
        · injection hj with hj; exact hj.symm)
    (fun _ _ => by
      rw [rnd_eq]
      simp only [go_sem,Nat.reduceAdd,Nat.reduceSub,Nat.reduceMul,Nat.reduceDiv,Nat.reduceMod,Nat.reduceLeDiff,Nat.reduceLT,Nat.reduceBEq,Int.reduceToNat,Int.reduceLT,Int.reduceLE,Int.reduceEq,lt_f (Nat.le_refl _)])
  rw [cast_0] at h
  rw [h]
  clear h hl H
  have e : ∀ (l : List Int) (j : Nat),runL (γ:=Option (AExit × S)) (fun (j : Nat) x => if q x then .inr (some (.ret,⟨[.junk,.junk,.imm (.int .i64 j),.junk,.junk,.junk,.junk,.junk],[],none⟩)) else .inl (j + 1)) (fun _ => some (.exit 0,⟨[.junk,.junk,.junk,.junk,.junk,.junk,.junk,.junk],[],none⟩)) j l =
      (if idxOf q l j < 0 then some (.exit 0,⟨[.junk,.junk,.junk,.junk,.junk,.junk,.junk,.junk],[],none⟩) else some (.ret,⟨[.junk,.junk,.imm (.int .i64 (idxOf q l j)),.junk,.junk,.junk,.junk,.junk],[],none⟩)):=by
    intro l
    induction l with
    | nil => intro j; simp [runL_nil,idxOf]
    | cons x r ih =>
      intro j
      cases hq : q x
      · simp only [runL_cons,hq,Bool.false_eq_true,if_false,idxOf]; exact ih _
      · have : ¬ (j : Int) < 0:=by omega
        simp only [runL_cons,hq,if_true,idxOf,this,if_false]
  have e2 : ∀ (l : List Int) (j : Nat),idxOf q l j < 0 → idxOf q l j = -1:=by
    intro l
    induction l with
    | nil => intro j _; rfl
    | cons x r ih =>
      intro j
      cases hq : q x
      · simp only [hq,Bool.false_eq_true,if_false,idxOf]; exact ih _
      · simp only [hq,if_true,idxOf]; intro h; omega
  rw [e]
  by_cases h0 : idxOf q l 0 < 0
  · have h1:=e2 l 0 h0
    simp only [go_sem,Nat.reduceAdd,Nat.reduceSub,Nat.reduceMul,Nat.reduceDiv,Nat.reduceMod,Nat.reduceLeDiff,Nat.reduceLT,Nat.reduceBEq,Int.reduceToNat,Int.reduceLT,Int.reduceLE,Int.reduceEq,h0,h1]
  · simp only [go_sem,Nat.reduceAdd,Nat.reduceSub,Nat.reduceMul,Nat.reduceDiv,Nat.reduceMod,Nat.reduceLeDiff,Nat.reduceLT,Nat.reduceBEq,Int.reduceToNat,Int.reduceLT,Int.reduceLE,Int.reduceEq,h0]
theorem idxOf_nn (q : Int → Bool) : ∀ (l : List Int) (j : Nat),decide (idxOf q l j ≥ 0) = l.any q
  | [],j => by simp [idxOf]
  | x :: r,j => by
    cases hq : q x
    · simp only [idxOf,hq,Bool.false_eq_true,if_false,List.any_cons,Bool.false_or]; exact idxOf_nn q r _
    · have : (j : Int) ≥ 0:=by omega
      simp [idxOf,hq,this]
theorem okContains (n : Nat) (b : Bool) (l : List Int) (f : FuncId) (q : Int → Bool) (hl : l.length < 1000000000) (H : ∀ x ∈ l,callP (level E n) f [.int .i64 x] = some (.bool (q x))) :
    callP (level E (n+2)) 72 [slD b 1 (l.map ic),.fn f [] []] = some (.bool (l.any q)):=by
  rw [p72]
  have h:=okIndexf n b l f q hl H
  simp only [go_sem,Nat.reduceAdd,Nat.reduceSub,Nat.reduceMul,Nat.reduceDiv,Nat.reduceMod,Nat.reduceLeDiff,Nat.reduceLT,Nat.reduceBEq,Int.reduceToNat,Int.reduceLT,Int.reduceLE,Int.reduceEq,h,idxOf_nn]
end Go.Vm.P4D

/- Chapter 04,functions: Check. -/
set_option maxRecDepth 100000
set_option maxHeartbeats 4000000
namespace Go.Vm.P4D
open Go Go.Vm Go.Vm.P4
structure Im where
  kd : Int
  bb : Bool
  bx : Bx
  tb : Bool
  st : List Int
  db : Bool
  dt : List Int
def enIm (m : Im) : D:=.agg [.int .i64 m.kd,enB m.bb m.bx,slD m.tb 1 (m.st.map ic),slD m.db 1 (m.dt.map ub)]
def ckA (m : Im) : Int:=fnz [ckKind m.kd,ckBox m.bx,if m.st.length = m.bx.length then 0 else 2]
def ckB (m : Im) : Int:=fnz [if m.st.any (fun x => !(decide (x ≥ 0) && decide (x ≤ 4096))) then 3 else 0,if 4096 < m.dt.length then 5 else 0]
def elAt (m : Im) (i : Nat) : Int:=elt m.bx (plc m.bx i) m.st 0
def tkD (T : List Int) : List (Int × D):=T.map (fun k => (k,.bool true))
def CkV (m : Im) (p7 p8 : Nat) : List AV:=[.imm (enIm m),.imm (.int .i64 0),.imm (.ptr [.int .i64 m.kd,enB m.bb m.bx,slD m.tb 1 (m.st.map ic),slD m.db 1 (m.dt.map ub)]),.imm (.int .i64 0),.imm (.fn 89 [] []),.imm (.int .i64 0),.imm (.int .i64 0),.ptr p7 0,.ptr p8 0,.junk,.junk,.imm (.bool false),.imm (.bool false),.imm (.bool false),.imm (.fn 95 [] [.ptr [enB m.bb m.bx]]),.junk,.junk,.junk,.junk]
def CkSt (m : Im) : Option (List Int) → Ext
  | none => ⟨[15,16],b48_0,b48_1,CkV m 1 2,[.imap [],.box [.map 0],.box [.imm (.int .i64 0)]],0,none⟩
  | some T => ⟨[15,16],b48_0,b48_1,CkV m 0 1,[.box [.map 2],.box [.imm (.int .i64 0)],.imap (tkD T)],0,none⟩
def CkEnd (m : Im) (T : List Int) (e : Int) : Ext:=⟨[15,16],b48_0,b48_1,CkV m 0 1,[.box [.map 2],.box [.imm (.int .i64 e)],.imap (tkD T)],0,some (.exit 0)⟩
def CkG (m : Im) (a : Option (List Int)) (i : Nat) : Option (List Int) ⊕ Ext :=
  let T:=a.getD []
  if (m.dt.length : Int) ≤ elAt m i then .inr (CkEnd m T 14) else if elAt m i ∈ T then .inr (CkEnd m T 26) else .inl (some (T ++ [elAt m i]))
theorem look_tk : ∀ (T : List Int) (k : Int),lookI (tkD T) k = if k ∈ T then some (.bool true) else none
  | [],k => by simp [lookI,tkD]
  | x :: T,k => by
    have ih:=look_tk T k
    simp only [lookI,tkD] at ih ⊢
    by_cases h : x = k
    · subst h; simp
    · have h' : ¬ k = x:=fun e => h e.symm
      simp only [List.map_cons,List.find?_cons,List.mem_cons,h',false_or,show (x == k) = false from by simp [h]]
      exact ih
theorem set_tk : ∀ (T : List Int) (k : Int),k ∉ T → mapSet (tkD T) k (.bool true) = tkD (T ++ [k])
  | [],k,_ => by simp [mapSet,tkD]
  | x :: T,k,h => by
    have ih:=set_tk T k (fun hc => h (List.mem_cons_of_mem _ hc))
    have h' : ¬ x = k:=fun e => h (by subst e; simp)
    simp only [tkD,List.map_cons,List.cons_append,mapSet,h',if_false] at ih ⊢
    rw [ih]
theorem okCheckR (n : Nat) (m : Im) (h3 : m.bx.length ≤ 3) (hs : m.bx.length = m.st.length) (a : Option (List Int)) (i : Nat) (hi : i < 1000000) :
    (level E (n+2)).round (CkSt m a) [.int .i64 (i : Int),enP (plc m.bx i)] = match CkG m a i with | .inl a' => some (CkSt m a',true) | .inr e => some (e,false):=by
  have he:=okElement n m.bb m.tb m.bx m.st (plc m.bx i) h3 (by omega) (plc_len m.bx i)
  obtain ⟨x,y,z,hp⟩ : ∃ x y z,plc m.bx i = [x,y,z]:=by
    match hh : plc m.bx i,plc_len m.bx i with
    | [x,y,z],_ => exact ⟨x,y,z,rfl⟩
  have hel : elt m.bx [x,y,z] m.st 0 = elAt m i:=by rw [elAt,hp]
  rw [hp] at he ⊢
  rw [hel] at he
  simp only [enP,List.map_cons,List.map_nil] at he
  cases a with
  | none =>
    unfold CkSt
    dsimp only
    rw [round_go rfl]
    simp only [CkV,CkG,Option.getD_none,enP]
    by_cases h1 : (m.dt.length : Int) ≤ elAt m i
    · simp only [go_sem,simprocAttr,he,h1,CkEnd,CkV,tkD]
    · simp only [go_sem,simprocAttr,he,h1,CkEnd,CkV,tkD,List.not_mem_nil,CkSt,lookI,List.find?_nil,mapSet]
  | some T =>
    unfold CkSt
    dsimp only
    rw [round_go rfl]
    simp only [CkV,CkG,Option.getD_some,enP]
    by_cases h1 : (m.dt.length : Int) ≤ elAt m i
    · simp only [go_sem,simprocAttr,he,h1,CkEnd,CkV]
    · by_cases h2 : elAt m i ∈ T
      · simp only [go_sem,simprocAttr,he,h1,h2,CkEnd,CkV,look_tk]
      · simp only [go_sem,simprocAttr,he,h1,h2,CkSt,CkV,look_tk,set_tk T _ h2]
def ckPts (m : Im) : List Int → List Nat → Int
  | _,[] => 0
  | T,i :: r => if (m.dt.length : Int) ≤ elAt m i then 14 else if elAt m i ∈ T then 26 else ckPts m (T ++ [elAt m i]) r
theorem ck_run (m : Im) : ∀ (r : List Nat) (a : Option (List Int)),(ckPts m (a.getD []) r = 0 ∧ ∃ a',runL (CkG m) (CkSt m) a r = CkSt m a') ∨ ∃ T,runL (CkG m) (CkSt m) a r = CkEnd m T (ckPts m (a.getD []) r)
  | [],a => .inl ⟨rfl,a,rfl⟩
  | i :: r,a => by
    rw [runL_cons]
    unfold CkG ckPts
    dsimp only
    by_cases h1 : (m.dt.length : Int) ≤ elAt m i
    · simp only [h1,if_true]
      exact .inr ⟨_,rfl⟩
    · by_cases h2 : elAt m i ∈ a.getD []
      · simp only [h1,h2,if_true,if_false]
        exact .inr ⟨_,rfl⟩
      · simp only [h1,h2,if_false]
        exact ck_run m r (some (a.getD [] ++ [elAt m i]))
def ckIm (cb : Int → Int) (m : Im) : Int:=if ckA m = 0 then (if ckB m = 0 then (if fnz (m.dt.map cb) = 0 then ckPts m [] (List.range (many m.bx).toNat) else fnz (m.dt.map cb)) else ckB m) else ckA m
theorem ckA0 {m : Im} (h : ckA m = 0) : ckKind m.kd = 0 ∧ ckBox m.bx = 0 ∧ m.st.length = m.bx.length:=by
  have h1:=fz0 _ h (ckKind m.kd) (by simp)
  have h2:=fz0 _ h (ckBox m.bx) (by simp)
  have h3:=fz0 _ h (if m.st.length = m.bx.length then 0 else 2) (by simp)
  refine ⟨h1,h2,?_⟩
  split at h3
  · assumption
  · omega
theorem okCheck (n : Nat) (m : Im) (cb : Int → Int) (hx : m.bx.length < 1000000) (hs : m.st.length < 1000000) (hd : m.dt.length < 1000000) (H : ∀ v ∈ m.dt,callP (level E (n+5)) 61 [.int .i64 m.kd,.int .u64 v] = some (.int .i64 (cb v))) :
    callP (level E (n+9)) 48 [enIm m] = some (.int .i64 (ckIm cb m)):=by
  rw [p48]
  have k1:=okCheckKind (n+6) m.kd
  have b1:=okCheckBox (n+4) m.bb m.bx hx
  have f1:=okFirstL (n+7) [[.int .i64 (ckKind m.kd)],[.int .i64 (ckBox m.bx)],[.int .i64 (if m.st.length = m.bx.length then 0 else 2)]] [ckKind m.kd,ckBox m.bx,if m.st.length = m.bx.length then 0 else 2] rfl (by simp)
  have w1 : callP (level E (n+8)) 54 [.bool (decide (¬ (m.st.length : Int) = m.bx.length)),.int .i64 2] = some (.int .i64 (if m.st.length = m.bx.length then 0 else 2)):=by
    rw [okWhen (n+7)]
    by_cases h : m.st.length = m.bx.length
    · simp [h]
    · have : ¬ (m.st.length : Int) = m.bx.length:=by omega
      simp [h,this]
  have f1' : callP (level E (n+8)) 55 [.sl 1 [[.int .i64 (ckKind m.kd)],[.int .i64 (ckBox m.bx)],[.int .i64 (if m.st.length = m.bx.length then 0 else 2)]]] = some (.int .i64 (ckA m)):=f1
  have c1:=okContains (n+6) m.tb m.st 89 (fun x => !(decide (x ≥ 0) && decide (x ≤ 4096))) (by omega) (fun x _ => okCheck_1 (n+4) x)
  have w2:=okWhen (n+7) (m.st.any (fun x => !(decide (x ≥ 0) && decide (x ≤ 4096)))) 3
  have w3 : callP (level E (n+8)) 54 [.bool (decide ((m.dt.length : Int) > 4096)),.int .i64 5] = some (.int .i64 (if 4096 < m.dt.length then 5 else 0)):=by
    rw [okWhen (n+7)]
    by_cases h : 4096 < m.dt.length
    · have : (m.dt.length : Int) > 4096:=by omega
      simp [h,this]
    · have : ¬ (m.dt.length : Int) > 4096:=by omega
      simp [h,this]
  have f2:=okFirstL (n+7) [[.int .i64 (if m.st.any (fun x => !(decide (x ≥ 0) && decide (x ≤ 4096))) then 3 else 0)],[.int .i64 (if 4096 < m.dt.length then 5 else 0)]] [if m.st.any (fun x => !(decide (x ≥ 0) && decide (x ≤ 4096))) then 3 else 0,if 4096 < m.dt.length then 5 else 0] rfl (by simp)
  have f2' : callP (level E (n+8)) 55 [.sl 1 [[.int .i64 (if m.st.any (fun x => !(decide (x ≥ 0) && decide (x ≤ 4096))) then 3 else 0)],[.int .i64 (if 4096 < m.dt.length then 5 else 0)]]] = some (.int .i64 (ckB m)):=f2
  have e1:=okElements (n+4) m.db m.kd m.dt cb hd H
  by_cases h1 : ckA m = 0
  · obtain ⟨g1,g2,g3⟩:=ckA0 h1
    obtain ⟨q1,q2,q3,q4⟩:=ckBox0 g2
    obtain ⟨N,hN,hN2⟩:=many_nat g2
    by_cases h2 : ckB m = 0
    · by_cases h3 : fnz (m.dt.map cb) = 0
      · have a1:=okAll (n+7) m.bb m.bx
        have h:=okAll1 (n+6) m.bb m.bx q2 N hN (by omega) (CkSt m) (fun _ _ => True) (CkG m) none trivial
          (fun a i _ hi => ⟨by
            have hr:=okCheckR (n+5) m q2 g3.symm a i (by omega)
            cases hg : CkG m a i with
            | inl a' => rw [hg] at hr; exact hr
            | inr e => rw [hg] at hr; exact hr,fun _ _ => trivial⟩)
        simp only [CkSt,CkV] at h
        have hNt : (many m.bx).toNat = N:=by omega
        simp only [go_sem,simprocAttr,enIm,k1,b1,w1,f1',h1,c1,w2,w3,f2',h2,e1,h3,a1,ne_eq,not_true_eq_false,ckIm,hNt]
        simp only [enIm] at h
        rw [h]
        rcases ck_run m (List.range N) none with ⟨h5,a',h6⟩ | ⟨T,h6⟩
        · rw [h6]
          simp only [Option.getD_none] at h5
          rcases a' with _ | T <;> simp only [go_sem,simprocAttr,CkSt,CkV,h5]
        · rw [h6]
          simp only [go_sem,simprocAttr,CkEnd,CkV]
      · simp only [go_sem,simprocAttr,enIm,k1,b1,w1,f1',h1,c1,w2,w3,f2',h2,e1,h3,ne_eq,not_true_eq_false,not_false_eq_true,ckIm]
    · simp only [go_sem,simprocAttr,enIm,k1,b1,w1,f1',h1,c1,w2,w3,f2',h2,ne_eq,not_true_eq_false,not_false_eq_true,ckIm]
  · simp only [go_sem,simprocAttr,enIm,k1,b1,w1,f1',h1,ne_eq,not_false_eq_true,ckIm]
end Go.Vm.P4D

/- Chapter 04,functions: elements of points,images made of a function. -/
set_option maxRecDepth 100000
set_option maxHeartbeats 4000000
namespace Go.Vm.P4D
open Go Go.Vm Go.Vm.P4
theorem okViewAt (n : Nat) (m : Im) (p : List Int) (k : Nat) (v : Int) (hp : p.length = 3) (h3 : m.bx.length ≤ 3) (hs : m.bx.length ≤ m.st.length) (he : elt m.bx p m.st 0 = k) (hv : m.dt[k]? = some v) :
    callP (level E (n+2)) 62 [enIm m,enP p] = some (.int .u64 v):=by
  rw [p62]
  have h1:=okElement n m.bb m.tb m.bx m.st p h3 hs hp
  obtain ⟨x,y,z,rfl⟩ : ∃ x y z,p = [x,y,z]:=by
    match p,hp with
    | [x,y,z],_ => exact ⟨x,y,z,rfl⟩
  rw [he] at h1
  simp only [enP,List.map_cons,List.map_nil] at h1 ⊢
  simp only [go_sem,simprocAttr,enIm,h1,hv]
def ckAt (cb : Int → Int) (m : Im) (p : List Int) : Int:=if fnz [ckIm cb m,if p.length = m.bx.length then 0 else 13] = 0 then (if hasB m.bx p then 0 else 14) else fnz [ckIm cb m,if p.length = m.bx.length then 0 else 13]
theorem okCheckAt (n : Nat) (m : Im) (c : Bool) (p : List Int) (cb : Int → Int) (hx : m.bx.length < 1000000) (hs : m.st.length < 1000000) (hd : m.dt.length < 1000000) (H : ∀ v ∈ m.dt,callP (level E (n+5)) 61 [.int .i64 m.kd,.int .u64 v] = some (.int .i64 (cb v))) :
    callP (level E (n+10)) 76 [enIm m,slD c 1 (p.map ic)] = some (.int .i64 (ckAt cb m p)):=by
  rw [p76]
  have h1:=okCheck n m cb hx hs hd H
  have f1:=okFirstL (n+8) [[.int .i64 (ckIm cb m)],[.int .i64 (if p.length = m.bx.length then 0 else 13)]] [ckIm cb m,if p.length = m.bx.length then 0 else 13] rfl (by simp)
  have w1 : callP (level E (n+9)) 54 [.bool (decide (¬ (p.length : Int) = m.bx.length)),.int .i64 13] = some (.int .i64 (if p.length = m.bx.length then 0 else 13)):=by
    rw [okWhen (n+8)]
    by_cases h : p.length = m.bx.length
    · simp [h]
    · have : ¬ (p.length : Int) = m.bx.length:=by omega
      simp [h,this]
  by_cases h2 : fnz [ckIm cb m,if p.length = m.bx.length then 0 else 13] = 0
  · have h4:=fz0 _ h2 (if p.length = m.bx.length then 0 else 13) (by simp)
    have h5 : p.length = m.bx.length:=by
      split at h4
      · assumption
      · omega
    have h6:=okHas0 (n+8) m.bb c m.bx p (by omega) (by omega)
    rw [h2] at f1
    simp only [enIm] at h1
    cases h7 : hasB m.bx p
    · rw [h7] at h6
      simp only [go_sem,simprocAttr,enIm,h1,w1,f1,h2,h6,h7,okWhen,ckAt,ne_eq,not_true_eq_false,Bool.false_eq_true]
    · rw [h7] at h6
      simp only [go_sem,simprocAttr,enIm,h1,w1,f1,h2,h6,h7,okWhen,ckAt,ne_eq,not_true_eq_false,Bool.false_eq_true]
  · simp only [enIm] at h1
    simp only [go_sem,simprocAttr,enIm,h1,w1,f1,h2,ckAt,ne_eq,not_false_eq_true]
theorem okAtE (n : Nat) (m : Im) (c : Bool) (p : List Int) (e : Int) (he : e ≠ 0) (h1 : callP (level E (n+10)) 76 [enIm m,slD c 1 (p.map ic)] = some (.int .i64 e)) :
    callP (level E (n+11)) 24 [enIm m,slD c 1 (p.map ic)] = some (.tup [.agg [.int .i64 0,.int .u64 0],.int .i64 e]):=by
  rw [p24]
  simp only [enIm] at h1
  simp only [go_sem,simprocAttr,enIm,h1,he,ne_eq,not_false_eq_true]
theorem okAtS (n : Nat) (m : Im) (c : Bool) (p : List Int) (h1 : callP (level E (n+10)) 76 [enIm m,slD c 1 (p.map ic)] = some (.int .i64 0)) (h3 : m.bx.length ≤ 3) (hpl : p.length ≤ 3) (hs : m.bx.length ≤ m.st.length)
    (k : Nat) (v : Int) (he : elt m.bx ((p ++ [0,0,0]).take 3) m.st 0 = k) (hv : m.dt[k]? = some v) :
    callP (level E (n+11)) 24 [enIm m,slD c 1 (p.map ic)] = some (.tup [.agg [.int .i64 m.kd,.int .u64 v],.int .i64 0]):=by
  rw [p24]
  have h2:=okOf (n+9) c p hpl
  have h4:=okViewAt (n+8) m ((p ++ [0,0,0]).take 3) k v (by simp) h3 hs he hv
  simp only [enIm] at h1 h4
  simp only [go_sem,simprocAttr,enIm,h1,h2,h4,ne_eq,not_true_eq_false]
end Go.Vm.P4D

/- Chapter 04,functions: images made of a function. -/
set_option maxRecDepth 100000
set_option maxHeartbeats 4000000
namespace Go.Vm.P4D
open Go Go.Vm Go.Vm.P4
def CoV (kd : Int) (b : Bool) (l : Bx) (f : D) (q : Nat) : List AV:=[.imm (.int .i64 kd),.imm (enB b l),.imm f,.ptr 0 0,.imm (.ptr [f]),.ptr q 0,.junk,.imm (.fn 95 [] [.ptr [enB b l]]),.junk,.junk]
def z4 : List AV:=[.imm (.int .i64 0),.imm .nil,.imm .nil,.imm .nil]
def CoSt (kd : Int) (b : Bool) (l : Bx) (f : D) : List (List D) → Ext
  | [] => ⟨[8,9],b63_0,b63_1,CoV kd b l f 2,[.box z4,.arr 2 (l.map enR),.box [.imm (.int .i64 kd),.ref 1 2 0 l.length,.imm (slD true 1 ((strides 1 l).map ic)),.imm .nil]],0,none⟩
  | acc => ⟨[8,9],b63_0,b63_1,CoV kd b l f 1,[.box z4,.box [.imm (.int .i64 kd),.ref 2 2 0 l.length,.imm (slD true 1 ((strides 1 l).map ic)),.ref 3 1 0 acc.length],.arr 2 (l.map enR),.arr 1 acc],0,none⟩
theorem dL_cat (st : List AO) (fs cs : List D) (a : D) : deepL st (fs.map AV.imm ++ [.imm a] ++ cs.map AV.imm) = some (fs ++ [a] ++ cs):=by
  rw [show fs.map AV.imm ++ [.imm a] ++ cs.map AV.imm = (fs ++ [a] ++ cs).map AV.imm from by simp]
  exact dL_map _
theorem iL_cat (fs cs : List D) (a : D) : idsL (fs.map AV.imm ++ [.imm a] ++ cs.map AV.imm) = []:=by
  rw [show fs.map AV.imm ++ [.imm a] ++ cs.map AV.imm = (fs ++ [a] ++ cs).map AV.imm from by simp]
  exact iL_map _
theorem okCollectR (n : Nat) (kd : Int) (b : Bool) (l : Bx) (fid : FuncId) (fs cs : List D) (F : List Int → Int) (acc : List (List D)) (i : Nat) (ha : acc.length = i) (hi : i < 1000000)
    (H : callP (level E (n+1)) fid (fs ++ [enP (plc l i)] ++ cs) = some (.int .u64 (F (plc l i)))) :
    (level E (n+2)).round (CoSt kd b l (.fn fid fs cs) acc) [.int .i64 (i : Int),enP (plc l i)] = some (CoSt kd b l (.fn fid fs cs) (acc ++ [ub (F (plc l i))]),true):=by
  obtain ⟨x,y,z,hp⟩ : ∃ x y z,plc l i = [x,y,z]:=by
    match hh : plc l i,plc_len l i with
    | [x,y,z],_ => exact ⟨x,y,z,rfl⟩
  rw [hp] at H ⊢
  have e1 : (acc.length + 1) * 9 ≤ 70368744177664:=by omega
  simp only [enP,List.map_cons,List.map_nil] at H
  rcases acc with _ | ⟨w,acc⟩
  · unfold CoSt
    dsimp only
    rw [round_go rfl]
    simp only [CoV,enP,z4]
    simp only [go_sem,simprocAttr,dL_cat,iL_cat,H]
  · simp only [List.length_cons] at e1
    unfold CoSt
    dsimp only
    rw [round_go rfl]
    simp only [CoV,enP,z4]
    simp only [go_sem,simprocAttr,e1,dL_cat,iL_cat,H]
def mkIm (kd : Int) (l : Bx) (N : Nat) (F : List Int → Int) : Im:=⟨kd,false,l,true,strides 1 l,true,(List.range N).map fun i => F (plc l i)⟩
theorem okCollect (n : Nat) (kd : Int) (b : Bool) (l : Bx) (fid : FuncId) (fs cs : List D) (F : List Int → Int) (h1 : 1 ≤ l.length) (h3 : l.length ≤ 3) (N : Nat) (hN : many l = N) (hN2 : N < 1000000)
    (H : ∀ i,i < N → callP (level E (n+1)) fid (fs ++ [enP (plc l i)] ++ cs) = some (.int .u64 (F (plc l i)))) :
    callP (level E (n+4)) 63 [.int .i64 kd,enB b l,.fn fid fs cs] = some (enIm (mkIm kd l N F)):=by
  rw [p63]
  have a1:=okAll (n+2) b l
  have c1:=okCloneB (n+2) b l (by omega)
  have d1:=okDense (n+2) b l (by omega)
  have h:=okAll1 (n+1) b l h3 N hN (by omega) (CoSt kd b l (.fn fid fs cs)) (fun a i => a.length = i) (fun a i => .inl (a ++ [ub (F (plc l i))])) [] rfl
    (fun a i hI hi => ⟨okCollectR n kd b l fid fs cs F a i hI (by omega) (H i hi),fun a' ha => by injection ha with ha; subst ha; simp [hI]⟩)
  rw [runL_fold,fold_snoc,List.nil_append] at h
  have e1 : clV b 2 (l.map enR) = .ref 0 2 0 l.length:=by
    rcases l with _ | ⟨x,t⟩
    · simp at h1
    · cases b <;> simp [clV]
  have e2 : clO 2 (l.map enR) = [.arr 2 (l.map enR)]:=by
    rcases l with _ | ⟨x,t⟩
    · simp at h1
    · simp [clO]
  have e3 : flatDLL (l.map enR) = true:=by
    clear h h1 h3 hN H c1 d1 a1 e1 e2
    induction l with
    | nil => rfl
    | cons x t ih => simp only [go_sem,simprocAttr,ih]
  rw [e1,e2] at c1
  simp only [go_sem,simprocAttr,c1,d1,e3,a1]
  simp only [CoSt,CoV,z4] at h
  rw [h]
  have e4 : (List.range N).map (fun i => ub (F (plc l i))) = ((List.range N).map fun i => F (plc l i)).map ub:=by simp
  rw [e4]
  cases hq : (List.range N).map (fun i => F (plc l i)) with
  | nil => simp only [go_sem,simprocAttr,CoSt,CoV,z4,enIm,mkIm,hq] <;> rfl
  | cons w t => simp only [go_sem,simprocAttr,CoSt,CoV,z4,enIm,mkIm,hq] <;> rfl
end Go.Vm.P4D

/- Chapter 04,functions: Crop,Delete,Insert,Slice. -/
set_option maxRecDepth 100000
set_option maxHeartbeats 4000000
namespace Go.Vm.P4D
open Go Go.Vm Go.Vm.P4
theorem okEqualB (n : Nat) (b c : Bool) (l : Bx) (hl : l.length < 1000000000) : callP (level E (n+1)) 68 [enB b l,enB c l] = some (.bool true):=by
  rw [p68]
  simp only [go_sem,Nat.reduceAdd,Nat.reduceSub,Nat.reduceMul,Nat.reduceDiv,Nat.reduceMod,Nat.reduceLeDiff,Nat.reduceLT,Nat.reduceBEq,Int.reduceToNat,Int.reduceLT,Int.reduceLE,Int.reduceEq,ne_eq,not_true_eq_false]
  have h:=loop_fold (f:=aCode (level E (n)) ⟨0,false⟩ b68_0) (h:=head ⟨0,false⟩ [1,1,0,0,0,1,1,0,0]) (Φ:=outC ⟨0,false⟩ [0,0,1,0,0,0,0,0,0]) l (fun (a : Unit) i => ⟨[.imm (slD b 2 (l.map enR)),.imm (slD c 2 (l.map enR)),.junk,.junk,.junk,.imm (.int .i64 l.length),.imm (.int .i64 i),.junk,.junk],[],none⟩) (fun _ _ => True)
    (fun a x => ()) (fun a => some (.exit 0,⟨[.junk,.junk,.junk,.junk,.junk,.junk,.junk,.junk,.junk],[],none⟩)) () trivial
    (fun a i x hI h2 h1 => by
      refine ⟨?_,trivial⟩
      rw [rnd_eq]
      simp only [go_sem,Nat.reduceAdd,Nat.reduceSub,Nat.reduceMul,Nat.reduceDiv,Nat.reduceMod,Nat.reduceLeDiff,Nat.reduceLT,Nat.reduceBEq,Int.reduceToNat,Int.reduceLT,Int.reduceLE,Int.reduceEq,lt_t h2,h1,aEq,eqL,eqE,intEq,beq_self_eq_true]
      rw [wrpS (by omega)])
    (fun a _ => by
      rw [rnd_eq]
      simp only [go_sem,Nat.reduceAdd,Nat.reduceSub,Nat.reduceMul,Nat.reduceDiv,Nat.reduceMod,Nat.reduceLeDiff,Nat.reduceLT,Nat.reduceBEq,Int.reduceToNat,Int.reduceLT,Int.reduceLE,Int.reduceEq,lt_f (Nat.le_refl _)])
  rw [cast_0] at h
  rw [h]
  simp only [go_sem,Nat.reduceAdd,Nat.reduceSub,Nat.reduceMul,Nat.reduceDiv,Nat.reduceMod,Nat.reduceLeDiff,Nat.reduceLT,Nat.reduceBEq,Int.reduceToNat,Int.reduceLT,Int.reduceLE,Int.reduceEq]
def Lies (m : Im) (l : Bx) (N : Nat) (F : List Int → Int) : Prop:=∀ i,i < N → ∃ k : Nat,elt m.bx (plc l i) m.st 0 = k ∧ m.dt[k]? = some (F (plc l i))
theorem okCropS (n : Nat) (m : Im) (c : Bool) (l : Bx) (h1 : callP (level E (n+9)) 48 [enIm m] = some (.int .i64 0)) (hm : ckBox m.bx = 0) (hs : m.st.length = m.bx.length) (h2 : ckBox l = 0) (h3 : l.length = m.bx.length) (hz : List.zipWith rmeet m.bx l = l)
    (N : Nat) (hN : many l = N) (F : List Int → Int) (hF : Lies m l N F) :
    callP (level E (n+10)) 19 [enIm m,enB c l] = some (.tup [enIm (mkIm m.kd l N F),.int .i64 0]):=by
  obtain ⟨q1,q2,_,q4⟩:=ckBox0 h2
  obtain ⟨r1,r2,_,_⟩:=ckBox0 hm
  rw [p19]
  have c1:=okCheckBox (n+5) c l (by omega)
  have m1:=okMany (n+8) c l (by omega)
  have f1:=okFirstL (n+8) [[.int .i64 0],[.int .i64 0],[.int .i64 0]] [0,0,0] rfl (by simp)
  have z1:=okZipped (n+8) m.bb c m.bx l 70 rmeet (by omega) (by omega) (fun r s => okMeet (n+7) r s)
  rw [hz] at z1
  have e1:=okEqualB (n+8) true c l (by omega)
  have k1:=okCollect (n+5) m.kd c l 62 [enIm m] [] F q1 q2 N hN (by omega) (fun i hi => by
    obtain ⟨k,hk1,hk2⟩:=hF i hi
    exact okViewAt (n+4) m (plc l i) k _ (plc_len l i) r2 (by omega) hk1 hk2)
  have hw:=okWhen (n+8) false 13
  simp only [enIm] at h1 k1
  rw [h2] at c1
  simp only [fnz,if_true] at f1
  by_cases hp : many l > 0
  · simp only [go_sem,Nat.reduceAdd,Nat.reduceSub,Nat.reduceMul,Nat.reduceDiv,Nat.reduceMod,Nat.reduceLeDiff,Nat.reduceLT,Nat.reduceBEq,Int.reduceToNat,Int.reduceLT,Int.reduceLE,Int.reduceEq,enIm,h1,c1,m1,f1,h3,z1,e1,hp,hw,k1,ne_eq,not_true_eq_false,Bool.false_eq_true]
  · simp only [go_sem,Nat.reduceAdd,Nat.reduceSub,Nat.reduceMul,Nat.reduceDiv,Nat.reduceMod,Nat.reduceLeDiff,Nat.reduceLT,Nat.reduceBEq,Int.reduceToNat,Int.reduceLT,Int.reduceLE,Int.reduceEq,enIm,h1,c1,m1,f1,h3,hp,hw,k1,ne_eq,not_true_eq_false,Bool.false_eq_true]
theorem okDel20 (n : Nat) (r s : Rg) : callS (level E (n+1)) 86 [.ref 0 2 0 2,.imm (.int .i64 0),.imm (.int .i64 1)] [.arr 2 [enR r,enR s]] = some (.ref 1 2 0 1,[.dead,.arr 2 [enR s,[.int .i64 0,.int .i64 0]]]):=by
  rw [s86]
  simp only [go_sem,Nat.reduceAdd,Nat.reduceSub,Nat.reduceMul,Nat.reduceDiv,Nat.reduceMod,Nat.reduceLeDiff,Nat.reduceLT,Nat.reduceBEq,Int.reduceToNat,Int.reduceLT,Int.reduceLE,Int.reduceEq]
theorem ins_call (n : Nat) (es : List (List D)) (i : Nat) (a : D) (hi : i ≤ es.length) (hl : es.length < 1000000) : (level E (n+1)).call 88 [.ref 0 1 0 es.length,.imm (.int .i64 i),.ref 1 1 0 1] [.arr 1 es,.arr 1 [[a]]] none =
    some (.ref 2 1 0 (es.length + 1),[.dead,.arr 1 [[a]],.arr 1 (es.take i ++ [a] :: es.drop i)],none):=by
  have h1 : E.fn 88 = none:=rfl
  have h2 : E.prim 88 = some insPrim:=rfl
  have k1 : (0 : Int) ≤ (i : Int):=by omega
  have k2 : (i : Int) ≤ (es.length : Int):=by omega
  simp only [level,h1,runPrim,h2,insPrim,List.getElem?_cons_zero,List.getElem?_cons_succ,k1,k2,hl,and_self,ne_eq,Nat.zero_ne_one,not_false_eq_true,if_true,Int.toNat_natCast]
  rfl
theorem okIns (n : Nat) (es : List (List D)) (i : Nat) (a : D) (hi : i ≤ es.length) (hl : es.length < 1000000) : callS (level E (n+1)) 88 [.ref 0 1 0 es.length,.imm (.int .i64 i),.ref 1 1 0 1] [.arr 1 es,.arr 1 [[a]]] =
    some (.ref 2 1 0 (es.length + 1),[.dead,.arr 1 [[a]],.arr 1 (es.take i ++ [a] :: es.drop i)]):=by
  unfold callS
  rw [ins_call n es i a hi hl]
  simp only [go_sem,Nat.reduceAdd,Nat.reduceSub,Nat.reduceMul,Nat.reduceDiv,Nat.reduceMod,Nat.reduceLeDiff,Nat.reduceLT,Nat.reduceBEq,Int.reduceToNat,Int.reduceLT,Int.reduceLE,Int.reduceEq]
theorem okSlice_1 (n : Nat) (m : Im) (at' x y z : Int) (h3 : m.bx.length = 2) (hs : m.bx.length ≤ m.st.length) (k : Nat) (v : Int) (he : elt m.bx [at',x,0] m.st 0 = k) (hv : m.dt[k]? = some v) :
    callP (level E (n+3)) 87 ([] ++ [enP [x,y,z]] ++ [.ptr [.int .i64 m.kd,enB m.bb m.bx,slD m.tb 1 (m.st.map ic),slD m.db 1 (m.dt.map ub)],.ptr [.int .i64 0],.ptr [.int .i64 at']]) = some (.int .u64 v):=by
  show callP (level E (n+3)) 87 [enP [x,y,z],.ptr [.int .i64 m.kd,enB m.bb m.bx,slD m.tb 1 (m.st.map ic),slD m.db 1 (m.dt.map ub)],.ptr [.int .i64 0],.ptr [.int .i64 at']] = _
  rw [p87]
  have c1:=okCloneI (n+1) false [x] (by simp)
  simp only [clV,clO,slD,List.map_cons,List.map_nil,ic] at c1
  have i1:=okIns (n+1) [[.int .i64 x]] 0 (.int .i64 at') (by simp) (by simp)
  have o1:=okOf (n+1) false [at',x] (by simp)
  simp only [List.map_cons,List.map_nil,ic,slD] at o1
  have v1:=okViewAt n m [at',x,0] k v rfl (by omega) hs he hv
  have e2 : (m.bx.length : Int) = 2:=by omega
  simp only [enIm,enP,List.map_cons,List.map_nil] at v1
  have w21 : wrp .i64 (2 - 1) = 1:=by decide
  simp only [enP,go_sem,Nat.reduceAdd,Nat.reduceSub,Nat.reduceMul,Nat.reduceDiv,Nat.reduceMod,Nat.reduceLeDiff,Nat.reduceLT,Nat.reduceBEq,Int.reduceToNat,Int.reduceLT,Int.reduceLE,Int.reduceEq] at o1
  simp only [go_sem,Nat.reduceAdd,Nat.reduceSub,Nat.reduceMul,Nat.reduceDiv,Nat.reduceMod,Nat.reduceLeDiff,Nat.reduceLT,Nat.reduceBEq,Int.reduceToNat,Int.reduceLT,Int.reduceLE,Int.reduceEq] at i1
  simp only [go_sem,Nat.reduceAdd,Nat.reduceSub,Nat.reduceMul,Nat.reduceDiv,Nat.reduceMod,Nat.reduceLeDiff,Nat.reduceLT,Nat.reduceBEq,Int.reduceToNat,Int.reduceLT,Int.reduceLE,Int.reduceEq,enP,e2,w21,c1,i1,o1,v1]
theorem okSlice2 (n : Nat) (m : Im) (r s : Rg) (hb : m.bx = [r,s]) (at' : Int) (h1 : callP (level E (n+9)) 48 [enIm m] = some (.int .i64 0)) (hs : m.st.length = 2) (hk : ckBox m.bx = 0) (g1 : at' ≥ r.lo) (g2 : at' ≤ r.lo + r.ex - 1)
    (N : Nat) (hN : many [s] = N) (hN2 : N < 1000000) (F : List Int → Int) (hF : ∀ i,i < N → ∃ x y z k,plc [s] i = [x,y,z] ∧ elt m.bx [at',x,0] m.st 0 = (k : Nat) ∧ m.dt[k]? = some (F [x,y,z])) :
    callP (level E (n+10)) 46 [enIm m,.int .i64 0,.int .i64 at'] = some (.tup [enIm (mkIm m.kd [s] N F),.int .i64 0]):=by
  obtain ⟨_,_,hr,_⟩:=ckBox0 hk
  have hr0:=ckRange0 (hr r (by rw [hb]; simp))
  rw [p46]
  have f1:=okFirstL (n+8) [[.int .i64 0],[.int .i64 0],[.int .i64 0]] [0,0,0] rfl (by simp)
  simp only [fnz,if_true] at f1
  have w1:=okWhen (n+8) false 13
  have w2:=okWhen (n+8) false 3
  have i1:=okWithin (n+8) 0 0 1
  have i2:=okWithin (n+8) at' r.lo (r.lo + r.ex - 1)
  have c1:=okCloneB (n+8) m.bb [r,s] (by simp)
  have e1 : clV m.bb 2 ([r,s].map enR) = .ref 0 2 0 2:=by cases m.bb <;> rfl
  have e2 : clO 2 ([r,s].map enR) = [.arr 2 [enR r,enR s]]:=rfl
  rw [e1,e2] at c1
  have d1:=okDel20 (n+8) r s
  have k1:=okCollect (n+5) m.kd false [s] 87 [] [.ptr [.int .i64 m.kd,enB m.bb m.bx,slD m.tb 1 (m.st.map ic),slD m.db 1 (m.dt.map ub)],.ptr [.int .i64 0],.ptr [.int .i64 at']] F (by simp) (by simp) N hN hN2 (fun i hi => by
    obtain ⟨x,y,z,k,q1,q2,q3⟩:=hF i hi
    rw [q1]
    exact okSlice_1 (n+3) m at' x y z (by rw [hb]; rfl) (by rw [hb,hs]; exact Nat.le_refl _) k _ q2 q3)
  have w21 : wrp .i64 (2 - 1) = 1:=by decide
  have w01 : wrp .i64 (0 + 1) = 1:=by decide
  have w3 : wrp .i64 (r.lo + r.ex) = r.lo + r.ex:=wrp_ok (by omega)
  have w4 : wrp .i64 (r.lo + r.ex - 1) = r.lo + r.ex - 1:=wrp_ok (by omega)
  have eb : enB false [s] = .sl 2 [enR s]:=rfl
  simp only [enIm,hb,go_sem,Nat.reduceAdd,Nat.reduceSub,Nat.reduceMul,Nat.reduceDiv,Nat.reduceMod,Nat.reduceLeDiff,Nat.reduceLT,Nat.reduceBEq,Int.reduceToNat,Int.reduceLT,Int.reduceLE,Int.reduceEq,enB,slD_c] at h1 k1 c1 d1 i1 i2
  have g1' : r.lo ≤ at':=g1
  simp only [ge_iff_le,g1',g2,go_sem,Nat.reduceAdd,Nat.reduceSub,Nat.reduceMul,Nat.reduceDiv,Nat.reduceMod,Nat.reduceLeDiff,Nat.reduceLT,Nat.reduceBEq,Int.reduceToNat,Int.reduceLT,Int.reduceLE,Int.reduceEq] at i1 i2
  simp only [enIm,hb,go_sem,Nat.reduceAdd,Nat.reduceSub,Nat.reduceMul,Nat.reduceDiv,Nat.reduceMod,Nat.reduceLeDiff,Nat.reduceLT,Nat.reduceBEq,Int.reduceToNat,Int.reduceLT,Int.reduceLE,Int.reduceEq,h1,f1,w1,w2,i1,i2,c1,d1,w21,w01,w3,w4,ge_iff_le,ne_eq,not_true_eq_false,enB,slD_c,ia_sl,k1,mkIm]
  done
end Go.Vm.P4D

/- Chapter 04,functions: Transpose (the first two dimensions of a plane). -/
set_option maxRecDepth 100000
set_option maxHeartbeats 4000000
namespace Go.Vm.P4D
open Go Go.Vm Go.Vm.P4
theorem okTranspose_1 (n : Nat) (m : Im) (x y z : Int) (h3 : m.bx.length ≤ 3) (hs : m.bx.length ≤ m.st.length) (k : Nat) (v : Int) (he : elt m.bx [y,x,z] m.st 0 = k) (hv : m.dt[k]? = some v) :
    callP (level E (n+3)) 67 ([] ++ [enP [x,y,z]] ++ [.ptr [.int .i64 1],.ptr [.int .i64 0],.ptr [.int .i64 m.kd,enB m.bb m.bx,slD m.tb 1 (m.st.map ic),slD m.db 1 (m.dt.map ub)]]) = some (.int .u64 v):=by
  show callP (level E (n+3)) 67 [enP [x,y,z],.ptr [.int .i64 1],.ptr [.int .i64 0],.ptr [.int .i64 m.kd,enB m.bb m.bx,slD m.tb 1 (m.st.map ic),slD m.db 1 (m.dt.map ub)]] = _
  rw [p67]
  have v1:=okViewAt n m [y,x,z] k v rfl h3 hs he hv
  simp only [enIm,enP,List.map_cons,List.map_nil] at v1
  simp only [go_sem,Nat.reduceAdd,Nat.reduceSub,Nat.reduceMul,Nat.reduceDiv,Nat.reduceMod,Nat.reduceLeDiff,Nat.reduceLT,Nat.reduceBEq,Int.reduceToNat,Int.reduceLT,Int.reduceLE,Int.reduceEq,enP,v1]
  done
theorem okTranspose2 (n : Nat) (m : Im) (r s : Rg) (hb : m.bx = [r,s]) (h1 : callP (level E (n+9)) 48 [enIm m] = some (.int .i64 0)) (hs : m.st.length = 2)
    (N : Nat) (hN : many [s,r] = N) (hN2 : N < 1000000) (F : List Int → Int) (hF : ∀ i,i < N → ∃ x y z k,plc [s,r] i = [x,y,z] ∧ elt m.bx [y,x,z] m.st 0 = (k : Nat) ∧ m.dt[k]? = some (F [x,y,z])) :
    callP (level E (n+10)) 18 [enIm m,.int .i64 0,.int .i64 1] = some (.tup [enIm (mkIm m.kd [s,r] N F),.int .i64 0]):=by
  rw [p18]
  have f1:=okFirstL (n+8) [[.int .i64 0],[.int .i64 0],[.int .i64 0]] [0,0,0] rfl (by simp)
  simp only [fnz,if_true] at f1
  have w2:=okWhen (n+8) false 3
  have i1:=okWithin (n+8) 0 0 1
  have i2:=okWithin (n+8) 1 0 1
  have c1:=okCloneB (n+8) m.bb [r,s] (by simp)
  have e1 : clV m.bb 2 ([r,s].map enR) = .ref 0 2 0 2:=by cases m.bb <;> rfl
  have e2 : clO 2 ([r,s].map enR) = [.arr 2 [enR r,enR s]]:=rfl
  rw [e1,e2] at c1
  have k1:=okCollect (n+5) m.kd false [s,r] 67 [] [.ptr [.int .i64 1],.ptr [.int .i64 0],.ptr [.int .i64 m.kd,enB m.bb m.bx,slD m.tb 1 (m.st.map ic),slD m.db 1 (m.dt.map ub)]] F (by simp) (by simp) N hN hN2 (fun i hi => by
    obtain ⟨x,y,z,k,q1,q2,q3⟩:=hF i hi
    rw [q1]
    exact okTranspose_1 (n+3) m x y z (by rw [hb]; simp) (by rw [hb,hs]; exact Nat.le_refl _) k _ q2 q3)
  have w21 : wrp .i64 (2 - 1) = 1:=by decide
  simp only [enIm,hb,go_sem,Nat.reduceAdd,Nat.reduceSub,Nat.reduceMul,Nat.reduceDiv,Nat.reduceMod,Nat.reduceLeDiff,Nat.reduceLT,Nat.reduceBEq,Int.reduceToNat,Int.reduceLT,Int.reduceLE,Int.reduceEq,enB,slD_c] at h1 k1 c1 i1 i2
  simp only [ge_iff_le,go_sem,Nat.reduceAdd,Nat.reduceSub,Nat.reduceMul,Nat.reduceDiv,Nat.reduceMod,Nat.reduceLeDiff,Nat.reduceLT,Nat.reduceBEq,Int.reduceToNat,Int.reduceLT,Int.reduceLE,Int.reduceEq] at i1 i2
  simp only [enIm,hb,go_sem,Nat.reduceAdd,Nat.reduceSub,Nat.reduceMul,Nat.reduceDiv,Nat.reduceMod,Nat.reduceLeDiff,Nat.reduceLT,Nat.reduceBEq,Int.reduceToNat,Int.reduceLT,Int.reduceLE,Int.reduceEq,h1,f1,w2,i1,i2,c1,w21,ge_iff_le,ne_eq,not_true_eq_false,enB,slD_c,ia_sl,k1,mkIm]
  done
end Go.Vm.P4D

/- Chapter 04,functions: Edge. -/
set_option maxRecDepth 100000
set_option maxHeartbeats 4000000
namespace Go.Vm.P4D
open Go Go.Vm Go.Vm.P4
def modW (a b : Int) : Int:=(ad (a.tmod b) b).tmod b
theorem okModulo (n : Nat) (a b : Int) (hb : b ≠ 0) : callP (level E (n+1)) 130 [.int .i64 a,.int .i64 b] = some (.int .i64 (modW a b)):=by
  rw [p130]
  simp only [go_sem,Nat.reduceAdd,Nat.reduceSub,Nat.reduceMul,Nat.reduceDiv,Nat.reduceMod,Nat.reduceLeDiff,Nat.reduceLT,Nat.reduceBEq,Int.reduceToNat,Int.reduceLT,Int.reduceLE,Int.reduceEq,hb,modW,ad,ne_eq,not_false_eq_true]
def inW : Nat → Rg → Int → Int
  | 0,r,c => min (max c r.lo) (sb (ad r.lo r.ex) 1)
  | 1,r,c => ad r.lo (modW (sb c r.lo) r.ex)
  | _,r,c => ad r.lo (min (modW (sb c r.lo) (ml 2 r.ex)) (sb (sb (ml 2 r.ex) 1) (modW (sb c r.lo) (ml 2 r.ex))))
def bF : Nat → FuncId
  | 0 => 128
  | 1 => 129
  | _ => 131
theorem okBound (n : Nat) (rule : Nat) (r : Rg) (c : Int) (h1 : r.ex ≠ 0) (h2 : ml 2 r.ex ≠ 0) : callP (level E (n+2)) (bF rule) [enRD r,.int .i64 c] = some (.int .i64 (inW rule r c)):=by
  match rule with
  | 0 =>
    show callP (level E (n+2)) 128 [enRD r,.int .i64 c] = _
    rw [p128]
    simp only [go_sem,Nat.reduceAdd,Nat.reduceSub,Nat.reduceMul,Nat.reduceDiv,Nat.reduceMod,Nat.reduceLeDiff,Nat.reduceLT,Nat.reduceBEq,Int.reduceToNat,Int.reduceLT,Int.reduceLE,Int.reduceEq,inW,ad,sb]
  | 1 =>
    show callP (level E (n+2)) 129 [enRD r,.int .i64 c] = _
    rw [p129]
    have m1:=okModulo n (sb c r.lo) r.ex h1
    simp only [sb] at m1
    simp only [go_sem,Nat.reduceAdd,Nat.reduceSub,Nat.reduceMul,Nat.reduceDiv,Nat.reduceMod,Nat.reduceLeDiff,Nat.reduceLT,Nat.reduceBEq,Int.reduceToNat,Int.reduceLT,Int.reduceLE,Int.reduceEq,inW,ad,sb,m1]
  | k + 2 =>
    show callP (level E (n+2)) 131 [enRD r,.int .i64 c] = _
    rw [p131]
    have m1:=okModulo n (sb c r.lo) (ml 2 r.ex) h2
    simp only [sb,ml] at m1
    simp only [go_sem,Nat.reduceAdd,Nat.reduceSub,Nat.reduceMul,Nat.reduceDiv,Nat.reduceMod,Nat.reduceLeDiff,Nat.reduceLT,Nat.reduceBEq,Int.reduceToNat,Int.reduceLT,Int.reduceLE,Int.reduceEq,inW,ad,sb,ml,m1]
theorem okMoved (n : Nat) (b c : Bool) (rule : Nat) (hr : rule < 3) (l : Bx) (p : List Int) (h3 : l.length ≤ 3) (hp : p.length = l.length) (inn : Rg → Int → Int) (H : ∀ r ∈ l,∀ c,callP (level E n) (bF rule) [enRD r,.int .i64 c] = some (.int .i64 (inn r c))) :
    callP (level E (n+1)) 74 [enB b l,.int .i64 rule,slD c 1 (p.map ic)] = some (enP ((List.zipWith inn l p ++ [0,0,0]).take 3)):=by
  rw [p74]
  rcases l with _ | ⟨r,_ | ⟨s,_ | ⟨t,_ | ⟨u,l⟩⟩⟩⟩
  · rcases p with _ | ⟨x,p⟩
    · simp only [go_sem,Nat.reduceAdd,Nat.reduceSub,Nat.reduceMul,Nat.reduceDiv,Nat.reduceMod,Nat.reduceLeDiff,Nat.reduceLT,Nat.reduceBEq,Int.reduceToNat,Int.reduceLT,Int.reduceLE,Int.reduceEq,rnd_eq,enP,List.zipWith_nil_left]
    · simp at hp
  · rcases p with _ | ⟨x,_ | ⟨w,p⟩⟩
    · simp at hp
    · have H0:=H r (by simp) x
      match rule,hr with
      | 0,_ =>
        simp only [bF,go_sem,Nat.reduceAdd,Nat.reduceSub,Nat.reduceMul,Nat.reduceDiv,Nat.reduceMod,Nat.reduceLeDiff,Nat.reduceLT,Nat.reduceBEq,Int.reduceToNat,Int.reduceLT,Int.reduceLE,Int.reduceEq] at H0
        simp only [go_sem,Nat.reduceAdd,Nat.reduceSub,Nat.reduceMul,Nat.reduceDiv,Nat.reduceMod,Nat.reduceLeDiff,Nat.reduceLT,Nat.reduceBEq,Int.reduceToNat,Int.reduceLT,Int.reduceLE,Int.reduceEq,rnd_eq,enP,List.zipWith_cons_cons,List.zipWith_nil_left,enB,slD_c,ia_sl,H0]
      | 1,_ =>
        simp only [bF,go_sem,Nat.reduceAdd,Nat.reduceSub,Nat.reduceMul,Nat.reduceDiv,Nat.reduceMod,Nat.reduceLeDiff,Nat.reduceLT,Nat.reduceBEq,Int.reduceToNat,Int.reduceLT,Int.reduceLE,Int.reduceEq] at H0
        simp only [go_sem,Nat.reduceAdd,Nat.reduceSub,Nat.reduceMul,Nat.reduceDiv,Nat.reduceMod,Nat.reduceLeDiff,Nat.reduceLT,Nat.reduceBEq,Int.reduceToNat,Int.reduceLT,Int.reduceLE,Int.reduceEq,rnd_eq,enP,List.zipWith_cons_cons,List.zipWith_nil_left,enB,slD_c,ia_sl,H0]
      | 2,_ =>
        simp only [bF,go_sem,Nat.reduceAdd,Nat.reduceSub,Nat.reduceMul,Nat.reduceDiv,Nat.reduceMod,Nat.reduceLeDiff,Nat.reduceLT,Nat.reduceBEq,Int.reduceToNat,Int.reduceLT,Int.reduceLE,Int.reduceEq] at H0
        simp only [go_sem,Nat.reduceAdd,Nat.reduceSub,Nat.reduceMul,Nat.reduceDiv,Nat.reduceMod,Nat.reduceLeDiff,Nat.reduceLT,Nat.reduceBEq,Int.reduceToNat,Int.reduceLT,Int.reduceLE,Int.reduceEq,rnd_eq,enP,List.zipWith_cons_cons,List.zipWith_nil_left,enB,slD_c,ia_sl,H0]
    · simp at hp
  · rcases p with _ | ⟨x,_ | ⟨y,_ | ⟨w,p⟩⟩⟩
    · simp at hp
    · simp at hp
    · have H0:=H r (by simp) x
      have H1:=H s (by simp) y
      match rule,hr with
      | 0,_ =>
        simp only [bF,go_sem,Nat.reduceAdd,Nat.reduceSub,Nat.reduceMul,Nat.reduceDiv,Nat.reduceMod,Nat.reduceLeDiff,Nat.reduceLT,Nat.reduceBEq,Int.reduceToNat,Int.reduceLT,Int.reduceLE,Int.reduceEq] at H0 H1
        simp only [go_sem,Nat.reduceAdd,Nat.reduceSub,Nat.reduceMul,Nat.reduceDiv,Nat.reduceMod,Nat.reduceLeDiff,Nat.reduceLT,Nat.reduceBEq,Int.reduceToNat,Int.reduceLT,Int.reduceLE,Int.reduceEq,rnd_eq,enP,List.zipWith_cons_cons,List.zipWith_nil_left,enB,slD_c,ia_sl,H0,H1]
      | 1,_ =>
        simp only [bF,go_sem,Nat.reduceAdd,Nat.reduceSub,Nat.reduceMul,Nat.reduceDiv,Nat.reduceMod,Nat.reduceLeDiff,Nat.reduceLT,Nat.reduceBEq,Int.reduceToNat,Int.reduceLT,Int.reduceLE,Int.reduceEq] at H0 H1
        simp only [go_sem,Nat.reduceAdd,Nat.reduceSub,Nat.reduceMul,Nat.reduceDiv,Nat.reduceMod,Nat.reduceLeDiff,Nat.reduceLT,Nat.reduceBEq,Int.reduceToNat,Int.reduceLT,Int.reduceLE,Int.reduceEq,rnd_eq,enP,List.zipWith_cons_cons,List.zipWith_nil_left,enB,slD_c,ia_sl,H0,H1]
      | 2,_ =>
        simp only [bF,go_sem,Nat.reduceAdd,Nat.reduceSub,Nat.reduceMul,Nat.reduceDiv,Nat.reduceMod,Nat.reduceLeDiff,Nat.reduceLT,Nat.reduceBEq,Int.reduceToNat,Int.reduceLT,Int.reduceLE,Int.reduceEq] at H0 H1
        simp only [go_sem,Nat.reduceAdd,Nat.reduceSub,Nat.reduceMul,Nat.reduceDiv,Nat.reduceMod,Nat.reduceLeDiff,Nat.reduceLT,Nat.reduceBEq,Int.reduceToNat,Int.reduceLT,Int.reduceLE,Int.reduceEq,rnd_eq,enP,List.zipWith_cons_cons,List.zipWith_nil_left,enB,slD_c,ia_sl,H0,H1]
    · simp at hp
  · rcases p with _ | ⟨x,_ | ⟨y,_ | ⟨z,_ | ⟨w,p⟩⟩⟩⟩
    · simp at hp
    · simp at hp
    · simp at hp
    · have H0:=H r (by simp) x
      have H1:=H s (by simp) y
      have H2:=H t (by simp) z
      match rule,hr with
      | 0,_ =>
        simp only [bF,go_sem,Nat.reduceAdd,Nat.reduceSub,Nat.reduceMul,Nat.reduceDiv,Nat.reduceMod,Nat.reduceLeDiff,Nat.reduceLT,Nat.reduceBEq,Int.reduceToNat,Int.reduceLT,Int.reduceLE,Int.reduceEq] at H0 H1 H2
        simp only [go_sem,Nat.reduceAdd,Nat.reduceSub,Nat.reduceMul,Nat.reduceDiv,Nat.reduceMod,Nat.reduceLeDiff,Nat.reduceLT,Nat.reduceBEq,Int.reduceToNat,Int.reduceLT,Int.reduceLE,Int.reduceEq,rnd_eq,enP,List.zipWith_cons_cons,List.zipWith_nil_left,enB,slD_c,ia_sl,H0,H1,H2]
      | 1,_ =>
        simp only [bF,go_sem,Nat.reduceAdd,Nat.reduceSub,Nat.reduceMul,Nat.reduceDiv,Nat.reduceMod,Nat.reduceLeDiff,Nat.reduceLT,Nat.reduceBEq,Int.reduceToNat,Int.reduceLT,Int.reduceLE,Int.reduceEq] at H0 H1 H2
        simp only [go_sem,Nat.reduceAdd,Nat.reduceSub,Nat.reduceMul,Nat.reduceDiv,Nat.reduceMod,Nat.reduceLeDiff,Nat.reduceLT,Nat.reduceBEq,Int.reduceToNat,Int.reduceLT,Int.reduceLE,Int.reduceEq,rnd_eq,enP,List.zipWith_cons_cons,List.zipWith_nil_left,enB,slD_c,ia_sl,H0,H1,H2]
      | 2,_ =>
        simp only [bF,go_sem,Nat.reduceAdd,Nat.reduceSub,Nat.reduceMul,Nat.reduceDiv,Nat.reduceMod,Nat.reduceLeDiff,Nat.reduceLT,Nat.reduceBEq,Int.reduceToNat,Int.reduceLT,Int.reduceLE,Int.reduceEq] at H0 H1 H2
        simp only [go_sem,Nat.reduceAdd,Nat.reduceSub,Nat.reduceMul,Nat.reduceDiv,Nat.reduceMod,Nat.reduceLeDiff,Nat.reduceLT,Nat.reduceBEq,Int.reduceToNat,Int.reduceLT,Int.reduceLE,Int.reduceEq,rnd_eq,enP,List.zipWith_cons_cons,List.zipWith_nil_left,enB,slD_c,ia_sl,H0,H1,H2]
    · simp at hp
  · simp at h3
theorem okEdge_1 (n : Nat) (x : Int) : callP (level E (n+2)) 71 [.int .i64 x] = some (.bool (!(decide (x ≥ -1048576) && decide (x ≤ 1048576)))):=by
  rw [p71]
  have h1:=okWithin n x (-1048576) 1048576
  simp only [go_sem,Nat.reduceAdd,Nat.reduceSub,Nat.reduceMul,Nat.reduceDiv,Nat.reduceMod,Nat.reduceLeDiff,Nat.reduceLT,Nat.reduceBEq,Int.reduceToNat,Int.reduceLT,Int.reduceLE,Int.reduceEq,h1]
def farB (x : Int) : Bool:=!(decide (x ≥ -1048576) && decide (x ≤ 1048576))
theorem okEdgeS (n : Nat) (m : Im) (c : Bool) (p : List Int) (rule : Nat) (hr : rule < 3) (ko vo : Int) (h1 : callP (level E (n+9)) 48 [enIm m] = some (.int .i64 0)) (hm : ckBox m.bx = 0) (hs : m.st.length = m.bx.length) (hp : p.length = m.bx.length) (hf : p.any farB = false) (hmn : many m.bx ≠ 0) (hx : ∀ r ∈ m.bx,r.ex ≠ 0 ∧ ml 2 r.ex ≠ 0)
    (k : Nat) (v : Int) (he : elt m.bx ((List.zipWith (inW rule) m.bx p ++ [0,0,0]).take 3) m.st 0 = k) (hv : m.dt[k]? = some v) :
    callP (level E (n+10)) 22 [enIm m,.int .i64 rule,slD c 1 (p.map ic),.agg [.int .i64 ko,.int .u64 vo]] = some (.tup [.agg [.int .i64 m.kd,.int .u64 v],.int .i64 0]):=by
  obtain ⟨_,r2,_,_⟩:=ckBox0 hm
  rw [p22]
  have f1:=okFirstL (n+8) [[.int .i64 0],[.int .i64 0],[.int .i64 0]] [0,0,0] rfl (by simp)
  simp only [fnz,if_true] at f1
  have w1:=okWhen (n+8) false 11
  have w2:=okWhen (n+8) false 13
  have i1:=okWithin (n+8) rule 0 3
  have g1 : decide ((rule : Int) ≥ 0) = true:=by simp
  have g2 : decide ((rule : Int) ≤ 3) = true:=by simp; omega
  rw [g1,g2] at i1
  have c1:=okContains (n+7) c p 71 farB (by omega) (fun x _ => okEdge_1 (n+5) x)
  rw [hf] at c1
  have m1:=okMany (n+8) m.bb m.bx (by omega)
  have mv:=okMoved (n+8) m.bb c rule hr m.bx p r2 hp (inW rule) (fun r hr' x => okBound (n+6) rule r x (hx r hr').1 (hx r hr').2)
  have v1:=okViewAt (n+7) m ((List.zipWith (inW rule) m.bx p ++ [0,0,0]).take 3) k v (by simp) r2 (by omega) he hv
  have hr3 : ¬ (rule : Int) = 3:=by omega
  simp only [enIm] at h1 v1
  obtain ⟨x,y,z,hq⟩ : ∃ x y z,(List.zipWith (inW rule) m.bx p ++ [0,0,0]).take 3 = [x,y,z]:=by
    match hh : (List.zipWith (inW rule) m.bx p ++ [0,0,0]).take 3,(show ((List.zipWith (inW rule) m.bx p ++ [0,0,0]).take 3).length = 3 from by simp) with
    | [x,y,z],_ => exact ⟨x,y,z,rfl⟩
  rw [hq] at mv v1
  simp only [enP,List.map_cons,List.map_nil] at mv v1
  simp only [go_sem,Nat.reduceAdd,Nat.reduceSub,Nat.reduceMul,Nat.reduceDiv,Nat.reduceMod,Nat.reduceLeDiff,Nat.reduceLT,Nat.reduceBEq,Int.reduceToNat,Int.reduceLT,Int.reduceLE,Int.reduceEq,enIm,h1,f1,w1,w2,i1,c1,hp,m1,hmn,hr3,mv,v1,ne_eq,not_true_eq_false]
end Go.Vm.P4D

/- Chapter 04,functions: the bytes of an image. -/
set_option maxRecDepth 100000
set_option maxHeartbeats 4000000
namespace Go.Vm.P4D
open Go Go.Vm Go.Vm.P4
def u8 (b : Int) : List D:=[.int .u8 b]
attribute [go_sem] u8
def leB : Nat → Int → List Int
  | 0,_ => []
  | k + 1,v => wrp .u8 v :: leB k (v.fdiv 256)
theorem p256 : (2 : Int) ^ min (8 : Int).toNat IntKind.u64.bits = 256:=by decide
theorem sh8 (v : Int) : aBin .shr (.imm (.int .u64 v)) (.imm (.int .u64 8)) = some (.imm (.int .u64 (v.fdiv 256))):=by
  rw [bin_shr (by decide),p256]
theorem okLittle1 (n : Nat) (es : List (List D)) (v : Int) (h : es.length < 1000000) : callS (level E (n+1)) 91 [.ref 0 1 0 es.length,.imm (.int .u64 v),.imm (.int .i64 1)] [.arr 1 es] = some (.ref 1 1 0 (es.length + 1),[.dead,.arr 1 (es ++ (leB 1 v).map u8)]):=by
  rw [s91]
  have e1 : (es.length + 1) * 2 ≤ 70368744177664:=by omega
  simp only [go_sem,Nat.reduceAdd,Nat.reduceSub,Nat.reduceMul,Nat.reduceDiv,Nat.reduceMod,Nat.reduceLeDiff,Nat.reduceLT,Nat.reduceBEq,Int.reduceToNat,Int.reduceLT,Int.reduceLE,Int.reduceEq,rnd_eq,e1,leB,sh8,List.append_assoc]
theorem okLittle2 (n : Nat) (es : List (List D)) (v : Int) (h : es.length < 1000000) : callS (level E (n+1)) 91 [.ref 0 1 0 es.length,.imm (.int .u64 v),.imm (.int .i64 2)] [.arr 1 es] = some (.ref 1 1 0 (es.length + 2),[.dead,.arr 1 (es ++ (leB 2 v).map u8)]):=by
  rw [s91]
  have e1 : (es.length + 1) * 2 ≤ 70368744177664:=by omega
  have e2 : (es.length + 2) * 2 ≤ 70368744177664:=by omega
  simp only [go_sem,Nat.reduceAdd,Nat.reduceSub,Nat.reduceMul,Nat.reduceDiv,Nat.reduceMod,Nat.reduceLeDiff,Nat.reduceLT,Nat.reduceBEq,Int.reduceToNat,Int.reduceLT,Int.reduceLE,Int.reduceEq,rnd_eq,e1,e2,leB,sh8,List.append_assoc]
theorem okLittle4 (n : Nat) (es : List (List D)) (v : Int) (h : es.length < 1000000) : callS (level E (n+1)) 91 [.ref 0 1 0 es.length,.imm (.int .u64 v),.imm (.int .i64 4)] [.arr 1 es] = some (.ref 1 1 0 (es.length + 4),[.dead,.arr 1 (es ++ (leB 4 v).map u8)]):=by
  rw [s91]
  have e1 : (es.length + 1) * 2 ≤ 70368744177664:=by omega
  have e2 : (es.length + 2) * 2 ≤ 70368744177664:=by omega
  have e3 : (es.length + 3) * 2 ≤ 70368744177664:=by omega
  have e4 : (es.length + 4) * 2 ≤ 70368744177664:=by omega
  simp only [go_sem,Nat.reduceAdd,Nat.reduceSub,Nat.reduceMul,Nat.reduceDiv,Nat.reduceMod,Nat.reduceLeDiff,Nat.reduceLT,Nat.reduceBEq,Int.reduceToNat,Int.reduceLT,Int.reduceLE,Int.reduceEq,rnd_eq,e1,e2,e3,e4,leB,sh8,List.append_assoc]
theorem okLittle8 (n : Nat) (es : List (List D)) (v : Int) (h : es.length < 1000000) : callS (level E (n+1)) 91 [.ref 0 1 0 es.length,.imm (.int .u64 v),.imm (.int .i64 8)] [.arr 1 es] = some (.ref 1 1 0 (es.length + 8),[.dead,.arr 1 (es ++ (leB 8 v).map u8)]):=by
  rw [s91]
  have e1 : (es.length + 1) * 2 ≤ 70368744177664:=by omega
  have e2 : (es.length + 2) * 2 ≤ 70368744177664:=by omega
  have e3 : (es.length + 3) * 2 ≤ 70368744177664:=by omega
  have e4 : (es.length + 4) * 2 ≤ 70368744177664:=by omega
  have e5 : (es.length + 5) * 2 ≤ 70368744177664:=by omega
  have e6 : (es.length + 6) * 2 ≤ 70368744177664:=by omega
  have e7 : (es.length + 7) * 2 ≤ 70368744177664:=by omega
  have e8 : (es.length + 8) * 2 ≤ 70368744177664:=by omega
  simp only [go_sem,Nat.reduceAdd,Nat.reduceSub,Nat.reduceMul,Nat.reduceDiv,Nat.reduceMod,Nat.reduceLeDiff,Nat.reduceLT,Nat.reduceBEq,Int.reduceToNat,Int.reduceLT,Int.reduceLE,Int.reduceEq,rnd_eq,e1,e2,e3,e4,e5,e6,e7,e8,leB,sh8,List.append_assoc]
end Go.Vm.P4D

/- Chapter 04,functions: the bytes of an image,continued. -/
set_option maxRecDepth 100000
set_option maxHeartbeats 4000000
namespace Go.Vm.P4D
open Go Go.Vm Go.Vm.P4
def cellsIm (m : Im) : List D:=[.int .i64 m.kd,enB m.bb m.bx,slD m.tb 1 (m.st.map ic),slD m.db 1 (m.dt.map ub)]
def rgB (r : Rg) : List Int:=leB 4 (wrp .u64 r.lo) ++ leB 2 (wrp .u64 r.ex)
theorem rgB_len (r : Rg) : (rgB r).length = 6:=rfl
theorem byLoop (n : Nat) (m : Im) (h3 : m.bx.length ≤ 3) (acc : List (List D)) (ha : acc.length = 2) :
    outC ⟨0,false⟩ [0,1,1,1,0,0,0,0,0,0,0,0,0] (rnd (aCode (level E (n+1)) ⟨0,false⟩ b50_0) (head ⟨0,false⟩ [0,1,1,1,0,0,1,1,1,0,0,0,0])
      ⟨[.junk,.imm .nil,.imm (.ptr (cellsIm m)),.ptr 0 0,.junk,.junk,.imm (slD m.bb 2 (m.bx.map enR)),.imm (.int .i64 m.bx.length),.imm (.int .i64 0),.junk,.junk,.junk,.junk],[.box [.ref 1 1 0 acc.length],.arr 1 acc],none⟩) =
    some (.exit 0,⟨[.junk,.imm .nil,.imm (.ptr (cellsIm m)),.ptr 0 0,.junk,.junk,.junk,.junk,.junk,.junk,.junk,.junk,.junk],[.box [.ref 1 1 0 (acc ++ (m.bx.flatMap rgB).map u8).length],.arr 1 (acc ++ (m.bx.flatMap rgB).map u8)],none⟩):=by
  have h:=loop_fold (f:=aCode (level E (n+1)) ⟨0,false⟩ b50_0) (h:=head ⟨0,false⟩ [0,1,1,1,0,0,1,1,1,0,0,0,0]) (Φ:=outC ⟨0,false⟩ [0,1,1,1,0,0,0,0,0,0,0,0,0]) m.bx (fun (a : List (List D)) i => ⟨[.junk,.imm .nil,.imm (.ptr (cellsIm m)),.ptr 0 0,.junk,.junk,.imm (slD m.bb 2 (m.bx.map enR)),.imm (.int .i64 m.bx.length),.imm (.int .i64 i),.junk,.junk,.junk,.junk],[.box [.ref 1 1 0 a.length],.arr 1 a],none⟩) (fun a i => a.length = 2 + 6 * i)
    (fun a r => a ++ (rgB r).map u8) (fun a => some (.exit 0,⟨[.junk,.imm .nil,.imm (.ptr (cellsIm m)),.ptr 0 0,.junk,.junk,.junk,.junk,.junk,.junk,.junk,.junk,.junk],[.box [.ref 1 1 0 a.length],.arr 1 a],none⟩)) acc ha
    (fun a i r hI h2 h1 => by
      refine ⟨?_,by simp [hI,rgB_len]; omega⟩
      rw [rnd_eq]
      have l4:=okLittle4 n a (wrp .u64 r.lo) (by omega)
      have l2:=okLittle2 n (a ++ (leB 4 (wrp .u64 r.lo)).map u8) (wrp .u64 r.ex) (by simp [leB]; omega)
      simp only [go_sem,simprocAttr,leB] at l4 l2
      simp only [go_sem,simprocAttr,lt_t h2,h1,cellsIm,l4,l2,rgB,leB]
      rw [wrpS (by omega)]
      simp only [List.append_assoc,List.cons_append,List.nil_append])
    (fun a _ => by
      rw [rnd_eq]
      simp only [go_sem,simprocAttr,lt_f (Nat.le_refl _),cellsIm])
  rw [cast_0] at h
  rw [h]
  have e : ∀ (l : Bx) (acc : List (List D)),l.foldl (fun a r => a ++ (rgB r).map u8) acc = acc ++ (l.flatMap rgB).map u8:=by
    intro l
    induction l with
    | nil => intro acc; simp
    | cons x l ih => intro acc; rw [List.foldl_cons,ih]; simp
  rw [e]
def ByV (m : Im) : List AV:=[.junk,.imm .nil,.imm (.ptr (cellsIm m)),.ptr 0 0,.junk,.junk,.junk,.junk,.junk,.junk,.imm (.fn 95 [] [.ptr [enB m.bb m.bx]]),.junk,.junk]
def BySt (m : Im) (acc : List (List D)) : Ext:=⟨[11,12],b50_1,b50_2,ByV m,[.box [.ref 1 1 0 acc.length],.arr 1 acc],0,none⟩
theorem byRound1 (n : Nat) (m : Im) (acc : List (List D)) (i : Nat) (v : Int) (ha : acc.length < 1000000) (hv : callP (level E (n+1)) 62 [enIm m,enP (plc m.bx i)] = some (.int .u64 v)) (hz : callP (level E (n+1)) 60 [.int .i64 m.kd] = some (.int .i64 1)) :
    (level E (n+2)).round (BySt m acc) [.int .i64 (i : Int),enP (plc m.bx i)] = some (BySt m (acc ++ (leB 1 v).map u8),true):=by
  obtain ⟨x,y,z,hp⟩ : ∃ x y z,plc m.bx i = [x,y,z]:=by
    match hh : plc m.bx i,plc_len m.bx i with
    | [x,y,z],_ => exact ⟨x,y,z,rfl⟩
  rw [hp] at hv ⊢
  have l1:=okLittle1 n acc v ha
  simp only [go_sem,simprocAttr,leB] at l1
  simp only [enIm,enP,List.map_cons,List.map_nil] at hv
  unfold BySt
  rw [round_go rfl]
  simp only [go_sem,simprocAttr,ByV,cellsIm,enP,hv,hz,l1,leB,enIm]
  done
end Go.Vm.P4D

/- Chapter 04,functions: Encode (elements of a byte). -/
set_option maxRecDepth 100000
set_option maxHeartbeats 4000000
namespace Go.Vm.P4D
open Go Go.Vm Go.Vm.P4
theorem okWidth8 (n : Nat) : callP (level E (n+2)) 94 [.int .i64 1] = some (.tup [.int .i64 8,.int .i64 0]):=by
  rw [p94]
  have h1:=okIsKind n 1
  simp only [go_sem,Nat.reduceAdd,Nat.reduceSub,Nat.reduceMul,Nat.reduceDiv,Nat.reduceMod,Nat.reduceLeDiff,Nat.reduceLT,Nat.reduceBEq,Int.reduceToNat,Int.reduceLT,Int.reduceLE,Int.reduceEq] at h1
  simp only [go_sem,Nat.reduceAdd,Nat.reduceSub,Nat.reduceMul,Nat.reduceDiv,Nat.reduceMod,Nat.reduceLeDiff,Nat.reduceLT,Nat.reduceBEq,Int.reduceToNat,Int.reduceLT,Int.reduceLE,Int.reduceEq,h1]
theorem okSize8 (n : Nat) : callP (level E (n+3)) 60 [.int .i64 1] = some (.int .i64 1):=by
  rw [p60]
  have h1:=okWidth8 n
  have w8 : wrp .i64 (8 * 1) = 8:=by decide
  simp only [go_sem,Nat.reduceAdd,Nat.reduceSub,Nat.reduceMul,Nat.reduceDiv,Nat.reduceMod,Nat.reduceLeDiff,Nat.reduceLT,Nat.reduceBEq,Int.reduceToNat,Int.reduceLT,Int.reduceLE,Int.reduceEq,h1,rnd_eq,w8]
def byIm1 (m : Im) (N : Nat) (F : List Int → Int) : List Int:=[wrp .u8 m.kd,wrp .u8 m.bx.length] ++ m.bx.flatMap rgB ++ (List.range N).flatMap (fun i => leB 1 (F (plc m.bx i)))
theorem fold_app {α β : Type} (f : α → List β) : ∀ (l : List α) (acc : List β),l.foldl (fun a x => a ++ f x) acc = acc ++ l.flatMap f
  | [],acc => by simp
  | x :: l,acc => by simp only [List.foldl_cons,fold_app f l,List.flatMap_cons,List.append_assoc]
theorem okBytes1 (n : Nat) (m : Im) (h1 : m.bx.length ≤ 3) (hs : m.bx.length ≤ m.st.length) (hk : m.kd = 1) (N : Nat) (hN : many m.bx = N) (hN2 : N < 100000) (F : List Int → Int) (hF : Lies m m.bx N F) :
    callP (level E (n+8)) 50 [enIm m] = some (.sl 1 ((byIm1 m N F).map u8)):=by
  rw [p50]
  have b1:=byLoop (n+6) m h1 [[.int .u8 (wrp .u8 m.kd)],[.int .u8 (wrp .u8 m.bx.length)]] rfl
  have a1:=okAll (n+6) m.bb m.bx
  have h:=okAll1 (n+5) m.bb m.bx h1 N hN (by omega) (BySt m) (fun a i => a.length = 2 + 6 * m.bx.length + i) (fun a i => .inl (a ++ (leB 1 (F (plc m.bx i))).map u8)) ([[.int .u8 (wrp .u8 m.kd)],[.int .u8 (wrp .u8 m.bx.length)]] ++ (m.bx.flatMap rgB).map u8)
    (by
      have e : ∀ l : Bx,(l.flatMap rgB).length = 6 * l.length:=by
        intro l
        induction l with
        | nil => rfl
        | cons x l ih => rw [List.flatMap_cons,List.length_append,ih,rgB_len,List.length_cons]; omega
      simp [e]; omega)
    (fun a i hI hi => ⟨by
      obtain ⟨k,q1,q2⟩:=hF i hi
      exact byRound1 (n+4) m a i (F (plc m.bx i)) (by omega) (okViewAt (n+3) m (plc m.bx i) k _ (plc_len _ _) h1 hs q1 q2) (by rw [hk]; exact okSize8 (n+2)),fun a' ha => by injection ha with ha; subst ha; simp [hI,leB]; omega⟩)
  rw [runL_fold,fold_app] at h
  simp only [go_sem,Nat.reduceAdd,Nat.reduceSub,Nat.reduceMul,Nat.reduceDiv,Nat.reduceMod,Nat.reduceLeDiff,Nat.reduceLT,Nat.reduceBEq,Int.reduceToNat,Int.reduceLT,Int.reduceLE,Int.reduceEq,cellsIm] at b1
  simp only [go_sem,Nat.reduceAdd,Nat.reduceSub,Nat.reduceMul,Nat.reduceDiv,Nat.reduceMod,Nat.reduceLeDiff,Nat.reduceLT,Nat.reduceBEq,Int.reduceToNat,Int.reduceLT,Int.reduceLE,Int.reduceEq,enIm,b1,a1]
  simp only [go_sem,Nat.reduceAdd,Nat.reduceSub,Nat.reduceMul,Nat.reduceDiv,Nat.reduceMod,Nat.reduceLeDiff,Nat.reduceLT,Nat.reduceBEq,Int.reduceToNat,Int.reduceLT,Int.reduceLE,Int.reduceEq,BySt,ByV,cellsIm] at h
  rw [h]
  simp only [go_sem,Nat.reduceAdd,Nat.reduceSub,Nat.reduceMul,Nat.reduceDiv,Nat.reduceMod,Nat.reduceLeDiff,Nat.reduceLT,Nat.reduceBEq,Int.reduceToNat,Int.reduceLT,Int.reduceLE,Int.reduceEq]
  simp [byIm1,List.map_flatMap,u8]
theorem okEncode1 (n : Nat) (m : Im) (hc : callP (level E (n+9)) 48 [enIm m] = some (.int .i64 0)) (h1 : m.bx.length ≤ 3) (hs : m.bx.length ≤ m.st.length) (hk : m.kd = 1) (N : Nat) (hN : many m.bx = N) (hN2 : N < 100000) (F : List Int → Int) (hF : Lies m m.bx N F) :
    callP (level E (n+10)) 10 [enIm m] = some (.tup [.sl 1 ((byIm1 m N F).map u8),.int .i64 0]):=by
  rw [p10]
  have b1:=okBytes1 (n+1) m h1 hs hk N hN hN2 F hF
  simp only [enIm] at hc b1
  simp only [go_sem,Nat.reduceAdd,Nat.reduceSub,Nat.reduceMul,Nat.reduceDiv,Nat.reduceMod,Nat.reduceLeDiff,Nat.reduceLT,Nat.reduceBEq,Int.reduceToNat,Int.reduceLT,Int.reduceLE,Int.reduceEq,enIm,hc,b1,ne_eq,not_true_eq_false]
theorem okSameInts (n : Nat) (b c : Bool) (l : List Int) (hl : l.length < 1000000000) : callP (level E (n+1)) 43 [slD b 1 (l.map ic),slD c 1 (l.map ic)] = some (.bool true):=by
  rw [p43]
  simp only [go_sem,Nat.reduceAdd,Nat.reduceSub,Nat.reduceMul,Nat.reduceDiv,Nat.reduceMod,Nat.reduceLeDiff,Nat.reduceLT,Nat.reduceBEq,Int.reduceToNat,Int.reduceLT,Int.reduceLE,Int.reduceEq,ne_eq,not_true_eq_false]
  have h:=loop_fold (f:=aCode (level E (n)) ⟨0,false⟩ b43_0) (h:=head ⟨0,false⟩ [1,1,0,1,0,0,0]) (Φ:=outC ⟨0,false⟩ [0,0,1,0,0,0,0]) l (fun (a : Unit) i => ⟨[.imm (slD b 1 (l.map ic)),.imm (slD c 1 (l.map ic)),.junk,.imm (.int .i64 i),.junk,.junk,.junk],[],none⟩) (fun _ _ => True)
    (fun a x => ()) (fun a => some (.exit 0,⟨[.junk,.junk,.junk,.junk,.junk,.junk,.junk],[],none⟩)) () trivial
    (fun a i x hI h2 h1 => by
      refine ⟨?_,trivial⟩
      rw [rnd_eq]
      simp only [go_sem,Nat.reduceAdd,Nat.reduceSub,Nat.reduceMul,Nat.reduceDiv,Nat.reduceMod,Nat.reduceLeDiff,Nat.reduceLT,Nat.reduceBEq,Int.reduceToNat,Int.reduceLT,Int.reduceLE,Int.reduceEq,lt_t h2,h1,ne_eq,not_true_eq_false]
      rw [wrpS (by omega)])
    (fun a _ => by
      rw [rnd_eq]
      simp only [go_sem,Nat.reduceAdd,Nat.reduceSub,Nat.reduceMul,Nat.reduceDiv,Nat.reduceMod,Nat.reduceLeDiff,Nat.reduceLT,Nat.reduceBEq,Int.reduceToNat,Int.reduceLT,Int.reduceLE,Int.reduceEq,lt_f (Nat.le_refl _)])
  rw [cast_0] at h
  rw [h]
  simp only [go_sem,Nat.reduceAdd,Nat.reduceSub,Nat.reduceMul,Nat.reduceDiv,Nat.reduceMod,Nat.reduceLeDiff,Nat.reduceLT,Nat.reduceBEq,Int.reduceToNat,Int.reduceLT,Int.reduceLE,Int.reduceEq]
theorem okSameBits (n : Nat) (b c : Bool) (l : List Int) (hl : l.length < 1000000000) : callP (level E (n+1)) 47 [slD b 1 (l.map ub),slD c 1 (l.map ub)] = some (.bool true):=by
  rw [p47]
  simp only [go_sem,Nat.reduceAdd,Nat.reduceSub,Nat.reduceMul,Nat.reduceDiv,Nat.reduceMod,Nat.reduceLeDiff,Nat.reduceLT,Nat.reduceBEq,Int.reduceToNat,Int.reduceLT,Int.reduceLE,Int.reduceEq,ne_eq,not_true_eq_false]
  have h:=loop_fold (f:=aCode (level E (n)) ⟨0,false⟩ b47_0) (h:=head ⟨0,false⟩ [1,1,0,1,0,0,0]) (Φ:=outC ⟨0,false⟩ [0,0,1,0,0,0,0]) l (fun (a : Unit) i => ⟨[.imm (slD b 1 (l.map ub)),.imm (slD c 1 (l.map ub)),.junk,.imm (.int .i64 i),.junk,.junk,.junk],[],none⟩) (fun _ _ => True)
    (fun a x => ()) (fun a => some (.exit 0,⟨[.junk,.junk,.junk,.junk,.junk,.junk,.junk],[],none⟩)) () trivial
    (fun a i x hI h2 h1 => by
      refine ⟨?_,trivial⟩
      rw [rnd_eq]
      simp only [go_sem,Nat.reduceAdd,Nat.reduceSub,Nat.reduceMul,Nat.reduceDiv,Nat.reduceMod,Nat.reduceLeDiff,Nat.reduceLT,Nat.reduceBEq,Int.reduceToNat,Int.reduceLT,Int.reduceLE,Int.reduceEq,lt_t h2,h1,ne_eq,not_true_eq_false]
      rw [wrpS (by omega)])
    (fun a _ => by
      rw [rnd_eq]
      simp only [go_sem,Nat.reduceAdd,Nat.reduceSub,Nat.reduceMul,Nat.reduceDiv,Nat.reduceMod,Nat.reduceLeDiff,Nat.reduceLT,Nat.reduceBEq,Int.reduceToNat,Int.reduceLT,Int.reduceLE,Int.reduceEq,lt_f (Nat.le_refl _)])
  rw [cast_0] at h
  rw [h]
  simp only [go_sem,Nat.reduceAdd,Nat.reduceSub,Nat.reduceMul,Nat.reduceDiv,Nat.reduceMod,Nat.reduceLeDiff,Nat.reduceLT,Nat.reduceBEq,Int.reduceToNat,Int.reduceLT,Int.reduceLE,Int.reduceEq]
theorem okSameBytes (n : Nat) (b c : Bool) (l : List Int) (hl : l.length < 1000000000) : callP (level E (n+1)) 49 [slD b 1 (l.map u8),slD c 1 (l.map u8)] = some (.bool true):=by
  rw [p49]
  simp only [go_sem,Nat.reduceAdd,Nat.reduceSub,Nat.reduceMul,Nat.reduceDiv,Nat.reduceMod,Nat.reduceLeDiff,Nat.reduceLT,Nat.reduceBEq,Int.reduceToNat,Int.reduceLT,Int.reduceLE,Int.reduceEq,ne_eq,not_true_eq_false]
  have h:=loop_fold (f:=aCode (level E (n)) ⟨0,false⟩ b49_0) (h:=head ⟨0,false⟩ [1,1,0,1,0,0,0]) (Φ:=outC ⟨0,false⟩ [0,0,1,0,0,0,0]) l (fun (a : Unit) i => ⟨[.imm (slD b 1 (l.map u8)),.imm (slD c 1 (l.map u8)),.junk,.imm (.int .i64 i),.junk,.junk,.junk],[],none⟩) (fun _ _ => True)
    (fun a x => ()) (fun a => some (.exit 0,⟨[.junk,.junk,.junk,.junk,.junk,.junk,.junk],[],none⟩)) () trivial
    (fun a i x hI h2 h1 => by
      refine ⟨?_,trivial⟩
      rw [rnd_eq]
      simp only [go_sem,Nat.reduceAdd,Nat.reduceSub,Nat.reduceMul,Nat.reduceDiv,Nat.reduceMod,Nat.reduceLeDiff,Nat.reduceLT,Nat.reduceBEq,Int.reduceToNat,Int.reduceLT,Int.reduceLE,Int.reduceEq,lt_t h2,h1,ne_eq,not_true_eq_false]
      rw [wrpS (by omega)])
    (fun a _ => by
      rw [rnd_eq]
      simp only [go_sem,Nat.reduceAdd,Nat.reduceSub,Nat.reduceMul,Nat.reduceDiv,Nat.reduceMod,Nat.reduceLeDiff,Nat.reduceLT,Nat.reduceBEq,Int.reduceToNat,Int.reduceLT,Int.reduceLE,Int.reduceEq,lt_f (Nat.le_refl _)])
  rw [cast_0] at h
  rw [h]
  simp only [go_sem,Nat.reduceAdd,Nat.reduceSub,Nat.reduceMul,Nat.reduceDiv,Nat.reduceMod,Nat.reduceLeDiff,Nat.reduceLT,Nat.reduceBEq,Int.reduceToNat,Int.reduceLT,Int.reduceLE,Int.reduceEq]
end Go.Vm.P4D

/- Chapter 04,functions: the document's examples. -/
set_option maxRecDepth 100000
set_option maxHeartbeats 8000000
namespace Go.Vm.P4D
open Go Go.Vm Go.Vm.P4
def bx0 : Bx:=[⟨2,3⟩,⟨0,2⟩]
def ot0 : Bx:=[⟨3,2⟩,⟨1,5⟩]
def m0 : Im:=⟨1,false,bx0,false,[1,3],false,[10,20,30,40,50,60]⟩
def m1 : Im:=⟨1,false,bx0,false,[2,6],false,[0,0,0,0,0,0,0,0,0,0,0,0]⟩
def m2 : Im:=⟨1,false,bx0,false,[1,2],false,[0,0,0,0,0,0,0,0,0,0,0,0]⟩
theorem bits8_all : bits8 0 ∧ bits8 10 ∧ bits8 20 ∧ bits8 30 ∧ bits8 40 ∧ bits8 50 ∧ bits8 60:=by
  unfold bits8
  decide
theorem ck_m0 : ckIm (fun _ => 0) m0 = 0:=by decide
theorem ck_m1 : ckIm (fun _ => 0) m1 = 0:=by decide
theorem ck_m2 : ckIm (fun _ => 0) m2 = 26:=by decide
theorem b8_m0 : ∀ v ∈ m0.dt,bits8 v:=by
  obtain ⟨h0,h1,h2,h3,h4,h5,h6⟩:=bits8_all
  intro v hv
  simp only [m0,List.mem_cons,List.not_mem_nil,or_false] at hv
  rcases hv with rfl | rfl | rfl | rfl | rfl | rfl <;> assumption
theorem chk0 (n : Nat) : callP (level E (n+9)) 48 [enIm m0] = some (.int .i64 0):=by
  have h:=okCheck n m0 (fun _ => 0) (by decide) (by decide) (by decide) (fun v hv => okCheck8 (n+1) v (b8_m0 v hv))
  rw [ck_m0] at h
  exact h
theorem chk1 (n : Nat) : callP (level E (n+9)) 48 [enIm m1] = some (.int .i64 0):=by
  have h:=okCheck n m1 (fun _ => 0) (by decide) (by decide) (by decide) (fun v hv => okCheck8 (n+1) v (by
    have : v = 0:=by simpa [m1] using hv
    rw [this]; exact bits8_all.1))
  rw [ck_m1] at h
  exact h
theorem chk2 (n : Nat) : callP (level E (n+9)) 48 [enIm m2] = some (.int .i64 26):=by
  have h:=okCheck n m2 (fun _ => 0) (by decide) (by decide) (by decide) (fun v hv => okCheck8 (n+1) v (by
    have : v = 0:=by simpa [m2] using hv
    rw [this]; exact bits8_all.1))
  rw [ck_m2] at h
  exact h
theorem ckb0 : ckBox bx0 = 0:=by decide
theorem aw_at (n : Nat) : callP (level E (n+11)) 24 [enIm m0,slD false 1 ([3,1].map ic)] = some (.tup [.agg [.int .i64 1,.int .u64 50],.int .i64 0]):=by
  have h:=okCheckAt n m0 false [3,1] (fun _ => 0) (by decide) (by decide) (by decide) (fun v hv => okCheck8 (n+1) v (b8_m0 v hv))
  rw [show ckAt (fun _ => 0) m0 [3,1] = 0 from by decide] at h
  exact okAtS n m0 false [3,1] h (by decide) (by decide) (by decide) 4 50 (by decide) (by decide)
def fSl (p : List Int) : Int:=if p.headD 0 = 0 then 20 else 50
theorem aw_slice (n : Nat) : callP (level E (n+10)) 46 [enIm m0,.int .i64 0,.int .i64 3] = some (.tup [enIm (mkIm 1 [⟨0,2⟩] 2 fSl),.int .i64 0]):=by
  refine okSlice2 n m0 ⟨2,3⟩ ⟨0,2⟩ rfl 3 (chk0 n) rfl ckb0 (by decide) (by decide) 2 (by decide) (by decide) fSl (fun i hi => ?_)
  match i,hi with
  | 0,_ => exact ⟨0,0,0,1,by decide,by decide,by decide⟩
  | 1,_ => exact ⟨1,0,0,4,by decide,by decide,by decide⟩
def fTr (p : List Int) : Int:=10 + 30 * p.headD 0 + 10 * ((p.tail).headD 0 - 2)
theorem aw_trans (n : Nat) : callP (level E (n+10)) 18 [enIm m0,.int .i64 0,.int .i64 1] = some (.tup [enIm (mkIm 1 [⟨0,2⟩,⟨2,3⟩] 6 fTr),.int .i64 0]):=by
  refine okTranspose2 n m0 ⟨2,3⟩ ⟨0,2⟩ rfl (chk0 n) rfl 6 (by decide) (by decide) fTr (fun i hi => ?_)
  match i,hi with
  | 0,_ => exact ⟨0,2,0,0,by decide,by decide,by decide⟩
  | 1,_ => exact ⟨1,2,0,3,by decide,by decide,by decide⟩
  | 2,_ => exact ⟨0,3,0,1,by decide,by decide,by decide⟩
  | 3,_ => exact ⟨1,3,0,4,by decide,by decide,by decide⟩
  | 4,_ => exact ⟨0,4,0,2,by decide,by decide,by decide⟩
  | 5,_ => exact ⟨1,4,0,5,by decide,by decide,by decide⟩
def fCr (p : List Int) : Int:=50 + 10 * (p.headD 0 - 3)
theorem aw_crop (n : Nat) : callP (level E (n+10)) 19 [enIm m0,enB false [⟨3,2⟩,⟨1,1⟩]] = some (.tup [enIm (mkIm 1 [⟨3,2⟩,⟨1,1⟩] 2 fCr),.int .i64 0]):=by
  refine okCropS n m0 false [⟨3,2⟩,⟨1,1⟩] (chk0 n) ckb0 rfl (by decide) rfl (by rfl) 2 (by decide) fCr (fun i hi => ?_)
  match i,hi with
  | 0,_ => exact ⟨4,by decide,by decide⟩
  | 1,_ => exact ⟨5,by decide,by decide⟩
theorem aw_edge (n : Nat) (rule : Nat) (hr : rule < 3) : callP (level E (n+10)) 22 [enIm m0,.int .i64 rule,slD false 1 ([0,5].map ic),.agg [.int .i64 0,.int .u64 0]] = some (.tup [.agg [.int .i64 1,.int .u64 ([40,50,50].getD rule 0)],.int .i64 0]):=by
  have hx : ∀ r ∈ m0.bx,r.ex ≠ 0 ∧ ml 2 r.ex ≠ 0:=by
    intro r hr
    simp only [m0,bx0,List.mem_cons,List.not_mem_nil,or_false] at hr
    rcases hr with rfl | rfl <;> decide
  match rule,hr with
  | 0,hr => exact okEdgeS n m0 false [0,5] 0 hr 0 0 (chk0 n) ckb0 rfl rfl (by decide) (by decide) hx 3 40 (by decide) (by decide)
  | 1,hr => exact okEdgeS n m0 false [0,5] 1 hr 0 0 (chk0 n) ckb0 rfl rfl (by decide) (by decide) hx 4 50 (by decide) (by decide)
  | 2,hr => exact okEdgeS n m0 false [0,5] 2 hr 0 0 (chk0 n) ckb0 rfl rfl (by decide) (by decide) hx 4 50 (by decide) (by decide)
def mS : Im:=mkIm 1 [⟨0,2⟩] 2 fSl
theorem aw_encode (n : Nat) : callP (level E (n+10)) 10 [enIm mS] = some (.tup [.sl 1 (([1,1,0,0,0,0,2,0,20,50] : List Int).map u8),.int .i64 0]):=by
  have hb : ∀ v ∈ mS.dt,bits8 v:=by
    obtain ⟨h0,h1,h2,h3,h4,h5,h6⟩:=bits8_all
    intro v hv
    have e : mS.dt = [20,50]:=by decide
    rw [e] at hv
    simp only [List.mem_cons,List.not_mem_nil,or_false] at hv
    rcases hv with rfl | rfl <;> assumption
  have h:=okCheck n mS (fun _ => 0) (by decide) (by decide) (by decide) (fun v hv => okCheck8 (n+1) v (hb v hv))
  rw [show ckIm (fun _ => 0) mS = 0 from by decide] at h
  have k:=okEncode1 n mS h (by decide) (by decide) rfl 2 (by decide) (by decide) fSl (fun i hi => by
    match i,hi with
    | 0,_ => exact ⟨0,by decide,by decide⟩
    | 1,_ => exact ⟨1,by decide,by decide⟩)
  rw [show byIm1 mS 2 fSl = [1,1,0,0,0,0,2,0,20,50] from by decide] at k
  exact k
end Go.Vm.P4D

/- Chapter 04,functions: the reference's boxes. -/
set_option maxRecDepth 100000
set_option maxHeartbeats 1000000
namespace Go.Vm.P4D
open Go Go.Vm Go.Vm.P4
theorem okRProduct (n : Nat) (b : Bool) (l : Bx) (hl : l.length < 1000000000) : callP (level E (n+1)) 17 [enB b l] = some (.int .i64 (many l)):=by
  rw [p17]
  simp only [go_sem,simprocAttr]
  have h:=loop_fold (f:=aCode (level E (n)) ⟨0,false⟩ b17_0) (h:=head ⟨0,false⟩ [1,0,1,1,0]) (Φ:=outC ⟨0,false⟩ [0,0,1,0,0]) l (fun (a : Int) i => ⟨[.imm (slD b 2 (l.map enR)),.junk,.imm (.int .i64 a),.imm (.int .i64 i),.junk],[],none⟩) (fun _ _ => True)
    (fun a x => ml a x.ex) (fun a => some (.exit 0,⟨[.junk,.junk,.imm (.int .i64 a),.junk,.junk],[],none⟩)) 1 trivial
    (fun a i x _ h2 h1 => ⟨by
      rw [rnd_eq]
      simp only [go_sem,simprocAttr,lt_t h2,h1,ml]
      rw [wrpS (by omega)],trivial⟩)
    (fun _ _ => by
      rw [rnd_eq]
      simp only [go_sem,simprocAttr,lt_f (Nat.le_refl _)])
  rw [cast_0] at h
  rw [h]
  simp only [go_sem,simprocAttr,many]
def shortN (l : Bx) : Int:=(l.take 4).foldl (fun n r => ml n (max 0 (min r.ex 100))) 1
theorem okShortBox (n : Nat) (b : Bool) (l : Bx) : callP (level E (n+1)) 8 [enB b l] = some (.bool (decide (l.length ≤ 4) && decide (shortN l ≤ 64))):=by
  rw [p8]
  simp only [go_sem,simprocAttr]
  have h:=loop_fold (f:=aCode (level E (n)) ⟨0,false⟩ b8_0) (h:=head ⟨0,false⟩ [1,0,1,1,0]) (Φ:=outC ⟨0,false⟩ [1,0,1,0,0]) (l.take 4) (fun (a : Int) i => ⟨[.imm (slD b 2 (l.map enR)),.junk,.imm (.int .i64 a),.imm (.int .i64 i),.junk],[],none⟩) (fun _ _ => True)
    (fun a x => ml a (max 0 (min x.ex 100))) (fun a => some (.exit 0,⟨[.imm (slD b 2 (l.map enR)),.junk,.imm (.int .i64 a),.junk,.junk],[],none⟩)) 1 trivial
    (fun a i x _ h2 h1 => ⟨by
      rw [List.length_take] at h2
      rw [List.getElem?_take_of_lt (by omega)] at h1
      have h4 : (i : Int) < 4:=by omega
      rw [rnd_eq]
      simp only [go_sem,simprocAttr,lt_t (show i < l.length by omega),h1,h4,ml]
      rw [wrpS (by omega)],trivial⟩)
    (fun a _ => by
      rw [rnd_eq]
      rw [List.length_take]
      by_cases h5 : l.length ≤ 4
      · rw [Nat.min_eq_right h5]
        simp only [go_sem,simprocAttr,lt_f (Nat.le_refl _)]
      · rw [Nat.min_eq_left (by omega)]
        have h6 : (4 : Int) < l.length:=by omega
        have h7 : ¬ (4 : Int) < 4:=by omega
        simp only [go_sem,simprocAttr,h6,h7])
  rw [cast_0] at h
  rw [h]
  by_cases h5 : (l.length : Int) ≤ 4
  · have h6 : l.length ≤ 4:=by omega
    simp only [go_sem,simprocAttr,h5,h6,shortN]
  · have h6 : ¬ l.length ≤ 4:=by omega
    simp only [go_sem,simprocAttr,h5,h6,shortN]
theorem okOwnBox (n : Nat) (b : Bool) (l : Bx) (hl : l.length < 1000000) : callP (level E (n+1)) 20 [enB b l] = some (enB true l):=by
  rw [p20]
  rcases l with _ | ⟨x,t⟩
  · cases b <;> simp only [go_sem,simprocAttr,slD] <;> rfl
  · have e : (t.length + 1) * 17 ≤ 70368744177664:=by simp at hl; omega
    have e0 : enB b (x :: t) = .sl 2 ((x :: t).map enR):=by cases b <;> rfl
    rw [e0]
    simp only [go_sem,simprocAttr,e] <;> rfl
theorem okSameBox (n : Nat) (b c : Bool) (l : Bx) (hl : l.length < 1000000000) : callP (level E (n+1)) 32 [enB b l,enB c l] = some (.bool true):=by
  rw [p32]
  simp only [go_sem,simprocAttr,ne_eq,not_true_eq_false]
  have h:=loop_fold (f:=aCode (level E (n)) ⟨0,false⟩ b32_0) (h:=head ⟨0,false⟩ [1,1,0,1,0,0,0]) (Φ:=outC ⟨0,false⟩ [0,0,1,0,0,0,0]) l (fun (a : Unit) i => ⟨[.imm (slD b 2 (l.map enR)),.imm (slD c 2 (l.map enR)),.junk,.imm (.int .i64 i),.junk,.junk,.junk],[],none⟩) (fun _ _ => True)
    (fun a x => ()) (fun a => some (.exit 0,⟨[.junk,.junk,.junk,.junk,.junk,.junk,.junk],[],none⟩)) () trivial
    (fun a i x hI h2 h1 => by
      refine ⟨?_,trivial⟩
      rw [rnd_eq]
      simp only [go_sem,simprocAttr,lt_t h2,h1,aEq,eqL,eqE,intEq,beq_self_eq_true]
      rw [wrpS (by omega)])
    (fun a _ => by
      rw [rnd_eq]
      simp only [go_sem,simprocAttr,lt_f (Nat.le_refl _)])
  rw [cast_0] at h
  rw [h]
  simp only [go_sem,simprocAttr]
end Go.Vm.P4D

/- Chapter 04,functions: the document's examples,all of them. -/
set_option maxRecDepth 100000
set_option maxHeartbeats 16000000
namespace Go.Vm.P4D
open Go Go.Vm Go.Vm.P4
def bxD : D:=.sl 2 [[.int .i64 2,.int .i64 3],[.int .i64 0,.int .i64 2]]
def imD : D:=.agg [.int .i64 1,bxD,.sl 1 [[.int .i64 1],[.int .i64 3]],.sl 1 [[.int .u64 10],[.int .u64 20],[.int .u64 30],[.int .u64 40],[.int .u64 50],[.int .u64 60]]]
theorem aw_box (n : Nat) : callP (level E (n+1)) 44 [] = some bxD:=by
  rw [p44]
  simp only [go_sem,Nat.reduceAdd,Nat.reduceSub,Nat.reduceMul,Nat.reduceDiv,Nat.reduceMod,Nat.reduceLeDiff,Nat.reduceLT,Nat.reduceBEq,Int.reduceToNat,Int.reduceLT,Int.reduceLE,Int.reduceEq,bxD]
theorem aw_given (n : Nat) : callP (level E (n+2)) 45 [] = some imD:=by
  rw [p45]
  have h:=aw_box n
  simp only [bxD] at h
  simp only [go_sem,Nat.reduceAdd,Nat.reduceSub,Nat.reduceMul,Nat.reduceDiv,Nat.reduceMod,Nat.reduceLeDiff,Nat.reduceLT,Nat.reduceBEq,Int.reduceToNat,Int.reduceLT,Int.reduceLE,Int.reduceEq,imD,bxD,h]
theorem e_m0 : enIm m0 = imD:=rfl
theorem e_b0 : enB false bx0 = bxD:=rfl
def pt (a b : Int) : List D:=[.sl 1 [[.int .i64 a],[.int .i64 b]]]
theorem okAwake (n : Nat) : callP (level E (n+60)) 9 [] = some (.bool true):=by
  rw [p9]
  have q1:=aw_box (n+58)
  have q2:=aw_given (n+57)
  have q3:=okPointsS (n+54) false bx0 ckb0 6 (by decide)
  rw [e_b0,show ptsD bx0 6 = .sl 1 [pt 2 0,pt 3 0,pt 4 0,pt 2 1,pt 3 1,pt 4 1] from rfl] at q3
  have q4:=okIndex (n+53) false false bx0 [3,1] (by decide)
  rw [e_b0,show ckPoint bx0 [3,1] = 0 from by decide,if_pos rfl,show hasB bx0 [3,1] = true from by decide,if_pos rfl,show elt bx0 (([3,1] ++ [0,0,0] : List Int).take 3) (strides 1 bx0) 0 = 4 from by decide] at q4
  have q5:=okIntersect (n+53) false false bx0 ot0 (by decide) (by decide) (fun _ => rfl)
  rw [e_b0,show interD bx0 ot0 = .sl 2 [[.int .i64 3,.int .i64 2],[.int .i64 1,.int .i64 1]] from rfl,show ckBoth bx0 ot0 = 0 from by decide] at q5
  have q6:=okUnion (n+53) false false bx0 ot0 (by decide) (by decide) (fun _ => ⟨rfl,by decide,by decide⟩)
  rw [e_b0,show unionD bx0 ot0 = (.sl 2 [[.int .i64 2,.int .i64 3],[.int .i64 0,.int .i64 6]],0) from rfl] at q6
  have q7:=aw_at (n+48)
  have q8:=aw_slice (n+49)
  have q9:=aw_trans (n+49)
  have q10:=aw_crop (n+49)
  rw [e_m0] at q7 q8 q9 q10
  rw [show enIm (mkIm 1 [⟨0,2⟩] 2 fSl) = .agg [.int .i64 1,.sl 2 [[.int .i64 0,.int .i64 2]],.sl 1 [[.int .i64 1]],.sl 1 [[.int .u64 20],[.int .u64 50]]] from rfl] at q8
  rw [show enIm (mkIm 1 [⟨0,2⟩,⟨2,3⟩] 6 fTr) = .agg [.int .i64 1,.sl 2 [[.int .i64 0,.int .i64 2],[.int .i64 2,.int .i64 3]],.sl 1 [[.int .i64 1],[.int .i64 2]],.sl 1 [[.int .u64 10],[.int .u64 40],[.int .u64 20],[.int .u64 50],[.int .u64 30],[.int .u64 60]]] from rfl] at q9
  rw [show enIm (mkIm 1 [⟨3,2⟩,⟨1,1⟩] 2 fCr) = .agg [.int .i64 1,.sl 2 [[.int .i64 3,.int .i64 2],[.int .i64 1,.int .i64 1]],.sl 1 [[.int .i64 1],[.int .i64 2]],.sl 1 [[.int .u64 50],[.int .u64 60]]] from rfl] at q10
  have r0:=aw_edge (n+49) 0 (by decide)
  have r1:=aw_edge (n+49) 1 (by decide)
  have r2:=aw_edge (n+49) 2 (by decide)
  rw [e_m0] at r0 r1 r2
  have c1:=chk1 (n+50)
  have c2:=chk2 (n+50)
  have en:=aw_encode (n+49)
  rw [show enIm mS = .agg [.int .i64 1,.sl 2 [[.int .i64 0,.int .i64 2]],.sl 1 [[.int .i64 1]],.sl 1 [[.int .u64 20],[.int .u64 50]]] from rfl] at en
  have s1:=okSameInts (n+58) false false [4,1] (by decide)
  have s2:=okSameBox (n+58) false false [⟨3,2⟩,⟨1,1⟩] (by decide)
  have s3:=okSameBox (n+58) false false [⟨2,3⟩,⟨0,6⟩] (by decide)
  have s4:=okSameBits (n+58) false false [20,50] (by decide)
  have s5:=okSameBits (n+58) false false [10,40,20,50,30,60] (by decide)
  have s6:=okSameBits (n+58) false false [50,60] (by decide)
  have s7:=okSameBytes (n+58) false false [1,1,0,0,0,0,2,0,20,50] (by decide)
  simp only [go_sem,Nat.reduceAdd,Nat.reduceSub,Nat.reduceMul,Nat.reduceDiv,Nat.reduceMod,Nat.reduceLeDiff,Nat.reduceLT,Nat.reduceBEq,Int.reduceToNat,Int.reduceLT,Int.reduceLE,Int.reduceEq,imD,bxD,pt,enB,slD,ot0,enIm,m1,m2,mS,bx0] at q1 q2 q3 q4 q5 q6 q7 q8 q9 q10 r0 r1 r2 c1 c2 en s1 s2 s3 s4 s5 s6 s7
  have w0 : wrp .i64 (0 + 0) = 0:=by decide
  have n0 : (4 : Int) ≠ 0:=by decide
  simp only [go_sem,Nat.reduceAdd,Nat.reduceSub,Nat.reduceMul,Nat.reduceDiv,Nat.reduceMod,Nat.reduceLeDiff,Nat.reduceLT,Nat.reduceBEq,Int.reduceToNat,Int.reduceLT,Int.reduceLE,Int.reduceEq,q1,q2,q3,q4,q5,q6,q7,q8,q9,q10,w0,ne_eq,not_true_eq_false,ia_sl,s1,s2,s3,s4,s5,s6,aEq,eqL,eqE,intEq,beq_self_eq_true]
  simp only [go_sem,Nat.reduceAdd,Nat.reduceSub,Nat.reduceMul,Nat.reduceDiv,Nat.reduceMod,Nat.reduceLeDiff,Nat.reduceLT,Nat.reduceBEq,Int.reduceToNat,Int.reduceLT,Int.reduceLE,Int.reduceEq,rnd_eq,q1,q2,r0,r1,r2,ne_eq,not_true_eq_false,ia_sl,c1,c2,en,s7,List.reduceReplicate,Int.reduceMul]
  done
end Go.Vm.P4D

/- Plain: bits of 64-bit numbers as remainders and quotients. -/
set_option maxRecDepth 100000
namespace Go.Vm.P4
open Go Go.Vm
theorem wrpU {n : Int} (h0 : 0 ≤ n) (h1 : n < 18446744073709551616) : wrp .u64 n = n:=by
  have e1 : (2 ^ IntKind.u64.bits : Int) = 18446744073709551616:=by decide
  show IntKind.u64.wrap n = n
  simp only [IntKind.wrap,e1,show IntKind.u64.signed = false from rfl,Bool.false_and,Bool.false_eq_true,if_false]
  omega
theorem bv_low {v : Int} (h0 : 0 ≤ v) (h1 : v < 18446744073709551616) : (BitVec.ofInt 64 v).toNat = v.toNat:=by
  obtain ⟨n,rfl⟩ : ∃ n : Nat,v = n:=⟨v.toNat,by omega⟩
  rw [BitVec.ofInt_natCast,BitVec.toNat_ofNat]
  omega
theorem mask_bit (w i : Nat) (hw : w ≤ 64) : (BitVec.ofNat 64 (2 ^ w - 1)).getLsbD i = decide (i < w):=by
  rw [BitVec.getLsbD_ofNat,Nat.testBit_two_pow_sub_one]
  by_cases h : i < w
  · simp [h,show i < 64 by omega]
  · simp [h]
theorem andNot_mask (a : BitVec 64) (w : Nat) (hw : w ≤ 64) : (a &&& ~~~(BitVec.ofNat 64 (2 ^ w - 1))).toNat = a.toNat >>> w <<< w:=by
  apply Nat.eq_of_testBit_eq
  intro i
  rw [BitVec.testBit_toNat,BitVec.getLsbD_and,BitVec.getLsbD_not,mask_bit w i hw,Nat.testBit_shiftLeft,Nat.testBit_shiftRight,BitVec.testBit_toNat]
  by_cases h : i < w
  · have : ¬ w ≤ i:=by omega
    simp [h,this]
  · have h2 : w ≤ i:=by omega
    rw [show w + (i - w) = i by omega]
    by_cases h3 : i < 64
    · simp [h,h2,h3]
    · have : a.getLsbD i = false:=BitVec.getLsbD_of_ge a i (by omega)
      simp [this]
theorem and_mask (a : BitVec 64) (w : Nat) (hw : w ≤ 64) : (a &&& BitVec.ofNat 64 (2 ^ w - 1)).toNat = a.toNat % 2 ^ w:=by
  apply Nat.eq_of_testBit_eq
  intro i
  rw [BitVec.testBit_toNat,BitVec.getLsbD_and,mask_bit w i hw,Nat.testBit_mod_two_pow,BitVec.testBit_toNat,Bool.and_comm]
theorem fits_iff {v : Int} (h0 : 0 ≤ v) (h1 : v < 18446744073709551616) (w : Nat) (hw : w ≤ 64) (m : Int) (hm : BitVec.ofInt 64 m = BitVec.ofNat 64 (2 ^ w - 1)) :
    decide (wrp .u64 ((BitVec.ofInt 64 v &&& ~~~(BitVec.ofInt 64 m)).toNat : Nat) = 0) = decide (v < 2 ^ w):=by
  rw [hm]
  have h2:=(BitVec.ofInt 64 v &&& ~~~(BitVec.ofNat 64 (2 ^ w - 1))).isLt
  rw [wrpU (by omega) (by omega),andNot_mask _ w hw,bv_low h0 h1,Nat.shiftLeft_eq,Nat.shiftRight_eq_div_pow]
  have hp : 0 < 2 ^ w:=Nat.two_pow_pos w
  have e : ((2 ^ w : Nat) : Int) = 2 ^ w:=by simp
  rw [decide_eq_decide]
  constructor
  · intro h
    have h3 : v.toNat / 2 ^ w = 0:=by
      rcases Nat.eq_zero_or_pos (v.toNat / 2 ^ w) with h4 | h4
      · exact h4
      · have:=Nat.mul_le_mul_right (2 ^ w) h4; omega
    have:=(Nat.div_eq_zero_iff_lt hp).1 h3
    omega
  · intro h
    have : v.toNat < 2 ^ w:=by omega
    rw [Nat.div_eq_of_lt this]; simp
theorem low32 {v : Int} (h0 : 0 ≤ v) (h1 : v < 18446744073709551616) : wrp .u64 ((BitVec.ofInt 64 v &&& BitVec.ofInt 64 4294967295).toNat : Nat) = v % 4294967296:=by
  have hm : BitVec.ofInt 64 4294967295 = BitVec.ofNat 64 (2 ^ 32 - 1):=by decide
  have h2:=(BitVec.ofInt 64 v &&& BitVec.ofInt 64 4294967295).isLt
  rw [wrpU (by omega) (by omega),hm,and_mask _ 32 (by decide),bv_low h0 h1]
  omega
def wdL : List Int:=[1,8,16,32,64,8,16,32,64,32,64]
end Go.Vm.P4

/- Chapter 04,functions: values of every kind. -/
set_option maxRecDepth 100000
set_option maxHeartbeats 2000000
namespace Go.Vm.P4D
open Go Go.Vm Go.Vm.P4
def vOk (k v : Int) : Bool :=
  if k = 9 then decide (v < 4294967296) && rfOk v else if k = 10 then rfOk (v % 4294967296) && rfOk (v / 4294967296)
  else decide (v < 2 ^ (wdL.getD k.toNat 0).toNat)
def ckVal (k v : Int) : Int:=if ckKind k = 0 then (if vOk k v then 0 else 1) else 11
theorem okRf (n : Nat) (v : Int) : callP (level E (n+1)) 102 [.int .u64 v] = some (.bool (rfOk v)):=by
  have h1 : E.fn 102 = none:=rfl
  have h2 : E.prim 102 = some rfPrim:=rfl
  unfold callP
  simp only [level,h1,runPrim,h2,List.map_cons,List.map_nil,rfPrim,if_true]
  rfl
theorem okOnes (n : Nat) : callP (level E (n+1)) 103 [.int .i64 1] = some (.int .u64 1) ∧ callP (level E (n+1)) 103 [.int .i64 8] = some (.int .u64 255) ∧ callP (level E (n+1)) 103 [.int .i64 16] = some (.int .u64 65535) ∧
    callP (level E (n+1)) 103 [.int .i64 32] = some (.int .u64 4294967295) ∧ callP (level E (n+1)) 103 [.int .i64 64] = some (.int .u64 18446744073709551615):=by
  have a1 : aBin .shl (.imm (.int .u64 1)) (.imm (.int .i64 1)) = some (.imm (.int .u64 2)):=rfl
  have a8 : aBin .shl (.imm (.int .u64 1)) (.imm (.int .i64 8)) = some (.imm (.int .u64 256)):=rfl
  have a16 : aBin .shl (.imm (.int .u64 1)) (.imm (.int .i64 16)) = some (.imm (.int .u64 65536)):=rfl
  have a32 : aBin .shl (.imm (.int .u64 1)) (.imm (.int .i64 32)) = some (.imm (.int .u64 4294967296)):=rfl
  have w1 : wrp .u64 (2 - 1) = 1:=by decide
  have w8 : wrp .u64 (256 - 1) = 255:=by decide
  have w16 : wrp .u64 (65536 - 1) = 65535:=by decide
  have w32 : wrp .u64 (4294967296 - 1) = 4294967295:=by decide
  refine ⟨?_,?_,?_,?_,?_⟩ <;> rw [p103] <;> simp only [go_sem,Nat.reduceAdd,Nat.reduceSub,Nat.reduceMul,Nat.reduceDiv,Nat.reduceMod,Nat.reduceLeDiff,Nat.reduceLT,Nat.reduceBEq,Int.reduceToNat,Int.reduceLT,Int.reduceLE,Int.reduceEq,a1,a8,a16,a32,w1,w8,w16,w32]
theorem pw32 : (2 : Int) ^ min (32 : Int).toNat IntKind.u64.bits = 4294967296:=by decide
theorem sh32 (v : Int) : aBin .shr (.imm (.int .u64 v)) (.imm (.int .u64 32)) = some (.imm (.int .u64 (v.fdiv 4294967296))):=by
  rw [bin_shr (by decide),pw32]
theorem fdiv_pos {v m : Int} (h0 : 0 ≤ v) (hm : 0 < m) : v.fdiv m = v / m:=by
  rw [Int.fdiv_eq_ediv_of_nonneg v (by omega)]
def andU (x y : Int) : Int:=wrp .u64 ((BitVec.ofInt 64 x &&& BitVec.ofInt 64 y).toNat : Nat)
@[go_sem high] theorem bin_andU {x y : Int} : aBin .and (.imm (.int .u64 x)) (.imm (.int .u64 y)) = some (.imm (.int .u64 (andU x y))):=by rw [bin_and]; rfl
theorem okRight (n : Nat) (k v : Int) (hk : ckKind k = 0) (h0 : 0 ≤ v) (h1 : v < 18446744073709551616) : callP (level E (n+2)) 97 [.int .i64 k,.int .u64 v] = some (.bool (vOk k v)):=by
  have hk' : 0 ≤ k ∧ k < 11:=by unfold ckKind at hk; split at hk; assumption; omega
  obtain ⟨o1,o8,o16,o32,o64⟩:=okOnes n
  rw [p97]
  have hc : k = 0 ∨ k = 1 ∨ k = 2 ∨ k = 3 ∨ k = 4 ∨ k = 5 ∨ k = 6 ∨ k = 7 ∨ k = 8 ∨ k = 9 ∨ k = 10:=by omega
  have f1:=fits_iff h0 h1 1 (by decide) 1 (by decide)
  have f8:=fits_iff h0 h1 8 (by decide) 255 (by decide)
  have f16:=fits_iff h0 h1 16 (by decide) 65535 (by decide)
  have f32:=fits_iff h0 h1 32 (by decide) 4294967295 (by decide)
  have f64:=fits_iff h0 h1 64 (by decide) 18446744073709551615 (by decide)
  have b64 : IntKind.u64.bits = 64:=rfl
  rcases hc with rfl | rfl | rfl | rfl | rfl | rfl | rfl | rfl | rfl | rfl | rfl
  · simp only [go_sem,Nat.reduceAdd,Nat.reduceSub,Nat.reduceMul,Nat.reduceDiv,Nat.reduceMod,Nat.reduceLeDiff,Nat.reduceLT,Nat.reduceBEq,Int.reduceToNat,Int.reduceLT,Int.reduceLE,Int.reduceEq,o1,b64]; exact congrArg (fun b => some (D.bool b)) (f1.trans rfl)
  · simp only [go_sem,Nat.reduceAdd,Nat.reduceSub,Nat.reduceMul,Nat.reduceDiv,Nat.reduceMod,Nat.reduceLeDiff,Nat.reduceLT,Nat.reduceBEq,Int.reduceToNat,Int.reduceLT,Int.reduceLE,Int.reduceEq,o8,b64]; exact congrArg (fun b => some (D.bool b)) (f8.trans rfl)
  · simp only [go_sem,Nat.reduceAdd,Nat.reduceSub,Nat.reduceMul,Nat.reduceDiv,Nat.reduceMod,Nat.reduceLeDiff,Nat.reduceLT,Nat.reduceBEq,Int.reduceToNat,Int.reduceLT,Int.reduceLE,Int.reduceEq,o16,b64]; exact congrArg (fun b => some (D.bool b)) (f16.trans rfl)
  · simp only [go_sem,Nat.reduceAdd,Nat.reduceSub,Nat.reduceMul,Nat.reduceDiv,Nat.reduceMod,Nat.reduceLeDiff,Nat.reduceLT,Nat.reduceBEq,Int.reduceToNat,Int.reduceLT,Int.reduceLE,Int.reduceEq,o32,b64]; exact congrArg (fun b => some (D.bool b)) (f32.trans rfl)
  · simp only [go_sem,Nat.reduceAdd,Nat.reduceSub,Nat.reduceMul,Nat.reduceDiv,Nat.reduceMod,Nat.reduceLeDiff,Nat.reduceLT,Nat.reduceBEq,Int.reduceToNat,Int.reduceLT,Int.reduceLE,Int.reduceEq,o64,b64]; exact congrArg (fun b => some (D.bool b)) (f64.trans rfl)
  · simp only [go_sem,Nat.reduceAdd,Nat.reduceSub,Nat.reduceMul,Nat.reduceDiv,Nat.reduceMod,Nat.reduceLeDiff,Nat.reduceLT,Nat.reduceBEq,Int.reduceToNat,Int.reduceLT,Int.reduceLE,Int.reduceEq,o8,b64]; exact congrArg (fun b => some (D.bool b)) (f8.trans rfl)
  · simp only [go_sem,Nat.reduceAdd,Nat.reduceSub,Nat.reduceMul,Nat.reduceDiv,Nat.reduceMod,Nat.reduceLeDiff,Nat.reduceLT,Nat.reduceBEq,Int.reduceToNat,Int.reduceLT,Int.reduceLE,Int.reduceEq,o16,b64]; exact congrArg (fun b => some (D.bool b)) (f16.trans rfl)
  · simp only [go_sem,Nat.reduceAdd,Nat.reduceSub,Nat.reduceMul,Nat.reduceDiv,Nat.reduceMod,Nat.reduceLeDiff,Nat.reduceLT,Nat.reduceBEq,Int.reduceToNat,Int.reduceLT,Int.reduceLE,Int.reduceEq,o32,b64]; exact congrArg (fun b => some (D.bool b)) (f32.trans rfl)
  · simp only [go_sem,Nat.reduceAdd,Nat.reduceSub,Nat.reduceMul,Nat.reduceDiv,Nat.reduceMod,Nat.reduceLeDiff,Nat.reduceLT,Nat.reduceBEq,Int.reduceToNat,Int.reduceLT,Int.reduceLE,Int.reduceEq,o64,b64]; exact congrArg (fun b => some (D.bool b)) (f64.trans rfl)
  · have r:=okRf n v
    have e : v.fdiv 4294967296 = v / 4294967296:=fdiv_pos h0 (by decide)
    have e2 : decide (v / 4294967296 = 0) = decide (v < 4294967296):=by rw [decide_eq_decide]; omega
    cases hr : decide (v < 4294967296)
    · rw [hr] at e2
      simp only [go_sem,Nat.reduceAdd,Nat.reduceSub,Nat.reduceMul,Nat.reduceDiv,Nat.reduceMod,Nat.reduceLeDiff,Nat.reduceLT,Nat.reduceBEq,Int.reduceToNat,Int.reduceLT,Int.reduceLE,Int.reduceEq,sh32,e,e2,vOk,hr]
    · rw [hr] at e2
      simp only [go_sem,Nat.reduceAdd,Nat.reduceSub,Nat.reduceMul,Nat.reduceDiv,Nat.reduceMod,Nat.reduceLeDiff,Nat.reduceLT,Nat.reduceBEq,Int.reduceToNat,Int.reduceLT,Int.reduceLE,Int.reduceEq,sh32,e,e2,r,vOk,hr]
  · have r1:=okRf n (v % 4294967296)
    have r2:=okRf n (v / 4294967296)
    have e : v.fdiv 4294967296 = v / 4294967296:=fdiv_pos h0 (by decide)
    have l : andU v 4294967295 = v % 4294967296:=low32 h0 h1
    cases hr : rfOk (v % 4294967296)
    · rw [hr] at r1
      simp only [go_sem,Nat.reduceAdd,Nat.reduceSub,Nat.reduceMul,Nat.reduceDiv,Nat.reduceMod,Nat.reduceLeDiff,Nat.reduceLT,Nat.reduceBEq,Int.reduceToNat,Int.reduceLT,Int.reduceLE,Int.reduceEq,o32,l,r1,vOk,hr]
    · rw [hr] at r1
      simp only [go_sem,Nat.reduceAdd,Nat.reduceSub,Nat.reduceMul,Nat.reduceDiv,Nat.reduceMod,Nat.reduceLeDiff,Nat.reduceLT,Nat.reduceBEq,Int.reduceToNat,Int.reduceLT,Int.reduceLE,Int.reduceEq,o32,l,r1,sh32,e,r2,vOk,hr]
theorem okCheckValue (n : Nat) (k v : Int) (h0 : 0 ≤ v) (h1 : v < 18446744073709551616) : callP (level E (n+3)) 73 [.agg [.int .i64 k,.int .u64 v]] = some (.int .i64 (ckVal k v)):=by
  rw [p73]
  have i1:=okIsKind (n+1) k
  by_cases hk : ckKind k = 0
  · have hk' : 0 ≤ k ∧ k < 11:=by unfold ckKind at hk; split at hk; assumption; omega
    have h:=okRight n k v hk h0 h1
    have e1 : decide (0 ≤ k) = true:=decide_eq_true hk'.1
    have e2 : decide (k < 11) = true:=decide_eq_true hk'.2
    cases hv : vOk k v
    · rw [hv] at h
      simp only [go_sem,Nat.reduceAdd,Nat.reduceSub,Nat.reduceMul,Nat.reduceDiv,Nat.reduceMod,Nat.reduceLeDiff,Nat.reduceLT,Nat.reduceBEq,Int.reduceToNat,Int.reduceLT,Int.reduceLE,Int.reduceEq,i1,e1,e2,h,okNwhen,ckVal,hk,hv,Bool.false_eq_true]
    · rw [hv] at h
      simp only [go_sem,Nat.reduceAdd,Nat.reduceSub,Nat.reduceMul,Nat.reduceDiv,Nat.reduceMod,Nat.reduceLeDiff,Nat.reduceLT,Nat.reduceBEq,Int.reduceToNat,Int.reduceLT,Int.reduceLE,Int.reduceEq,i1,e1,e2,h,okNwhen,ckVal,hk,hv,Bool.false_eq_true]
  · have hk' : ¬ (0 ≤ k ∧ k < 11):=by unfold ckKind at hk; split at hk; exact absurd rfl hk; assumption
    by_cases h2 : 0 ≤ k
    · have e1 : decide (0 ≤ k) = true:=decide_eq_true h2
      have e2 : decide (k < 11) = false:=decide_eq_false (by omega)
      simp only [go_sem,Nat.reduceAdd,Nat.reduceSub,Nat.reduceMul,Nat.reduceDiv,Nat.reduceMod,Nat.reduceLeDiff,Nat.reduceLT,Nat.reduceBEq,Int.reduceToNat,Int.reduceLT,Int.reduceLE,Int.reduceEq,i1,e1,e2,ckVal,hk]
    · have e1 : decide (0 ≤ k) = false:=decide_eq_false h2
      simp only [go_sem,Nat.reduceAdd,Nat.reduceSub,Nat.reduceMul,Nat.reduceDiv,Nat.reduceMod,Nat.reduceLeDiff,Nat.reduceLT,Nat.reduceBEq,Int.reduceToNat,Int.reduceLT,Int.reduceLE,Int.reduceEq,i1,e1,ckVal,hk]
def ckB1 (k v : Int) : Int:=if ckVal k v = 0 then 0 else 1
theorem okCheckG (n : Nat) (k v : Int) (h0 : 0 ≤ v) (h1 : v < 18446744073709551616) : callP (level E (n+4)) 61 [.int .i64 k,.int .u64 v] = some (.int .i64 (ckB1 k v)):=by
  rw [p61]
  have h:=okCheckValue n k v h0 h1
  by_cases hv : ckVal k v = 0
  · simp only [go_sem,Nat.reduceAdd,Nat.reduceSub,Nat.reduceMul,Nat.reduceDiv,Nat.reduceMod,Nat.reduceLeDiff,Nat.reduceLT,Nat.reduceBEq,Int.reduceToNat,Int.reduceLT,Int.reduceLE,Int.reduceEq,h,hv,ne_eq,not_true_eq_false,okWhen,ckB1,Bool.false_eq_true]
  · simp only [go_sem,Nat.reduceAdd,Nat.reduceSub,Nat.reduceMul,Nat.reduceDiv,Nat.reduceMod,Nat.reduceLeDiff,Nat.reduceLT,Nat.reduceBEq,Int.reduceToNat,Int.reduceLT,Int.reduceLE,Int.reduceEq,h,hv,ne_eq,not_false_eq_true,okWhen,ckB1,Bool.false_eq_true]
theorem okWidth (n : Nat) (k : Int) (hk : ckKind k = 0) : callP (level E (n+2)) 94 [.int .i64 k] = some (.tup [.int .i64 (wdL.getD k.toNat 0),.int .i64 0]):=by
  have hk' : 0 ≤ k ∧ k < 11:=by unfold ckKind at hk; split at hk; assumption; omega
  rw [p94]
  have i1:=okIsKind n k
  have e1 : decide (0 ≤ k) = true:=decide_eq_true hk'.1
  have e2 : decide (k < 11) = true:=decide_eq_true hk'.2
  have hc : k = 0 ∨ k = 1 ∨ k = 2 ∨ k = 3 ∨ k = 4 ∨ k = 5 ∨ k = 6 ∨ k = 7 ∨ k = 8 ∨ k = 9 ∨ k = 10:=by omega
  rw [e1,e2] at i1
  rcases hc with rfl | rfl | rfl | rfl | rfl | rfl | rfl | rfl | rfl | rfl | rfl <;> simp only [go_sem,Nat.reduceAdd,Nat.reduceSub,Nat.reduceMul,Nat.reduceDiv,Nat.reduceMod,Nat.reduceLeDiff,Nat.reduceLT,Nat.reduceBEq,Int.reduceToNat,Int.reduceLT,Int.reduceLE,Int.reduceEq,i1] <;> rfl
def szL : List Int:=[1,1,2,4,8,1,2,4,8,4,8]
theorem okSizeG (n : Nat) (k : Int) (hk : ckKind k = 0) : callP (level E (n+3)) 60 [.int .i64 k] = some (.int .i64 (szL.getD k.toNat 0)):=by
  have hk' : 0 ≤ k ∧ k < 11:=by unfold ckKind at hk; split at hk; assumption; omega
  rw [p60]
  have h1:=okWidth n k hk
  have w1 : wrp .i64 (8 * 1) = 8:=by decide
  have w2 : wrp .i64 (1 * 2) = 2:=by decide
  have w3 : wrp .i64 (8 * 2) = 16:=by decide
  have w4 : wrp .i64 (2 * 2) = 4:=by decide
  have w5 : wrp .i64 (8 * 4) = 32:=by decide
  have w6 : wrp .i64 (4 * 2) = 8:=by decide
  have w7 : wrp .i64 (8 * 8) = 64:=by decide
  have hc : k = 0 ∨ k = 1 ∨ k = 2 ∨ k = 3 ∨ k = 4 ∨ k = 5 ∨ k = 6 ∨ k = 7 ∨ k = 8 ∨ k = 9 ∨ k = 10:=by omega
  rcases hc with rfl | rfl | rfl | rfl | rfl | rfl | rfl | rfl | rfl | rfl | rfl
  · rw [show wdL.getD (0 : Int).toNat 0 = 1 from rfl] at h1; simp only [go_sem,Nat.reduceAdd,Nat.reduceSub,Nat.reduceMul,Nat.reduceDiv,Nat.reduceMod,Nat.reduceLeDiff,Nat.reduceLT,Nat.reduceBEq,Int.reduceToNat,Int.reduceLT,Int.reduceLE,Int.reduceEq,h1,rnd_eq,w1,w2,w3,w4,w5,w6,w7]; rfl
  · rw [show wdL.getD (1 : Int).toNat 0 = 8 from rfl] at h1; simp only [go_sem,Nat.reduceAdd,Nat.reduceSub,Nat.reduceMul,Nat.reduceDiv,Nat.reduceMod,Nat.reduceLeDiff,Nat.reduceLT,Nat.reduceBEq,Int.reduceToNat,Int.reduceLT,Int.reduceLE,Int.reduceEq,h1,rnd_eq,w1,w2,w3,w4,w5,w6,w7]; rfl
  · rw [show wdL.getD (2 : Int).toNat 0 = 16 from rfl] at h1; simp only [go_sem,Nat.reduceAdd,Nat.reduceSub,Nat.reduceMul,Nat.reduceDiv,Nat.reduceMod,Nat.reduceLeDiff,Nat.reduceLT,Nat.reduceBEq,Int.reduceToNat,Int.reduceLT,Int.reduceLE,Int.reduceEq,h1,rnd_eq,w1,w2,w3,w4,w5,w6,w7]; rfl
  · rw [show wdL.getD (3 : Int).toNat 0 = 32 from rfl] at h1; simp only [go_sem,Nat.reduceAdd,Nat.reduceSub,Nat.reduceMul,Nat.reduceDiv,Nat.reduceMod,Nat.reduceLeDiff,Nat.reduceLT,Nat.reduceBEq,Int.reduceToNat,Int.reduceLT,Int.reduceLE,Int.reduceEq,h1,rnd_eq,w1,w2,w3,w4,w5,w6,w7]; rfl
  · rw [show wdL.getD (4 : Int).toNat 0 = 64 from rfl] at h1; simp only [go_sem,Nat.reduceAdd,Nat.reduceSub,Nat.reduceMul,Nat.reduceDiv,Nat.reduceMod,Nat.reduceLeDiff,Nat.reduceLT,Nat.reduceBEq,Int.reduceToNat,Int.reduceLT,Int.reduceLE,Int.reduceEq,h1,rnd_eq,w1,w2,w3,w4,w5,w6,w7]; rfl
  · rw [show wdL.getD (5 : Int).toNat 0 = 8 from rfl] at h1; simp only [go_sem,Nat.reduceAdd,Nat.reduceSub,Nat.reduceMul,Nat.reduceDiv,Nat.reduceMod,Nat.reduceLeDiff,Nat.reduceLT,Nat.reduceBEq,Int.reduceToNat,Int.reduceLT,Int.reduceLE,Int.reduceEq,h1,rnd_eq,w1,w2,w3,w4,w5,w6,w7]; rfl
  · rw [show wdL.getD (6 : Int).toNat 0 = 16 from rfl] at h1; simp only [go_sem,Nat.reduceAdd,Nat.reduceSub,Nat.reduceMul,Nat.reduceDiv,Nat.reduceMod,Nat.reduceLeDiff,Nat.reduceLT,Nat.reduceBEq,Int.reduceToNat,Int.reduceLT,Int.reduceLE,Int.reduceEq,h1,rnd_eq,w1,w2,w3,w4,w5,w6,w7]; rfl
  · rw [show wdL.getD (7 : Int).toNat 0 = 32 from rfl] at h1; simp only [go_sem,Nat.reduceAdd,Nat.reduceSub,Nat.reduceMul,Nat.reduceDiv,Nat.reduceMod,Nat.reduceLeDiff,Nat.reduceLT,Nat.reduceBEq,Int.reduceToNat,Int.reduceLT,Int.reduceLE,Int.reduceEq,h1,rnd_eq,w1,w2,w3,w4,w5,w6,w7]; rfl
  · rw [show wdL.getD (8 : Int).toNat 0 = 64 from rfl] at h1; simp only [go_sem,Nat.reduceAdd,Nat.reduceSub,Nat.reduceMul,Nat.reduceDiv,Nat.reduceMod,Nat.reduceLeDiff,Nat.reduceLT,Nat.reduceBEq,Int.reduceToNat,Int.reduceLT,Int.reduceLE,Int.reduceEq,h1,rnd_eq,w1,w2,w3,w4,w5,w6,w7]; rfl
  · rw [show wdL.getD (9 : Int).toNat 0 = 32 from rfl] at h1; simp only [go_sem,Nat.reduceAdd,Nat.reduceSub,Nat.reduceMul,Nat.reduceDiv,Nat.reduceMod,Nat.reduceLeDiff,Nat.reduceLT,Nat.reduceBEq,Int.reduceToNat,Int.reduceLT,Int.reduceLE,Int.reduceEq,h1,rnd_eq,w1,w2,w3,w4,w5,w6,w7]; rfl
  · rw [show wdL.getD (10 : Int).toNat 0 = 64 from rfl] at h1; simp only [go_sem,Nat.reduceAdd,Nat.reduceSub,Nat.reduceMul,Nat.reduceDiv,Nat.reduceMod,Nat.reduceLeDiff,Nat.reduceLT,Nat.reduceBEq,Int.reduceToNat,Int.reduceLT,Int.reduceLE,Int.reduceEq,h1,rnd_eq,w1,w2,w3,w4,w5,w6,w7]; rfl
end Go.Vm.P4D

/- Chapter 04,functions: the reference's points. -/
set_option maxRecDepth 100000
set_option maxHeartbeats 2000000
namespace Go.Vm.P4D
open Go Go.Vm Go.Vm.P4
theorem okRHas (n : Nat) (b c : Bool) (l : Bx) (p : List Int) (hl : l.length < 1000000000) (hp : l.length ≤ p.length) : callP (level E (n+1)) 21 [enB b l,slD c 1 (p.map ic)] = some (.bool (hasB l p)):=by
  rw [p21]
  simp only [go_sem,Nat.reduceAdd,Nat.reduceSub,Nat.reduceMul,Nat.reduceDiv,Nat.reduceMod,Nat.reduceLeDiff,Nat.reduceLT,Nat.reduceBEq,Int.reduceToNat,Int.reduceLT,Int.reduceLE,Int.reduceEq]
  have h:=loop_run (f:=aCode (level E (n)) ⟨0,false⟩ b21_0) (h:=head ⟨0,false⟩ [1,1,0,1,0,0]) (Φ:=outC ⟨0,false⟩ [0,0,1,0,0,0]) l (fun (_ : List Int) i => ⟨[.imm (slD b 2 (l.map enR)),.imm (slD c 1 (p.map ic)),.junk,.imm (.int .i64 i),.junk,.junk],[],none⟩) (fun a i => p.drop i = a)
    (fun a r => match a with | [] => .inl [] | x :: t => if x < r.lo ∨ x ≥ ad r.lo r.ex then .inr (some (.ret,⟨[.junk,.junk,.imm (.bool false),.junk,.junk,.junk],[],none⟩)) else .inl t) (fun _ => some (.exit 0,⟨[.junk,.junk,.junk,.junk,.junk,.junk],[],none⟩)) p rfl
    (fun a i r hI h2 h1 => by
      rcases a with _ | ⟨x,t⟩
      · have:=drop_n hI; omega
      obtain ⟨q1,q2,q3⟩:=drop_c hI
      refine ⟨?_,fun t' ht => ?_⟩
      · rw [rnd_eq]
        by_cases k1 : x < r.lo
        · simp only [go_sem,Nat.reduceAdd,Nat.reduceSub,Nat.reduceMul,Nat.reduceDiv,Nat.reduceMod,Nat.reduceLeDiff,Nat.reduceLT,Nat.reduceBEq,Int.reduceToNat,Int.reduceLT,Int.reduceLE,Int.reduceEq,lt_t h2,h1,q1,k1,true_or]
        · by_cases k2 : x ≥ ad r.lo r.ex
          · have k3 : x ≥ wrp .i64 (r.lo + r.ex):=k2
            simp only [go_sem,Nat.reduceAdd,Nat.reduceSub,Nat.reduceMul,Nat.reduceDiv,Nat.reduceMod,Nat.reduceLeDiff,Nat.reduceLT,Nat.reduceBEq,Int.reduceToNat,Int.reduceLT,Int.reduceLE,Int.reduceEq,lt_t h2,h1,q1,k1,k2,k3,or_true]
          · have k3 : ¬ x ≥ wrp .i64 (r.lo + r.ex):=k2
            simp only [go_sem,Nat.reduceAdd,Nat.reduceSub,Nat.reduceMul,Nat.reduceDiv,Nat.reduceMod,Nat.reduceLeDiff,Nat.reduceLT,Nat.reduceBEq,Int.reduceToNat,Int.reduceLT,Int.reduceLE,Int.reduceEq,lt_t h2,h1,q1,k1,k2,k3,or_self]
            rw [wrpS (by omega)]
      · dsimp only at ht
        split at ht
        · cases ht
        · injection ht with ht; rw [← ht]; exact q3)
    (fun _ _ => by
      rw [rnd_eq]
      simp only [go_sem,Nat.reduceAdd,Nat.reduceSub,Nat.reduceMul,Nat.reduceDiv,Nat.reduceMod,Nat.reduceLeDiff,Nat.reduceLT,Nat.reduceBEq,Int.reduceToNat,Int.reduceLT,Int.reduceLE,Int.reduceEq,lt_f (Nat.le_refl _)])
  rw [cast_0] at h
  rw [h]
  clear h hl
  induction l generalizing p with
  | nil => simp only [go_sem,Nat.reduceAdd,Nat.reduceSub,Nat.reduceMul,Nat.reduceDiv,Nat.reduceMod,Nat.reduceLeDiff,Nat.reduceLT,Nat.reduceBEq,Int.reduceToNat,Int.reduceLT,Int.reduceLE,Int.reduceEq,runL_nil,hasB]
  | cons r l ih =>
    rcases p with _ | ⟨x,t⟩
    · simp at hp
    by_cases k : x < r.lo ∨ x ≥ ad r.lo r.ex
    · simp only [go_sem,Nat.reduceAdd,Nat.reduceSub,Nat.reduceMul,Nat.reduceDiv,Nat.reduceMod,Nat.reduceLeDiff,Nat.reduceLT,Nat.reduceBEq,Int.reduceToNat,Int.reduceLT,Int.reduceLE,Int.reduceEq,runL_cons,hasB,k]
    · simp only [runL_cons,hasB,k,if_false]
      exact ih t (by simpa using hp)
def hornW : Bx → List Int → Int
  | r :: b,x :: p => sb (ad (ml (hornW b p) r.ex) x) r.lo
  | _,_ => 0
end Go.Vm.P4D

/- Chapter 04,functions: the reference's values. -/
set_option maxRecDepth 100000
set_option maxHeartbeats 2000000
namespace Go.Vm.P4D
open Go Go.Vm Go.Vm.P4
end Go.Vm.P4D

/- Chapter 04,plain law: points and indices. -/
set_option maxRecDepth 100000
set_option maxHeartbeats 1000000
namespace Go.Vm.P4D
open Go Go.Vm Go.Vm.P4
def Okr (l : Bx) : Prop:=∀ r ∈ l,ckRange r = 0
theorem Okr.tl {r : Rg} {l : Bx} (h : Okr (r :: l)) : Okr l:=fun x hx => h x (List.mem_cons_of_mem _ hx)
def InB : Bx → List Int → Prop
  | r :: l,x :: p => r.lo ≤ x ∧ x < r.lo + r.ex ∧ InB l p
  | [],[] => True
  | _,_ => False
theorem digits_in : ∀ (l : Bx) (n : Int),(∀ r ∈ l,0 < r.ex) → InB l (digits l n)
  | [],_,_ => True.intro
  | r :: l,n,hx => by
    have hr0:=hx r (by simp)
    have m0:=Int.emod_nonneg n (show r.ex ≠ 0 by omega)
    have m1:=Int.emod_lt_of_pos n hr0
    exact ⟨by omega,by omega,digits_in l _ (fun x hx' => hx x (List.mem_cons_of_mem _ hx'))⟩
theorem nextW_P : ∀ (l : Bx) (p q : List Int),Okr l → InB l p → nextW l (p ++ q) = nextP l p ++ q
  | [],[],q,_,_ => by cases q <;> rfl
  | [],_ :: _,_,_,h => h.elim
  | _ :: _,[],_,_,h => h.elim
  | r :: l,x :: p,q,h,hi => by
    have hr:=ckRange0 (h r (by simp))
    obtain ⟨h1,h2,h3⟩:=hi
    have e1 : ad x 1 = x + 1:=wrp_ok (by omega)
    have e2 : ad r.lo r.ex = r.lo + r.ex:=wrp_ok (by omega)
    rw [List.cons_append,nextW,nextP,e1,e2]
    by_cases hc : x + 1 < r.lo + r.ex
    · rw [if_pos hc,if_pos hc]; rfl
    · rw [if_neg hc,if_neg hc,nextW_P l p q h.tl h3]; rfl
theorem plc_dig (l : Bx) (h : Okr l) (h3 : l.length ≤ 3) (hx : ∀ r ∈ l,0 < r.ex) : ∀ i : Nat,plc l i = digits l i ++ List.replicate (3 - l.length) 0
  | 0 => by
    rw [plc,plc0,show ((0 : Nat) : Int) = 0 from rfl,digits_zero,lows]
    rcases l with _ | ⟨r,_ | ⟨s,_ | ⟨t,_ | ⟨u,l⟩⟩⟩⟩
    · rfl
    · rfl
    · rfl
    · rfl
    · simp at h3
  | i + 1 => by
    rw [plc,plc_dig l h h3 hx i,nextW_P l _ _ h (digits_in l _ hx),next_digits l _ hx (by omega)]
    rfl
theorem plc_take (l : Bx) (h : Okr l) (h3 : l.length ≤ 3) (hx : ∀ r ∈ l,0 < r.ex) (i : Nat) : (plc l i).take l.length = digits l i:=by
  rw [plc_dig l h h3 hx i,List.take_append_of_le_length (by rw [digits_len]; exact Nat.le_refl _),List.take_of_length_le (by rw [digits_len]; exact Nat.le_refl _)]
theorem many_cons1 (r : Rg) : many [r] = ml 1 r.ex:=rfl
theorem many_cons2 (r s : Rg) : many [r,s] = ml (ml 1 r.ex) s.ex:=rfl
theorem many_cons3 (r s t : Rg) : many [r,s,t] = ml (ml (ml 1 r.ex) s.ex) t.ex:=rfl
theorem ex_pos {l : Bx} (h : Okr l) (hm : many l ≠ 0) : ∀ r ∈ l,0 < r.ex:=by
  intro r hr
  have h1:=(ckRange0 (h r hr)).2.2.1
  rcases Int.lt_or_eq_of_le h1 with h2 | h2
  · exact h2
  · exfalso
    apply hm
    have key : ∀ (l : Bx) (n : Int),r ∈ l → l.foldl (fun n r => ml n r.ex) n = 0:=by
      intro l
      have zero : ∀ l : Bx,l.foldl (fun n r => ml n r.ex) 0 = 0:=by
        intro l
        induction l with
        | nil => rfl
        | cons x l ih => rw [List.foldl_cons,show ml 0 x.ex = 0 from by rw [ml,Int.zero_mul]; decide]; exact ih
      induction l with
      | nil => intro n h; cases h
      | cons x l ih =>
        intro n hm
        rw [List.foldl_cons]
        rcases List.mem_cons.1 hm with rfl | hm
        · rw [← h2,show ml n 0 = 0 from by rw [ml,Int.mul_zero]; decide]; exact zero l
        · exact ih _ hm
    exact key l 1 hr
theorem hasB_in : ∀ (l : Bx) (p : List Int),Okr l → p.length = l.length → (hasB l p = true ↔ InB l p)
  | [],[],_,_ => by simp [hasB,InB]
  | [],_ :: _,_,h => by simp at h
  | _ :: _,[],_,h => by simp at h
  | r :: l,x :: p,h,hl => by
    have hr:=ckRange0 (h r (by simp))
    have e2 : ad r.lo r.ex = r.lo + r.ex:=wrp_ok (by omega)
    have ih:=hasB_in l p h.tl (by simpa using hl)
    rw [hasB,e2,InB]
    by_cases hc : x < r.lo ∨ x ≥ r.lo + r.ex
    · rw [if_pos hc]
      constructor
      · intro h; cases h
      · intro ⟨h1,h2,_⟩; omega
    · rw [if_neg hc,ih]
      constructor
      · intro h; exact ⟨by omega,by omega,h⟩
      · intro ⟨_,_,h⟩; exact h
theorem elt_horn (l : Bx) (p : List Int) (h : Okr l) (h3 : l.length ≤ 3) (hi : InB l p) : elt l ((p ++ [0,0,0]).take 3) (strides 1 l) 0 = hornW l p:=by
  rcases l with _ | ⟨r,_ | ⟨s,_ | ⟨t,_ | ⟨u,l⟩⟩⟩⟩
  · rcases p with _ | ⟨x,p⟩
    · rfl
    · exact hi.elim
  · rcases p with _ | ⟨x,_ | ⟨w,p⟩⟩
    · exact hi.elim
    · have hr:=ckRange0 (h r (by simp))
      obtain ⟨a1,a2,_⟩:=hi
      have e1 : sb x r.lo = x - r.lo:=wrp_ok (by omega)
      have e2 : ml (x - r.lo) 1 = x - r.lo:=by rw [ml,Int.mul_one]; exact wrp_ok (by omega)
      have e3 : ml 0 r.ex = 0:=by rw [ml,Int.zero_mul]; decide
      have e4 : ad 0 (x - r.lo) = x - r.lo:=by rw [ad,Int.zero_add]; exact wrp_ok (by omega)
      have e5 : ad 0 x = x:=by rw [ad,Int.zero_add]; exact wrp_ok (by omega)
      simp only [List.cons_append,List.nil_append,List.take_succ_cons,List.take_zero,elt,strides,hornW,e1,e2,e3,e4,e5]
    · exact hi.2.2.elim
  · rcases p with _ | ⟨x,_ | ⟨y,_ | ⟨w,p⟩⟩⟩
    · exact hi.elim
    · exact hi.2.2.elim
    · have hr:=ckRange0 (h r (by simp))
      have hs:=ckRange0 (h s (by simp))
      obtain ⟨a1,a2,b1,b2,_⟩:=hi
      have e1 : sb x r.lo = x - r.lo:=wrp_ok (by omega)
      have f1 : sb y s.lo = y - s.lo:=wrp_ok (by omega)
      have e2 : ml (x - r.lo) 1 = x - r.lo:=by rw [ml,Int.mul_one]; exact wrp_ok (by omega)
      have e3 : ml 0 s.ex = 0:=by rw [ml,Int.zero_mul]; decide
      have e4 : ad 0 (x - r.lo) = x - r.lo:=by rw [ad,Int.zero_add]; exact wrp_ok (by omega)
      have e5 : ad 0 y = y:=by rw [ad,Int.zero_add]; exact wrp_ok (by omega)
      have e6 : ml 1 r.ex = r.ex:=by rw [ml,Int.one_mul]; exact wrp_ok (by omega)
      obtain ⟨m1,m2,m3⟩:=ml_ok (a:=y - s.lo) (b:=r.ex) (m:=64) (by omega) (by omega) hr.2.2.1 hr.2.2.2.1 (by omega)
      have e7 : ad (x - r.lo) ((y - s.lo) * r.ex) = (x - r.lo) + (y - s.lo) * r.ex:=wrp_ok (by omega)
      have e8 : ad ((y - s.lo) * r.ex) x = (y - s.lo) * r.ex + x:=wrp_ok (by omega)
      have e9 : sb ((y - s.lo) * r.ex + x) r.lo = (y - s.lo) * r.ex + x - r.lo:=wrp_ok (by omega)
      simp only [List.cons_append,List.nil_append,List.take_succ_cons,List.take_zero,elt,strides,hornW,e1,e2,e3,e4,e5,e6,f1,m1,e7,e8,e9]
      omega
    · exact hi.2.2.2.2.elim
  · rcases p with _ | ⟨x,_ | ⟨y,_ | ⟨z,_ | ⟨w,p⟩⟩⟩⟩
    · exact hi.elim
    · exact hi.2.2.elim
    · exact hi.2.2.2.2.elim
    · have hr:=ckRange0 (h r (by simp))
      have hs:=ckRange0 (h s (by simp))
      have ht:=ckRange0 (h t (by simp))
      obtain ⟨a1,a2,b1,b2,c1,c2,_⟩:=hi
      have e1 : sb x r.lo = x - r.lo:=wrp_ok (by omega)
      have f1 : sb y s.lo = y - s.lo:=wrp_ok (by omega)
      have g1 : sb z t.lo = z - t.lo:=wrp_ok (by omega)
      have e2 : ml (x - r.lo) 1 = x - r.lo:=by rw [ml,Int.mul_one]; exact wrp_ok (by omega)
      have e3 : ml 0 t.ex = 0:=by rw [ml,Int.zero_mul]; decide
      have e4 : ad 0 (x - r.lo) = x - r.lo:=by rw [ad,Int.zero_add]; exact wrp_ok (by omega)
      have e5 : ad 0 z = z:=by rw [ad,Int.zero_add]; exact wrp_ok (by omega)
      have e6 : ml 1 r.ex = r.ex:=by rw [ml,Int.one_mul]; exact wrp_ok (by omega)
      obtain ⟨m1,m2,m3⟩:=ml_ok (a:=y - s.lo) (b:=r.ex) (m:=64) (by omega) (by omega) hr.2.2.1 hr.2.2.2.1 (by omega)
      obtain ⟨n1,n2,n3⟩:=ml_ok (a:=z - t.lo) (b:=s.ex) (m:=64) (by omega) (by omega) hs.2.2.1 hs.2.2.2.1 (by omega)
      obtain ⟨k1,k2,k3⟩:=ml_ok (a:=r.ex) (b:=s.ex) (m:=64) hr.2.2.1 hr.2.2.2.1 hs.2.2.1 hs.2.2.2.1 (by omega)
      obtain ⟨q1,q2,q3⟩:=ml_ok (a:=r.ex * s.ex) (b:=z - t.lo) (m:=4096) k2 (by omega) (by omega) (by omega) (by omega)
      have q1' : ml (z - t.lo) (r.ex * s.ex) = r.ex * s.ex * (z - t.lo):=by rw [← q1,ml,ml,Int.mul_comm]
      have e7 : ad (x - r.lo) ((y - s.lo) * r.ex) = (x - r.lo) + (y - s.lo) * r.ex:=wrp_ok (by omega)
      have e8 : ad ((x - r.lo) + (y - s.lo) * r.ex) (r.ex * s.ex * (z - t.lo)) = (x - r.lo) + (y - s.lo) * r.ex + r.ex * s.ex * (z - t.lo):=wrp_ok (by omega)
      have e9 : ad ((z - t.lo) * s.ex) y = (z - t.lo) * s.ex + y:=wrp_ok (by omega)
      have e10 : sb ((z - t.lo) * s.ex + y) s.lo = (z - t.lo) * s.ex + y - s.lo:=wrp_ok (by omega)
      obtain ⟨v1,v2,v3⟩:=ml_ok (a:=(z - t.lo) * s.ex + y - s.lo) (b:=r.ex) (m:=4160) (by omega) (by omega) hr.2.2.1 hr.2.2.2.1 (by omega)
      have e11 : ad (((z - t.lo) * s.ex + y - s.lo) * r.ex) x = ((z - t.lo) * s.ex + y - s.lo) * r.ex + x:=wrp_ok (by omega)
      have e12 : sb (((z - t.lo) * s.ex + y - s.lo) * r.ex + x) r.lo = ((z - t.lo) * s.ex + y - s.lo) * r.ex + x - r.lo:=wrp_ok (by omega)
      simp only [List.cons_append,List.nil_append,List.take_succ_cons,List.take_zero,elt,strides,hornW,e1,e2,e3,e4,e5,e6,f1,g1,m1,n1,k1,q1',e7,e8,e9,e10,v1,e11,e12]
      have z1 : ((z - t.lo) * s.ex + y - s.lo) * r.ex = r.ex * s.ex * (z - t.lo) + (y - s.lo) * r.ex:=by
        rw [show (z - t.lo) * s.ex + y - s.lo = (z - t.lo) * s.ex + (y - s.lo) by omega,Int.add_mul,Int.mul_assoc,Int.mul_comm (z - t.lo) (s.ex * r.ex),Int.mul_comm s.ex r.ex]
      omega
    · exact hi.2.2.2.2.2.2.elim
  · simp at h3
end Go.Vm.P4D

/- Chapter 04,functions: the reference's images: elements,copies,what is checked. -/
set_option maxRecDepth 100000
set_option maxHeartbeats 4000000
namespace Go.Vm.P4D
open Go Go.Vm Go.Vm.P4
theorem okOwnInts (n : Nat) (b : Bool) (l : List Int) (hl : l.length < 1000000) : callP (level E (n+1)) 51 [slD b 1 (l.map ic)] = some (slD true 1 (l.map ic)):=by
  rw [p51]
  rcases l with _ | ⟨x,t⟩
  · cases b <;> simp only [go_sem,simprocAttr,slD] <;> rfl
  · have e : (t.length + 1) * 9 ≤ 70368744177664:=by simp at hl; omega
    have e0 : slD b 1 ((x :: t).map ic) = .sl 1 ((x :: t).map ic):=by cases b <;> rfl
    rw [e0]
    simp only [go_sem,simprocAttr,e] <;> rfl
def Im.own (m : Im) : Im:={ m with bb:=true,tb:=true,db:=true }
theorem okOwnBitsI (n : Nat) (b : Bool) (l : List Int) (hl : l.length < 1000000) : callI (level E (n+1)) 52 [slD b 1 (l.map ub)] = some (vK 0 1 (l.map ub),oK 1 (l.map ub)):=by
  rw [i52]
  rcases l with _ | ⟨x,t⟩
  · cases b <;> simp only [go_sem,simprocAttr,slD,vK,oK] <;> rfl
  · have e : (t.length + 1) * 9 ≤ 70368744177664:=by simp at hl; omega
    have e0 : slD b 1 ((x :: t).map ub) = .sl 1 ((x :: t).map ub):=by cases b <;> rfl
    rw [e0]
    simp only [go_sem,simprocAttr,e,vK,oK] <;> rfl
theorem okOwnImage (n : Nat) (m : Im) (hx : m.bx.length < 1000000) (hs : m.st.length < 1000000) (hd : m.dt.length < 1000000) : callP (level E (n+2)) 11 [enIm m] = some (enIm m.own):=by
  rw [p11]
  have b1:=okOwnBox n m.bb m.bx hx
  have i1:=okOwnInts n m.tb m.st hs
  have u1:=okOwnBitsI n m.db m.dt hd
  rcases hq : m.dt with _ | ⟨x,t⟩
  · rw [hq] at u1
    simp only [go_sem,simprocAttr,vK,oK] at u1
    simp only [go_sem,simprocAttr,enIm,b1,i1,u1,hq,vK,oK,Im.own]
    rfl
  · rw [hq] at u1
    simp only [go_sem,simprocAttr,vK,oK] at u1
    simp only [go_sem,simprocAttr,enIm,b1,i1,u1,hq,vK,oK,Im.own]
    rfl
theorem okSameImage (n : Nat) (m o : Im) (h1 : o.kd = m.kd) (h2 : o.bx = m.bx) (h3 : o.st = m.st) (h4 : o.dt = m.dt) (hx : m.bx.length < 1000000) (hs : m.st.length < 1000000) (hd : m.dt.length < 1000000) : callP (level E (n+2)) 16 [enIm m,enIm o] = some (.bool true):=by
  rw [p16]
  have b1:=okSameBox n m.bb o.bb m.bx (by omega)
  have i1:=okSameInts n m.tb o.tb m.st (by omega)
  have u1:=okSameBits n m.db o.db m.dt (by omega)
  simp only [go_sem,simprocAttr,enIm,h1,h2,h3,h4,b1,i1,u1]
def shortI (m : Im) : Bool:=decide (m.bx.length ≤ 4) && decide (m.st.length ≤ 5) && decide ((m.bx.take 4).foldl (fun n r => ml n (max 0 (min r.ex 200))) 1 ≤ 100) && decide (m.dt.length ≤ 200)
theorem okShortImage (n : Nat) (m : Im) : callP (level E (n+1)) 7 [enIm m] = some (.bool (shortI m)):=by
  rw [p7]
  simp only [go_sem,simprocAttr,enIm]
  have h:=loop_fold (f:=aCode (level E (n)) ⟨0,false⟩ b7_0) (h:=head ⟨0,false⟩ [0,0,1,1,1,0]) (Φ:=outC ⟨0,false⟩ [0,0,1,1,0,0]) (m.bx.take 4) (fun (a : Int) i => ⟨[.junk,.junk,.imm (.ptr [.int .i64 m.kd,enB m.bb m.bx,slD m.tb 1 (m.st.map ic),slD m.db 1 (m.dt.map ub)]),.imm (.int .i64 a),.imm (.int .i64 i),.junk],[],none⟩) (fun _ _ => True)
    (fun a x => ml a (max 0 (min x.ex 200))) (fun a => some (.exit 0,⟨[.junk,.junk,.imm (.ptr [.int .i64 m.kd,enB m.bb m.bx,slD m.tb 1 (m.st.map ic),slD m.db 1 (m.dt.map ub)]),.imm (.int .i64 a),.junk,.junk],[],none⟩)) 1 trivial
    (fun a i x _ h2 h1 => ⟨by
      rw [List.length_take] at h2
      rw [List.getElem?_take_of_lt (by omega)] at h1
      have h4 : (i : Int) < 4:=by omega
      rw [rnd_eq]
      simp only [go_sem,simprocAttr,lt_t (show i < m.bx.length by omega),h1,h4,ml,enB]
      rw [wrpS (by omega)],trivial⟩)
    (fun a _ => by
      rw [rnd_eq]
      rw [List.length_take]
      by_cases h5 : m.bx.length ≤ 4
      · rw [Nat.min_eq_right h5]
        simp only [go_sem,simprocAttr,lt_f (Nat.le_refl _),enB]
      · rw [Nat.min_eq_left (by omega)]
        have h6 : (4 : Int) < m.bx.length:=by omega
        have h7 : ¬ (4 : Int) < 4:=by omega
        simp only [go_sem,simprocAttr,h6,h7,enB])
  rw [cast_0] at h
  try simp only [go_sem,simprocAttr] at h
  rw [h,shortI]
  clear h
  generalize (m.bx.take 4).foldl (fun n r => ml n (max 0 (min r.ex 200))) 1 = F
  by_cases h5 : (m.bx.length : Int) ≤ 4
  · have h6 : m.bx.length ≤ 4:=by omega
    by_cases h7 : (m.st.length : Int) ≤ 5
    · have h8 : m.st.length ≤ 5:=by omega
      by_cases h9 : F ≤ 100
      · by_cases h10 : (m.dt.length : Int) ≤ 200
        · have h11 : m.dt.length ≤ 200:=by omega
          simp only [go_sem,simprocAttr,h5,h6,h7,h8,h9,h10,h11]
        · have h11 : ¬ m.dt.length ≤ 200:=by omega
          simp only [go_sem,simprocAttr,h5,h6,h7,h8,h9,h10,h11]
      · simp only [go_sem,simprocAttr,h5,h6,h7,h8,h9,Bool.false_and]
    · have h8 : ¬ m.st.length ≤ 5:=by omega
      simp only [go_sem,simprocAttr,h5,h6,h7,h8,Bool.and_false,Bool.false_and]
  · have h6 : ¬ m.bx.length ≤ 4:=by omega
    simp only [go_sem,simprocAttr,h5,h6,Bool.false_and]
end Go.Vm.P4D

/- Chapter 04,functions: the reference's check of an image. -/
set_option maxRecDepth 100000
set_option maxHeartbeats 4000000
namespace Go.Vm.P4D
open Go Go.Vm Go.Vm.P4
theorem ia_refN {id sz lw k i : Nat} (h : i < k) : aIaddr none sz (.ref id sz lw k) (i : Int) = some (.ptr id ((lw + i) * sz)):=by
  rw [ia_ref (by omega) (by omega)]; rfl
theorem elt_app : ∀ (l : Bx) (p q s : List Int) (n : Int),l.length ≤ p.length → l.length ≤ s.length → elt l (p ++ q) s n = elt l p s n
  | [],p,q,s,n,_,_ => by cases p <;> cases q <;> cases s <;> rfl
  | r :: l,[],_,_,_,h,_ => by simp at h
  | r :: l,_ :: _,_,[],_,_,h => by simp at h
  | r :: l,x :: p,q,y :: s,n,h1,h2 => by
    rw [List.cons_append,elt,elt,elt_app l p q s _ (by simpa using h1) (by simpa using h2)]
def Oks (s : List Int) : Prop:=∀ x ∈ s,0 ≤ x ∧ x ≤ 4096
theorem elt_nn : ∀ (l : Bx) (p s : List Int) (n : Int),Okr l → InB l p → Oks s → l.length ≤ s.length → 0 ≤ n → n + l.length * 258048 ≤ 1000000000 → 0 ≤ elt l p s n
  | [],[],s,n,_,_,_,_,hn,_ => by cases s <;> simpa [elt] using hn
  | [],_ :: _,_,_,_,h,_,_,_,_ => h.elim
  | _ :: _,[],_,_,_,h,_,_,_,_ => h.elim
  | r :: l,x :: p,[],n,_,_,_,h,_,_ => by simp at h
  | r :: l,x :: p,y :: s,n,h,hi,hs,hl,hn,hb => by
    have hr:=ckRange0 (h r (by simp))
    obtain ⟨a1,a2,a3⟩:=hi
    obtain ⟨b1,b2⟩:=hs y (by simp)
    have e1 : sb x r.lo = x - r.lo:=wrp_ok (by omega)
    have m0 : 0 ≤ (x - r.lo) * y:=Int.mul_nonneg (by omega) b1
    have m1 : (x - r.lo) * y ≤ 63 * 4096:=Int.mul_le_mul (by omega) b2 b1 (by omega)
    have e2 : ml (x - r.lo) y = (x - r.lo) * y:=wrp_ok (by omega)
    simp only [List.length_cons] at hb
    have e3 : ad n ((x - r.lo) * y) = n + (x - r.lo) * y:=wrp_ok (by omega)
    rw [elt,e1,e2,e3]
    exact elt_nn l p s _ h.tl a3 (fun z hz => hs z (List.mem_cons_of_mem _ hz)) (by simpa using hl) (by omega) (by omega)
def ckI (m : Im) : Int:=ckIm (ckB1 m.kd) m
def Ok64 (l : List Int) : Prop:=∀ v ∈ l,0 ≤ v ∧ v < 18446744073709551616
theorem any_oks {s : List Int} (h : s.any (fun x => !(decide (x ≥ 0) && decide (x ≤ 4096))) = false) : Oks s:=by
  intro x hx
  have:=List.any_eq_false.1 h x hx
  simp at this
  exact this
end Go.Vm.P4D

/- Chapter 04,plain law: right images: where their elements lie. -/
set_option maxRecDepth 100000
set_option maxHeartbeats 1000000
namespace Go.Vm.P4D
open Go Go.Vm Go.Vm.P4
def hornE : Bx → List Int → Int
  | r :: b,x :: p => hornE b p * r.ex + (x - r.lo)
  | _,_ => 0
def prodE : Bx → Int
  | [] => 1
  | r :: b => prodE b * r.ex
theorem horn_bd : ∀ (l : Bx) (p : List Int),(∀ r ∈ l,0 < r.ex) → InB l p → 0 ≤ hornE l p ∧ hornE l p < prodE l
  | [],[],_,_ => by simp [hornE,prodE]
  | [],_ :: _,_,h => h.elim
  | _ :: _,[],_,h => h.elim
  | r :: l,x :: p,hx,⟨h1,h2,h3⟩ => by
    have hr:=hx r (by simp)
    obtain ⟨i1,i2⟩:=horn_bd l p (fun y hy => hx y (List.mem_cons_of_mem _ hy)) h3
    have m0 : 0 ≤ hornE l p * r.ex:=Int.mul_nonneg i1 (by omega)
    have m1 : (hornE l p + 1) * r.ex ≤ prodE l * r.ex:=Int.mul_le_mul_of_nonneg_right (by omega) (by omega)
    rw [Int.add_mul,Int.one_mul] at m1
    rw [hornE,prodE]
    constructor <;> omega
theorem digits_horn : ∀ (l : Bx) (p : List Int),(∀ r ∈ l,0 < r.ex) → InB l p → digits l (hornE l p) = p
  | [],[],_,_ => rfl
  | [],_ :: _,_,h => h.elim
  | _ :: _,[],_,h => h.elim
  | r :: l,x :: p,hx,⟨h1,h2,h3⟩ => by
    have hr:=hx r (by simp)
    have ih:=digits_horn l p (fun y hy => hx y (List.mem_cons_of_mem _ hy)) h3
    have e:=(Int.ediv_emod_unique (a:=hornE l p * r.ex + (x - r.lo)) (b:=r.ex) (r:=x - r.lo) (q:=hornE l p) hr).2 ⟨by rw [Int.mul_comm]; omega,by omega,by omega⟩
    rw [hornE,digits,e.1,e.2,ih]
    congr 1; omega
theorem many_prod {l : Bx} (h : Okr l) (h3 : l.length ≤ 3) : many l = prodE l:=by
  rcases l with _ | ⟨r,_ | ⟨s,_ | ⟨t,_ | ⟨u,l⟩⟩⟩⟩
  · rfl
  · have hr:=ckRange0 (h r (by simp))
    obtain ⟨e1,e2,e3⟩:=ml_ok (a:=1) (m:=1) (by omega) (by omega) hr.2.2.1 hr.2.2.2.1 (by omega)
    rw [many_cons1,e1]; rfl
  · have hr:=ckRange0 (h r (by simp))
    have hs:=ckRange0 (h s (by simp))
    obtain ⟨e1,e2,e3⟩:=ml_ok (a:=1) (m:=1) (by omega) (by omega) hr.2.2.1 hr.2.2.2.1 (by omega)
    obtain ⟨f1,f2,f3⟩:=ml_ok (m:=64) e2 (by omega) hs.2.2.1 hs.2.2.2.1 (by omega)
    rw [many_cons2,e1,f1]
    simp only [prodE,Int.one_mul]
    rw [Int.mul_comm]
  · have hr:=ckRange0 (h r (by simp))
    have hs:=ckRange0 (h s (by simp))
    have ht:=ckRange0 (h t (by simp))
    obtain ⟨e1,e2,e3⟩:=ml_ok (a:=1) (m:=1) (by omega) (by omega) hr.2.2.1 hr.2.2.2.1 (by omega)
    obtain ⟨f1,f2,f3⟩:=ml_ok (m:=64) e2 (by omega) hs.2.2.1 hs.2.2.2.1 (by omega)
    obtain ⟨g1,g2,g3⟩:=ml_ok (m:=4096) f2 (by omega) ht.2.2.1 ht.2.2.2.1 (by omega)
    rw [many_cons3,e1,f1,g1]
    simp only [prodE,Int.one_mul]
    rw [Int.mul_comm r.ex s.ex,Int.mul_comm (s.ex * r.ex) t.ex,← Int.mul_assoc]
  · simp at h3
theorem ckPts0 (m : Im) : ∀ (r : List Nat) (T : List Int),ckPts m T r = 0 → (∀ i ∈ r,elAt m i < m.dt.length ∧ elAt m i ∉ T) ∧ (r.map (elAt m)).Nodup
  | [],_,_ => ⟨fun i hi => (nomatch hi),List.nodup_nil⟩
  | i :: r,T,h => by
    unfold ckPts at h
    by_cases h1 : (m.dt.length : Int) ≤ elAt m i
    · rw [if_pos h1] at h; omega
    · rw [if_neg h1] at h
      by_cases h2 : elAt m i ∈ T
      · rw [if_pos h2] at h; omega
      · rw [if_neg h2] at h
        obtain ⟨i1,i2⟩:=ckPts0 m r _ h
        refine ⟨fun j hj => ?_,?_⟩
        · rcases List.mem_cons.1 hj with rfl | hj
          · exact ⟨by omega,h2⟩
          · obtain ⟨j1,j2⟩:=i1 j hj
            exact ⟨j1,fun hc => j2 (List.mem_append_left _ hc)⟩
        · rw [List.map_cons,List.nodup_cons]
          refine ⟨fun hc => ?_,i2⟩
          obtain ⟨j,hj,hje⟩:=List.mem_map.1 hc
          obtain ⟨_,j2⟩:=i1 j hj
          exact j2 (by rw [hje]; simp)
structure Good (m : Im) (N : Nat) : Prop where
  kd : ckKind m.kd = 0
  bx : ckBox m.bx = 0
  stl : m.st.length = m.bx.length
  st : Oks m.st
  many : many m.bx = N
  small : N ≤ 4096
  dtl : m.dt.length ≤ 4096
  dt : fnz (m.dt.map (ckB1 m.kd)) = 0
  pts : ckPts m [] (List.range N) = 0
theorem good_of {m : Im} (h : ckI m = 0) : ∃ N,Good m N:=by
  unfold ckI ckIm at h
  by_cases hA : ckA m = 0
  · rw [if_pos hA] at h
    by_cases hB : ckB m = 0
    · rw [if_pos hB] at h
      by_cases hD : fnz (m.dt.map (ckB1 m.kd)) = 0
      · rw [if_pos hD] at h
        obtain ⟨a1,a2,a3⟩:=ckA0 hA
        obtain ⟨N,hN,hN2⟩:=many_nat a2
        have hs:=fz0 _ hB (if m.st.any (fun x => !(decide (x ≥ 0) && decide (x ≤ 4096))) then 3 else 0) (by simp)
        have hl:=fz0 _ hB (if 4096 < m.dt.length then 5 else 0) (by simp)
        refine ⟨N,a1,a2,a3,any_oks ?_,hN,hN2,?_,hD,?_⟩
        · cases hc : m.st.any (fun x => !(decide (x ≥ 0) && decide (x ≤ 4096)))
          · rfl
          · rw [hc] at hs; exact absurd hs (by decide)
        · split at hl
          · omega
          · omega
        · have : (Go.Vm.P4.many m.bx).toNat = N:=by omega
          rwa [this] at h
      · rw [if_neg hD] at h; exact absurd h hD
    · rw [if_neg hB] at h; exact absurd h hB
  · rw [if_neg hA] at h; exact absurd h hA
namespace Good
variable {m : Im} {N : Nat} (G : Good m N)
include G
theorem okr : Okr m.bx:=(ckBox0 G.bx).2.2.1
theorem len3 : m.bx.length ≤ 3:=(ckBox0 G.bx).2.1
theorem len1 : 1 ≤ m.bx.length:=(ckBox0 G.bx).1
theorem pos (h : N ≠ 0) : ∀ r ∈ m.bx,0 < r.ex:=ex_pos G.okr (by have:=G.many; omega)
theorem elIdx {p : List Int} (hp : InB m.bx p) : (∀ r ∈ m.bx,0 < r.ex) ∧ ∃ i : Nat,i < N ∧ digits m.bx i = p ∧ elAt m i = elt m.bx p m.st 0:=by
  have hx : ∀ r ∈ m.bx,0 < r.ex:=by
    have key : ∀ (l : Bx) (p : List Int),InB l p → ∀ r ∈ l,0 < r.ex:=by
      intro l
      induction l with
      | nil => intro p _ r hr; cases hr
      | cons y l ih =>
        intro p hp r hr
        rcases p with _ | ⟨x,p⟩
        · exact hp.elim
        obtain ⟨h1,h2,h3⟩:=hp
        rcases List.mem_cons.1 hr with rfl | hr
        · omega
        · exact ih p h3 r hr
    exact key _ _ hp
  obtain ⟨h1,h2⟩:=horn_bd m.bx p hx hp
  have h3:=digits_horn m.bx p hx hp
  have h4:=many_prod G.okr G.len3
  have h5:=G.many
  refine ⟨hx,(hornE m.bx p).toNat,by omega,?_,?_⟩
  · rw [show (((hornE m.bx p).toNat : Nat) : Int) = hornE m.bx p by omega]; exact h3
  · have e2:=plc_dig m.bx G.okr G.len3 hx (hornE m.bx p).toNat
    rw [show (((hornE m.bx p).toNat : Nat) : Int) = hornE m.bx p by omega,h3] at e2
    have hl : p.length = m.bx.length:=by rw [← h3,digits_len]
    rw [elAt,e2,elt_app _ _ _ _ _ (by omega) (by have:=G.stl; omega)]
theorem nn {p : List Int} (hp : InB m.bx p) : 0 ≤ elt m.bx p m.st 0 :=
  elt_nn _ _ _ _ G.okr hp G.st (by have:=G.stl; omega) (by omega) (by have:=G.len3; omega)
end Good
def atI (m : Im) (p : List Int) : Int:=(m.dt[(elt m.bx p m.st 0).toNat]?).getD 0
theorem Good.at {m : Im} {N : Nat} (G : Good m N) {p : List Int} (hp : InB m.bx p) : ∃ k : Nat,elt m.bx p m.st 0 = k ∧ k < m.dt.length ∧ m.dt[k]? = some (atI m p):=by
  obtain ⟨hx,i,h1,h2,h3⟩:=G.elIdx hp
  have h4:=((ckPts0 m _ _ G.pts).1 i (by simpa using h1)).1
  have h5:=G.nn hp
  refine ⟨(elt m.bx p m.st 0).toNat,by omega,by omega,?_⟩
  rw [atI,List.getElem?_eq_getElem (show (elt m.bx p m.st 0).toNat < m.dt.length by omega)]; rfl
theorem Good.inj {m : Im} {N : Nat} (G : Good m N) {p q : List Int} (hp : InB m.bx p) (hq : InB m.bx q) (h : elt m.bx p m.st 0 = elt m.bx q m.st 0) : p = q:=by
  obtain ⟨_,i,i1,i2,i3⟩:=G.elIdx hp
  obtain ⟨_,j,j1,j2,j3⟩:=G.elIdx hq
  have nd:=(ckPts0 m _ _ G.pts).2
  have e : i = j:=by
    have h1 : ((List.range N).map (elAt m))[i]? = some (elAt m i):=by simp [i1]
    have h2 : ((List.range N).map (elAt m))[j]? = some (elAt m j):=by simp [j1]
    have h3 : ((List.range N).map (elAt m))[i]? = ((List.range N).map (elAt m))[j]?:=by rw [h1,h2,i3,j3,h]
    exact (List.getElem?_inj (by simpa using i1) nd).1 h3
  rw [← i2,← j2,e]
theorem in_pad {l : Bx} {p : List Int} (h : InB l p) : p.length = l.length:=by
  induction l generalizing p with
  | nil => cases p with | nil => rfl | cons x p => exact h.elim
  | cons r l ih => cases p with | nil => exact h.elim | cons x p => simp [ih h.2.2]
theorem Good.atP {m : Im} {N : Nat} (G : Good m N) {p q : List Int} (hp : InB m.bx p) : ∃ k : Nat,elt m.bx (p ++ q) m.st 0 = k ∧ k < m.dt.length ∧ m.dt[k]? = some (atI m p):=by
  obtain ⟨k,h1,h2⟩:=G.at hp
  exact ⟨k,by rw [elt_app _ _ _ _ _ (by rw [in_pad hp]; exact Nat.le_refl _) (by have:=G.stl; omega)]; exact h1,h2⟩
end Go.Vm.P4D

/- Chapter 04,functions: Check and Edge,whatever the image. -/
set_option maxRecDepth 100000
set_option maxHeartbeats 4000000
namespace Go.Vm.P4D
open Go Go.Vm Go.Vm.P4
theorem okCheckI (n : Nat) (m : Im) (hx : m.bx.length < 1000000) (hs : m.st.length < 1000000) (hd : m.dt.length < 1000000) (hv : Ok64 m.dt) : callP (level E (n+9)) 48 [enIm m] = some (.int .i64 (ckI m)) :=
  okCheck n m (ckB1 m.kd) hx hs hd (fun v hv' => okCheckG (n+1) m.kd v (hv v hv').1 (hv v hv').2)
theorem aEq3 (x y z a b c : Int) : aEq (.agg [(0,.int),(1,.int),(2,.int)]) (.imm (.agg [.int .i64 x,.int .i64 y,.int .i64 z])) (.imm (.agg [.int .i64 a,.int .i64 b,.int .i64 c])) = some (decide ([x,y,z] = [a,b,c])):=by
  by_cases h1 : x = a
  · by_cases h2 : y = b
    · by_cases h3 : z = c
      · subst h1; subst h2; subst h3; simp [aEq,eqL,eqE,intEq]
      · have : (z == c) = false:=by simpa using h3
        subst h1; subst h2; simp [aEq,eqL,eqE,intEq,this,h3]
    · have : (y == b) = false:=by simpa using h2
      subst h1; simp [aEq,eqL,eqE,intEq,this,h2]
  · have : (x == a) = false:=by simpa using h1
    simp [aEq,eqL,eqE,intEq,this,h1]
theorem modW_eq {a b : Int} (hb : 0 < b) (hb2 : b ≤ 1000) (ha : -4194304 ≤ a) (ha2 : a ≤ 4194304) : modW a b = a % b:=by
  have h1 : a.tmod b = a - b * a.tdiv b:=Int.tmod_def a b
  have h2 : -b < a.tmod b:=by have:=Int.lt_tmod_of_pos a hb; omega
  have h3 : a.tmod b < b:=Int.tmod_lt_of_pos a hb
  have e1 : ad (a.tmod b) b = a.tmod b + b:=wrp_ok (by omega)
  rw [modW,e1,Int.tmod_eq_emod_of_nonneg (by omega),Int.add_emod_right]
  rw [h1,Int.sub_mul_emod_self_left]
def inn (rule : Nat) (r : Rg) (c : Int) : Int:=match rule with
  | 0 => min (max c r.lo) (r.lo + r.ex - 1)
  | 1 => r.lo + (c - r.lo) % r.ex
  | _ => r.lo + min ((c - r.lo) % (2 * r.ex)) (2 * r.ex - 1 - (c - r.lo) % (2 * r.ex))
theorem ml2 {r : Rg} (h : ckRange r = 0) : ml 2 r.ex = 2 * r.ex:=by
  have:=ckRange0 h
  exact wrp_ok (by omega)
theorem inW_inn (rule : Nat) (r : Rg) (c : Int) (h : ckRange r = 0) (hx : 0 < r.ex) (h1 : -1048576 ≤ c) (h2 : c ≤ 1048576) : inW rule r c = inn rule r c ∧ r.lo ≤ inn rule r c ∧ inn rule r c < r.lo + r.ex:=by
  have hr:=ckRange0 h
  have e1 : ad r.lo r.ex = r.lo + r.ex:=wrp_ok (by omega)
  have e2 : sb (r.lo + r.ex) 1 = r.lo + r.ex - 1:=wrp_ok (by omega)
  have e3 : sb c r.lo = c - r.lo:=wrp_ok (by omega)
  match rule with
  | 0 =>
    simp only [inW,inn,e1,e2,true_and]
    omega
  | 1 =>
    have m0:=Int.emod_nonneg (c - r.lo) (show r.ex ≠ 0 by omega)
    have m1:=Int.emod_lt_of_pos (c - r.lo) hx
    have e4:=modW_eq (a:=c - r.lo) hx (by omega) (by omega) (by omega)
    have e5 : ad r.lo ((c - r.lo) % r.ex) = r.lo + (c - r.lo) % r.ex:=wrp_ok (by omega)
    simp only [inW,inn,e3,e4,e5,true_and]
    omega
  | k + 2 =>
    have m0:=Int.emod_nonneg (c - r.lo) (show 2 * r.ex ≠ 0 by omega)
    have m1:=Int.emod_lt_of_pos (c - r.lo) (show 0 < 2 * r.ex by omega)
    have e4:=modW_eq (a:=c - r.lo) (show 0 < 2 * r.ex by omega) (by omega) (by omega) (by omega)
    have e5 : sb (2 * r.ex) 1 = 2 * r.ex - 1:=wrp_ok (by omega)
    have e6 : sb (2 * r.ex - 1) ((c - r.lo) % (2 * r.ex)) = 2 * r.ex - 1 - (c - r.lo) % (2 * r.ex):=wrp_ok (by omega)
    have e7 : ad r.lo (min ((c - r.lo) % (2 * r.ex)) (2 * r.ex - 1 - (c - r.lo) % (2 * r.ex))) = r.lo + min ((c - r.lo) % (2 * r.ex)) (2 * r.ex - 1 - (c - r.lo) % (2 * r.ex)):=wrp_ok (by omega)
    simp only [inW,inn,e3,ml2 h,e4,e5,e6,e7,true_and]
    omega
def Near (p : List Int) : Prop:=∀ c ∈ p,-1048576 ≤ c ∧ c ≤ 1048576
theorem near_of {p : List Int} (h : p.any farB = false) : Near p:=by
  intro c hc
  have:=List.any_eq_false.1 h c hc
  simp [farB] at this
  omega
theorem zip_inn (rule : Nat) : ∀ (l : Bx) (p : List Int),Okr l → (∀ r ∈ l,0 < r.ex) → Near p → p.length = l.length → List.zipWith (inW rule) l p = List.zipWith (inn rule) l p ∧ InB l (List.zipWith (inn rule) l p)
  | [],[],_,_,_,_ => ⟨rfl,True.intro⟩
  | [],_ :: _,_,_,_,h => by simp at h
  | _ :: _,[],_,_,_,h => by simp at h
  | r :: l,c :: p,h,hx,hn,hl => by
    obtain ⟨q1,q2⟩:=hn c (by simp)
    obtain ⟨h1,h2,h3⟩:=inW_inn rule r c (h r (by simp)) (hx r (by simp)) q1 q2
    obtain ⟨i1,i2⟩:=zip_inn rule l p h.tl (fun y hy => hx y (List.mem_cons_of_mem _ hy)) (fun y hy => hn y (List.mem_cons_of_mem _ hy)) (by simpa using hl)
    rw [List.zipWith_cons_cons,List.zipWith_cons_cons,h1,i1]
    exact ⟨rfl,h2,h3,i2⟩
theorem clamp_in : ∀ (l : Bx) (p : List Int),p.length = l.length → (∀ r ∈ l,0 < r.ex) → (List.zipWith (inn 0) l p = p ↔ InB l p)
  | [],[],_,_ => by simp [InB]
  | [],_ :: _,h,_ => by simp at h
  | _ :: _,[],h,_ => by simp at h
  | r :: l,c :: p,hl,hx => by
    have hr:=hx r (by simp)
    have ih:=clamp_in l p (by simpa using hl) (fun y hy => hx y (List.mem_cons_of_mem _ hy))
    rw [List.zipWith_cons_cons,List.cons.injEq,InB,ih]
    simp only [inn]
    constructor
    · rintro ⟨h1,h2⟩; exact ⟨by omega,by omega,h2⟩
    · rintro ⟨h1,h2,h3⟩; exact ⟨by omega,h3⟩
theorem pad3 (p : List Int) (h : p.length ≤ 3) : (p ++ [0,0,0]).take 3 = p ++ List.replicate (3 - p.length) 0:=by
  rcases p with _ | ⟨x,_ | ⟨y,_ | ⟨z,_ | ⟨w,p⟩⟩⟩⟩
  · rfl
  · rfl
  · rfl
  · rfl
  · simp at h
theorem pad3_inj {p q : List Int} (hp : p.length ≤ 3) (h : p.length = q.length) : (p ++ [0,0,0]).take 3 = (q ++ [0,0,0]).take 3 ↔ p = q:=by
  rw [pad3 p hp,pad3 q (by omega)]
  constructor
  · intro e
    have:=List.append_inj_left e h
    exact this
  · rintro rfl; rfl
def valD (k v : Int) : D:=.agg [.int .i64 k,.int .u64 v]
def ckE1 (m : Im) (rule : Int) (p : List Int) : Int:=fnz [ckI m,if 0 ≤ rule ∧ rule ≤ 3 then 0 else 11,if p.length = m.bx.length then 0 else 13]
def ckE2 (m : Im) (ko vo : Int) : Int:=fnz [ckVal ko vo,if ko = m.kd then 0 else 12]
def edgeR (m : Im) (rule : Int) (p : List Int) (ko vo : Int) : (Int × Int) × Int :=
  if ckE1 m rule p = 0 then
    if p.any farB then ((0,0),3)
    else if rule = 3 then
      if ckE2 m ko vo = 0 then (if hasB m.bx p then ((m.kd,atI m p),0) else ((ko,vo),0)) else ((0,0),ckE2 m ko vo)
    else if many m.bx = 0 then ((0,0),10) else ((m.kd,atI m (List.zipWith (inn rule.toNat) m.bx p)),0)
  else ((0,0),ckE1 m rule p)
theorem okEdge (n : Nat) (m : Im) (c : Bool) (rule : Int) (p : List Int) (ko vo : Int) (hx : m.bx.length < 1000000) (hs : m.st.length < 1000000) (hd : m.dt.length < 1000000) (hv : Ok64 m.dt) (hp : p.length < 1000000) (h0 : 0 ≤ vo) (h1 : vo < 18446744073709551616) :
    callP (level E (n+10)) 22 [enIm m,.int .i64 rule,slD c 1 (p.map ic),valD ko vo] = some (.tup [valD (edgeR m rule p ko vo).1.1 (edgeR m rule p ko vo).1.2,.int .i64 (edgeR m rule p ko vo).2]):=by
  have c1:=okCheckI n m hx hs hd hv
  have f1 : callP (level E (n+9)) 55 [.sl 1 [[.int .i64 (ckI m)],[.int .i64 (if 0 ≤ rule ∧ rule ≤ 3 then 0 else 11)],[.int .i64 (if p.length = m.bx.length then 0 else 13)]]] = some (.int .i64 (ckE1 m rule p)) :=
    okFirstL (n+8) _ [ckI m,if 0 ≤ rule ∧ rule ≤ 3 then 0 else 11,if p.length = m.bx.length then 0 else 13] rfl (by simp)
  obtain ⟨bw,i1,w1⟩ : ∃ b : Bool,callP (level E (n+9)) 57 [.int .i64 rule,.int .i64 0,.int .i64 3] = some (.bool b) ∧ callP (level E (n+9)) 54 [.bool (!b),.int .i64 11] = some (.int .i64 (if 0 ≤ rule ∧ rule ≤ 3 then 0 else 11)):=by
    refine ⟨_,okWithin (n+8) rule 0 3,?_⟩
    rw [okWhen (n+8)]
    by_cases h : 0 ≤ rule <;> by_cases h' : rule ≤ 3 <;> simp [h,h']
  have w2 : callP (level E (n+9)) 54 [.bool (decide (¬ (p.length : Int) = m.bx.length)),.int .i64 13] = some (.int .i64 (if p.length = m.bx.length then 0 else 13)):=by
    rw [okWhen (n+8)]
    by_cases h : p.length = m.bx.length
    · simp [h]
    · have : ¬ (p.length : Int) = m.bx.length:=by omega
      simp [h,this]
  rw [p22]
  simp only [enIm] at c1
  obtain ⟨x11,hx11⟩ : ∃ x : Int,x = (if 0 ≤ rule ∧ rule ≤ 3 then 0 else 11):=⟨_,rfl⟩
  obtain ⟨x13,hx13⟩ : ∃ x : Int,x = (if p.length = m.bx.length then 0 else 13):=⟨_,rfl⟩
  rw [← hx11] at f1 w1
  rw [← hx13] at f1 w2
  by_cases e1 : ckE1 m rule p = 0
  · have g1:=fz0 _ e1 (ckI m) (by simp)
    have g2:=fz0 _ e1 (if 0 ≤ rule ∧ rule ≤ 3 then 0 else 11) (by simp)
    have g3:=fz0 _ e1 (if p.length = m.bx.length then 0 else 13) (by simp)
    have g2 : 0 ≤ rule ∧ rule ≤ 3:=by split at g2; assumption; omega
    have g3 : p.length = m.bx.length:=by split at g3; assumption; omega
    obtain ⟨N,G⟩:=good_of g1
    have cf:=okContains (n+7) c p 71 farB (by omega) (fun x _ => okEdge_1 (n+5) x)
    cases hf : p.any farB
    · rw [hf] at cf
      have m1:=okMany (n+8) m.bb m.bx (by omega)
      have nr:=near_of hf
      by_cases r3 : rule = 3
      · subst r3
        have v1:=okCheckValue (n+6) ko vo h0 h1
        have f2 : callP (level E (n+9)) 55 [.sl 1 [[.int .i64 (ckVal ko vo)],[.int .i64 (if ko = m.kd then 0 else 12)]]] = some (.int .i64 (ckE2 m ko vo)):=okFirstL (n+8) _ [ckVal ko vo,if ko = m.kd then 0 else 12] rfl (by simp)
        have w3 : callP (level E (n+9)) 54 [.bool (decide (¬ ko = m.kd)),.int .i64 12] = some (.int .i64 (if ko = m.kd then 0 else 12)):=by
          rw [okWhen (n+8)]
          by_cases h : ko = m.kd <;> simp [h]
        by_cases e2 : ckE2 m ko vo = 0
        · by_cases hm : many m.bx = 0
          · have hh : hasB m.bx p = false:=by
              cases hc : hasB m.bx p
              · rfl
              · have:=(hasB_in _ _ G.okr g3).1 hc
                obtain ⟨_,i,hi,_⟩:=G.elIdx this
                have:=G.many; omega
            simp only [go_sem,simprocAttr,valD,enIm,c1,i1,w1,w2,f1,e1,cf,v1,w3,f2,e2,m1,hm,edgeR,hf,hh,ne_eq,not_true_eq_false,Bool.false_eq_true]
          · have hx':=ex_pos G.okr hm
            have mv:=okMoved (n+8) m.bb c 0 (by decide) m.bx p G.len3 g3 (inW 0) (fun r hr' x => okBound (n+6) 0 r x (by have:=hx' r hr'; omega) (by rw [ml2 (G.okr r hr')]; have:=hx' r hr'; omega))
            have of1:=okOf (n+8) c p (by have:=G.len3; omega)
            obtain ⟨z1,z2⟩:=zip_inn 0 m.bx p G.okr hx' nr g3
            rw [z1] at mv
            obtain ⟨k,k1,k2,k3⟩:=G.atP (q:=List.replicate (3 - (List.zipWith (inn 0) m.bx p).length) 0) z2
            have hzl : (List.zipWith (inn 0) m.bx p).length ≤ 3:=by simp; have:=G.len3; omega
            rw [← pad3 _ hzl] at k1
            have va:=okViewAt (n+7) m _ k _ (by simp) G.len3 (by have:=G.stl; omega) k1 k3
            have heq : ((List.zipWith (inn 0) m.bx p ++ [0,0,0]).take 3 = (p ++ [0,0,0]).take 3) ↔ InB m.bx p:=by
              rw [pad3_inj hzl (by simp; omega)]
              exact clamp_in m.bx p g3 hx'
            obtain ⟨x,y,z,hq⟩ : ∃ x y z,(List.zipWith (inn 0) m.bx p ++ [0,0,0]).take 3 = [x,y,z]:=by
              match hh : (List.zipWith (inn 0) m.bx p ++ [0,0,0]).take 3,(show ((List.zipWith (inn 0) m.bx p ++ [0,0,0]).take 3).length = 3 from by simp) with
              | [x,y,z],_ => exact ⟨x,y,z,rfl⟩
            obtain ⟨x',y',z',hq'⟩ : ∃ x y z,(p ++ [0,0,0]).take 3 = [x,y,z]:=by
              match hh : (p ++ [0,0,0]).take 3,(show ((p ++ [0,0,0]).take 3).length = 3 from by simp) with
              | [x,y,z],_ => exact ⟨x,y,z,rfl⟩
            rw [hq] at mv va heq
            rw [hq'] at of1 heq
            have aq:=aEq3 x y z x' y' z'
            rw [cast_0] at mv
            simp only [enP,List.map_cons,List.map_nil] at mv va of1
            simp only [enIm] at va
            by_cases hin : InB m.bx p
            · have hh : hasB m.bx p = true:=(hasB_in _ _ G.okr g3).2 hin
              have hd' : decide ([x,y,z] = [x',y',z']) = true:=decide_eq_true (heq.2 hin)
              have hz : List.zipWith (inn 0) m.bx p = p:=(clamp_in m.bx p g3 hx').2 hin
              rw [hd'] at aq
              rw [hz] at va
              simp only [go_sem,simprocAttr,valD,enIm,c1,i1,w1,w2,f1,e1,cf,v1,w3,f2,e2,m1,hm,mv,of1,aq,va,edgeR,hf,hh,ne_eq,not_true_eq_false,Bool.false_eq_true]
            · have hh : hasB m.bx p = false:=by
                cases hc : hasB m.bx p
                · rfl
                · exact absurd ((hasB_in _ _ G.okr g3).1 hc) hin
              have hd' : decide ([x,y,z] = [x',y',z']) = false:=decide_eq_false (fun h => hin (heq.1 h))
              rw [hd'] at aq
              simp only [go_sem,simprocAttr,valD,enIm,c1,i1,w1,w2,f1,e1,cf,v1,w3,f2,e2,m1,hm,mv,of1,aq,edgeR,hf,hh,ne_eq,not_true_eq_false,Bool.false_eq_true]
        · simp only [go_sem,simprocAttr,valD,enIm,c1,i1,w1,w2,f1,e1,cf,v1,w3,f2,e2,edgeR,hf,ne_eq,not_true_eq_false,not_false_eq_true,Bool.false_eq_true]
      · by_cases hm : many m.bx = 0
        · simp only [go_sem,simprocAttr,valD,enIm,c1,i1,w1,w2,f1,e1,cf,m1,hm,r3,edgeR,hf,ne_eq,not_true_eq_false,Bool.false_eq_true]
        · have hx':=ex_pos G.okr hm
          obtain ⟨k0,hk0⟩ : ∃ k : Nat,rule = k:=⟨rule.toNat,by omega⟩
          subst hk0
          have mv:=okMoved (n+8) m.bb c k0 (by omega) m.bx p G.len3 g3 (inW k0) (fun r hr' x => okBound (n+6) k0 r x (by have:=hx' r hr'; omega) (by rw [ml2 (G.okr r hr')]; have:=hx' r hr'; omega))
          obtain ⟨z1,z2⟩:=zip_inn k0 m.bx p G.okr hx' nr g3
          rw [z1] at mv
          obtain ⟨k,k1,k2,k3⟩:=G.atP (q:=List.replicate (3 - (List.zipWith (inn k0) m.bx p).length) 0) z2
          have hzl : (List.zipWith (inn k0) m.bx p).length ≤ 3:=by simp; have:=G.len3; omega
          rw [← pad3 _ hzl] at k1
          have va:=okViewAt (n+7) m _ k _ (by simp) G.len3 (by have:=G.stl; omega) k1 k3
          obtain ⟨x,y,z,hq⟩ : ∃ x y z,(List.zipWith (inn k0) m.bx p ++ [0,0,0]).take 3 = [x,y,z]:=by
            match hh : (List.zipWith (inn k0) m.bx p ++ [0,0,0]).take 3,(show ((List.zipWith (inn k0) m.bx p ++ [0,0,0]).take 3).length = 3 from by simp) with
            | [x,y,z],_ => exact ⟨x,y,z,rfl⟩
          rw [hq] at mv va
          simp only [enP,List.map_cons,List.map_nil] at mv va
          simp only [enIm] at va
          simp only [go_sem,simprocAttr,valD,enIm,c1,i1,w1,w2,f1,e1,cf,m1,hm,r3,mv,va,edgeR,hf,Int.toNat_natCast,ne_eq,not_true_eq_false,Bool.false_eq_true]
    · rw [hf] at cf
      simp only [go_sem,simprocAttr,valD,enIm,c1,i1,w1,w2,f1,e1,cf,edgeR,hf,ne_eq,not_true_eq_false]
  · simp only [go_sem,simprocAttr,valD,enIm,c1,i1,w1,w2,f1,e1,edgeR,ne_eq,not_false_eq_true]
end Go.Vm.P4D

/- Chapter 04: what the laws' arguments hold: images,values,points with values. -/
set_option maxRecDepth 100000
namespace Go.Vm.P4D
open Go Go.Vm Go.Vm.P4 Go.Proofs Go.ChangeShapes
section
variable {H : Type} {enc : TypeId × Value → H} {W : World} {sp : Nat → Bool} {held : Bool}
theorem cellsU : Tryd.prog.cellsOf 41 = 1:=by kernel_rfl
theorem cellsBits : Tryd.prog.cellsOf 25 = 1:=by kernel_rfl
theorem cellsImage : Tryd.prog.cellsOf 27 = 4:=by kernel_rfl
theorem u64_range {k : Int} (h : (Lit.int .u64 k).wf = true) : 0 ≤ k ∧ k < 18446744073709551616:=by
  simp [Lit.wf] at h
  have e1 : IntKind.u64.min = 0:=by decide
  have e2 : IntKind.u64.max = 18446744073709551615:=by decide
  rw [e1,e2] at h
  omega
theorem rd_u64 {n : Nat} {cs : List Value} {x : DataW H × List MemPlace} (h : DataW.trod enc Tryd.prog W 0 sp held n 41 cs = some x) : ∃ a : { v : Int // 0 ≤ v ∧ v < 18446744073709551616 },(ub a.1).length = 1 ∧ Holds W (ub a.1) cs:=by
  obtain ⟨k,rfl,_,hw⟩:=DataW.trod_int Tryd.underlying41 h
  exact ⟨⟨k,u64_range hw⟩,rfl,holds_one rfl (.int _ _)⟩
theorem rd_bits {n : Nat} {cs : List Value} {x : DataW H × List MemPlace} (h : DataW.trod enc Tryd.prog W 0 sp held n 25 cs = some x) : ∃ (b : Bool) (l : List Int),Ok64 l ∧ Holds W [slD b 1 (l.map ub)] cs:=by
  obtain ⟨b,l,hl⟩:=rd_slice (en:=fun a : { v : Int // 0 ≤ v ∧ v < 18446744073709551616 } => ub a.1) Tryd.underlying25 cellsU (by decide) (fun _ _ _ h => rd_u64 h) h
  refine ⟨b,l.map (·.1),fun v hv => ?_,?_⟩
  · obtain ⟨a,_,rfl⟩:=List.mem_map.1 hv
    exact a.2
  · rw [List.map_map]; exact hl
theorem rd_image {n : Nat} {cs : List Value} {x : DataW H × List MemPlace} (h : DataW.trod enc Tryd.prog W 0 sp held n 27 cs = some x) : ∃ m : Im,Ok64 m.dt ∧ Holds W [.int .i64 m.kd,enB m.bb m.bx,slD m.tb 1 (m.st.map ic),slD m.db 1 (m.dt.map ub)] cs:=by
  obtain ⟨xs,n',_,_,hl,hn,hf⟩:=DataW.trod_struct Tryd.underlying27 h
  rw [cellsImage] at hl
  obtain ⟨a,b,c,d,rfl⟩:=four_of hl
  have f0:=(hf 0 _ rfl).trans (List.getElem?_eq_getElem (show 0 < xs.length by rw [hn]; decide))
  have f1:=(hf 1 _ rfl).trans (List.getElem?_eq_getElem (show 1 < xs.length by rw [hn]; decide))
  have f2:=(hf 2 _ rfl).trans (List.getElem?_eq_getElem (show 2 < xs.length by rw [hn]; decide))
  have f3:=(hf 3 _ rfl).trans (List.getElem?_eq_getElem (show 3 < xs.length by rw [hn]; decide))
  simp only [List.getElem_toArray,List.getElem_cons_zero,List.getElem_cons_succ,cells3,cellsBox,cellsInts,cellsBits,List.drop_zero,List.drop_succ_cons,List.take_succ_cons,List.take_zero,List.take_nil] at f0 f1 f2 f3
  obtain ⟨p,e1,_,_⟩:=DataW.trod_int Tryd.underlying3 f0
  simp only [List.cons.injEq,and_true] at e1
  subst e1
  obtain ⟨b1,l1,h1⟩:=rd_box f1
  obtain ⟨b2,l2,h2⟩:=rd_ints f2
  obtain ⟨b3,l3,h64,h3⟩:=rd_bits f3
  exact ⟨⟨p,b1,l1,b2,l2,b3,l3⟩,h64,holds_app (a:=[.int .i64 p]) (x:=[.int .i64 p]) (holds_one rfl (.int _ _)) (holds_app (x:=[b]) h1 (holds_app (x:=[c]) h2 h3))⟩
theorem arg_image {r : Reach} {b0 : Nat} {v : Value} {d : DataW H} {p : List MemPlace} (hv : Value.okWide Tryd.prog W r b0 27 v) (h : DataW.Trod enc Tryd.prog W 0 sp held 27 v d p) : ∃ m : Im,Ok64 m.dt ∧ RepD (Old W) W (enIm m) v:=by
  obtain ⟨n,h⟩:=h
  obtain ⟨vs,rfl,_⟩:=WideShapes.okWide_struct Tryd.underlying27 hv
  obtain ⟨m,h1,hc⟩:=rd_image h
  exact ⟨m,h1,Go.Vm.P4.ds_agg hc⟩
end
end Go.Vm.P4D

/- Chapter 04,plain: points by their numbers,how many points two boxes share. -/
set_option maxRecDepth 100000
set_option maxHeartbeats 1000000
namespace Go.Vm.P4D
open Go Go.Vm Go.Vm.P4
theorem horn_digits : ∀ (l : Bx) (n : Int),(∀ r ∈ l,0 < r.ex) → 0 ≤ n → n < prodE l → hornE l (digits l n) = n
  | [],n,_,h0,h1 => by simp [prodE] at h1; simp [digits,hornE]; omega
  | r :: l,n,hx,h0,h1 => by
    have hr:=hx r (by simp)
    have d0 : 0 ≤ n / r.ex:=Int.ediv_nonneg h0 (by omega)
    have d1 : n / r.ex < prodE l:=Int.ediv_lt_of_lt_mul hr h1
    have ih:=horn_digits l (n / r.ex) (fun y hy => hx y (List.mem_cons_of_mem _ hy)) d0 d1
    rw [digits,hornE,ih]
    have:=Int.emod_add_mul_ediv n r.ex
    rw [Int.mul_comm] at this
    omega
theorem hornW_E : ∀ (l : Bx) (p : List Int),Okr l → l.length ≤ 3 → InB l p → hornW l p = hornE l p ∧ 0 ≤ hornE l p ∧ hornE l p < 64 ^ l.length
  | [],[],_,_,_ => by simp [hornW,hornE]
  | [],_ :: _,_,_,h => h.elim
  | _ :: _,[],_,_,h => h.elim
  | r :: l,x :: p,h,h3,⟨b1,b2,b3⟩ => by
    have hr:=ckRange0 (h r (by simp))
    obtain ⟨i1,i2,i3⟩:=hornW_E l p h.tl (by simp at h3; omega) b3
    have pw : (64 : Int) ^ l.length ≤ 64 ^ 2:=by
      have : (64 : Nat) ^ l.length ≤ 64 ^ 2:=Nat.pow_le_pow_right (by decide) (by simp at h3; omega)
      exact_mod_cast this
    have p2 : (64 : Int) ^ 2 = 4096:=by decide
    have m0 : 0 ≤ hornE l p * r.ex:=Int.mul_nonneg i2 (by omega)
    have m1 : hornE l p * r.ex ≤ hornE l p * 64:=Int.mul_le_mul_of_nonneg_left (by omega) i2
    have e1 : ml (hornE l p) r.ex = hornE l p * r.ex:=wrp_ok (by omega)
    have e2 : ad (hornE l p * r.ex) x = hornE l p * r.ex + x:=wrp_ok (by omega)
    have e3 : sb (hornE l p * r.ex + x) r.lo = hornE l p * r.ex + x - r.lo:=wrp_ok (by omega)
    rw [hornW,i1,e1,e2,e3,hornE,List.length_cons,Int.pow_succ]
    refine ⟨by omega,by omega,?_⟩
    omega
theorem elt_digits (l : Bx) (h : Okr l) (h3 : l.length ≤ 3) (N : Nat) (hN : many l = N) (i : Nat) (hi : i < N) : elt l ((digits l i ++ [0,0,0]).take 3) (strides 1 l) 0 = i:=by
  have hx:=ex_pos h (by omega : many l ≠ 0)
  have hp:=many_prod h h3
  have hin:=digits_in l (i : Int) hx
  rw [elt_horn l _ h h3 hin,(hornW_E l _ h h3 hin).1,horn_digits l i hx (by omega) (by omega)]
theorem rmeet_ok {r s : Rg} (hr : ckRange r = 0) (hs : ckRange s = 0) : (rmeet r s).lo = max r.lo s.lo ∧ (rmeet r s).ex = max (min (r.lo + r.ex) (s.lo + s.ex) - max r.lo s.lo) 0 ∧ ckRange (rmeet r s) = 0:=by
  have h1:=ckRange0 hr
  have h2:=ckRange0 hs
  have e1 : ad r.lo r.ex = r.lo + r.ex:=wrp_ok (by omega)
  have e2 : ad s.lo s.ex = s.lo + s.ex:=wrp_ok (by omega)
  have e3 : sb (min (r.lo + r.ex) (s.lo + s.ex)) (max r.lo s.lo) = min (r.lo + r.ex) (s.lo + s.ex) - max r.lo s.lo:=wrp_ok (by omega)
  have e : rmeet r s = ⟨max r.lo s.lo,max (min (r.lo + r.ex) (s.lo + s.ex) - max r.lo s.lo) 0⟩:=by rw [rmeet,e1,e2,e3]
  rw [e]
  refine ⟨rfl,rfl,?_⟩
  unfold ckRange
  rw [if_neg]
  dsimp only
  omega
theorem in_meet : ∀ (a b : Bx) (p : List Int),Okr a → Okr b → a.length = b.length → (InB (List.zipWith rmeet a b) p ↔ InB a p ∧ InB b p)
  | [],[],p,_,_,_ => by cases p <;> simp [InB]
  | [],_ :: _,_,_,_,h => by simp at h
  | _ :: _,[],_,_,_,h => by simp at h
  | r :: a,s :: b,[],_,_,_ => by simp [InB]
  | r :: a,s :: b,x :: p,ha,hb,hl => by
    obtain ⟨e1,e2,_⟩:=rmeet_ok (ha r (by simp)) (hb s (by simp))
    have ih:=in_meet a b p ha.tl hb.tl (by simpa using hl)
    rw [List.zipWith_cons_cons]
    simp only [InB,e1,e2,ih]
    constructor
    · rintro ⟨h1,h2,h3,h4⟩
      exact ⟨⟨by omega,by omega,h3⟩,by omega,by omega,h4⟩
    · rintro ⟨⟨h1,h2,h3⟩,h4,h5,h6⟩
      exact ⟨by omega,by omega,h3,h6⟩
def cntR (P : Nat → Bool) : Nat → Nat
  | 0 => 0
  | n + 1 => cntR P n + (if P n then 1 else 0)
theorem cnt_le (P : Nat → Bool) : ∀ n,cntR P n ≤ n
  | 0 => Nat.le_refl _
  | n + 1 => by have:=cnt_le P n; rw [cntR]; split <;> omega
end Go.Vm.P4D

/- Chapter 04,plain law: parts of an image: points of boxes within boxes,points with two coordinates exchanged,points of planes. -/
set_option maxRecDepth 100000
set_option maxHeartbeats 1000000
namespace Go.Vm.P4D
open Go Go.Vm Go.Vm.P4
def dnI (kd : Int) (bb : Bool) (l : Bx) (N : Nat) (F : List Int → Int) : Im:=⟨kd,bb,l,true,strides 1 l,true,(List.range N).map fun i => F (digits l (i : Nat))⟩
theorem in_num {l : Bx} {p : List Int} (ho : Okr l) (h3 : l.length ≤ 3) (N : Nat) (hN : many l = N) (h : InB l p) : ∃ i : Nat,i < N ∧ digits l i = p:=by
  have hx : ∀ (l : Bx) (p : List Int),InB l p → ∀ r ∈ l,0 < r.ex:=by
    intro l
    induction l with
    | nil => intro p _ r hr; cases hr
    | cons y l ih =>
      intro p hp r hr
      rcases p with _ | ⟨x,p⟩
      · exact hp.elim
      obtain ⟨h1,h2,h3⟩:=hp
      rcases List.mem_cons.1 hr with rfl | hr
      · omega
      · exact ih p h3 r hr
  have hx:=hx l p h
  obtain ⟨h1,h2⟩:=horn_bd l p hx h
  have h4:=many_prod ho h3
  refine ⟨(hornE l p).toNat,by omega,?_⟩
  rw [show (((hornE l p).toNat : Nat) : Int) = hornE l p by omega]; exact digits_horn l p hx h
theorem rmeet_in {a b : Rg} (ha : ckRange a = 0) (hb : ckRange b = 0) (hx : 0 < b.ex) : rmeet a b = b ↔ (a.lo ≤ b.lo ∧ b.lo + b.ex ≤ a.lo + a.ex):=by
  have h1:=ckRange0 ha
  have h2:=ckRange0 hb
  have e1 : ad a.lo a.ex = a.lo + a.ex:=wrp_ok (by omega)
  have e2 : ad b.lo b.ex = b.lo + b.ex:=wrp_ok (by omega)
  have e3 : sb (min (a.lo + a.ex) (b.lo + b.ex)) (max a.lo b.lo) = min (a.lo + a.ex) (b.lo + b.ex) - max a.lo b.lo:=wrp_ok (by omega)
  unfold rmeet
  rw [e1,e2,e3]
  rcases b with ⟨lo,ex⟩
  simp only [Rg.mk.injEq]
  dsimp only at *
  omega
theorem meet_in : ∀ (a b : Bx),Okr a → Okr b → (∀ r ∈ b,0 < r.ex) → a.length = b.length → (List.zipWith rmeet a b = b ↔ ∀ p,InB b p → InB a p)
  | [],[],_,_,_,_ => by simp
  | [],_ :: _,_,_,_,h => by simp at h
  | _ :: _,[],_,_,_,h => by simp at h
  | r :: a,s :: b,ha,hb,hx,hl => by
    have hs:=hx s (by simp)
    have ih:=meet_in a b ha.tl hb.tl (fun y hy => hx y (List.mem_cons_of_mem _ hy)) (by simpa using hl)
    have hm:=rmeet_in (ha r (by simp)) (hb s (by simp)) hs
    rw [List.zipWith_cons_cons,List.cons.injEq,ih,hm]
    constructor
    · rintro ⟨⟨h1,h2⟩,h3⟩ p hp
      rcases p with _ | ⟨x,p⟩
      · exact hp.elim
      obtain ⟨q1,q2,q3⟩:=hp
      exact ⟨by omega,by omega,h3 p q3⟩
    · intro h
      have hlow : ∀ b : Bx,(∀ r ∈ b,0 < r.ex) → InB b (b.map Rg.lo):=by
        intro b
        induction b with
        | nil => intro _; exact True.intro
        | cons y b ih =>
          intro hx
          have:=hx y (by simp)
          exact ⟨by omega,by omega,ih (fun z hz => hx z (List.mem_cons_of_mem _ hz))⟩
      have hlb:=hlow b (fun y hy => hx y (List.mem_cons_of_mem _ hy))
      have q1:=h (s.lo :: b.map Rg.lo) ⟨by omega,by omega,hlb⟩
      have q2:=h ((s.lo + s.ex - 1) :: b.map Rg.lo) ⟨by omega,by omega,hlb⟩
      refine ⟨⟨q1.1,?_⟩,fun p hp => ?_⟩
      · have:=q2.2.1; omega
      · exact (h (s.lo :: p) ⟨by omega,by omega,hp⟩).2.2
def swp {α : Type} (l : List α) (a b : Nat) : List α:=match l[a]?,l[b]? with | some x,some y => (l.set a y).set b x | _,_ => l
theorem swp_len {α : Type} (l : List α) (a b : Nat) : (swp l a b).length = l.length:=by
  unfold swp; split <;> simp
theorem swp_okr {l : Bx} (h : Okr l) (a b : Nat) : Okr (swp l a b):=by
  intro r hr
  unfold swp at hr
  split at hr
  · rename_i x y hx hy
    rcases List.mem_or_eq_of_mem_set hr with hr | rfl
    · rcases List.mem_or_eq_of_mem_set hr with hr | rfl
      · exact h r hr
      · exact h _ (List.mem_of_getElem? hy)
    · exact h _ (List.mem_of_getElem? hx)
  · exact h r hr
theorem inB_iff : ∀ (l : Bx) (p : List Int),InB l p ↔ p.length = l.length ∧ ∀ (i : Nat) (r : Rg) (x : Int),l[i]? = some r → p[i]? = some x → r.lo ≤ x ∧ x < r.lo + r.ex
  | [],[] => by simp [InB]
  | [],_ :: _ => by simp [InB]
  | _ :: _,[] => by simp [InB]
  | r :: l,x :: p => by
    rw [InB,inB_iff l p]
    constructor
    · rintro ⟨h1,h2,h3,h4⟩
      refine ⟨by simp [h3],fun i r' x' hr hx => ?_⟩
      cases i with
      | zero => simp at hr hx; subst hr; subst hx; exact ⟨h1,h2⟩
      | succ i => simp at hr hx; exact h4 i r' x' hr hx
    · rintro ⟨h1,h2⟩
      have h0:=h2 0 r x rfl rfl
      exact ⟨h0.1,h0.2,by simpa using h1,fun i r' x' hr hx => h2 (i + 1) r' x' (by simpa using hr) (by simpa using hx)⟩
theorem swp_get {α : Type} (l : List α) (a b : Nat) (ha : a < l.length) (hb : b < l.length) (i : Nat) : (swp l a b)[i]? = if i = b then l[a]? else if i = a then l[b]? else l[i]?:=by
  unfold swp
  rw [List.getElem?_eq_getElem ha,List.getElem?_eq_getElem hb]
  simp only
  rw [List.getElem?_set,List.getElem?_set]
  by_cases h1 : b = i
  · subst h1; simp [hb]
  · by_cases h2 : a = i
    · subst h2; simp [h1,ha,show ¬ a = b from fun e => h1 e.symm]
    · simp [h1,h2,show ¬ i = b from fun e => h1 e.symm,show ¬ i = a from fun e => h2 e.symm]
theorem swp_in {l : Bx} {p : List Int} {a b : Nat} (ha : a < l.length) (hb : b < l.length) (h : InB (swp l a b) p) : InB l (swp p a b):=by
  rw [inB_iff] at h ⊢
  obtain ⟨h1,h2⟩:=h
  rw [swp_len] at h1
  refine ⟨by rw [swp_len,h1],fun i r x hr hx => ?_⟩
  rw [swp_get p a b (by omega) (by omega)] at hx
  by_cases e1 : i = b
  · subst e1
    rw [if_pos rfl] at hx
    refine h2 a r x ?_ hx
    rw [swp_get l a i ha hb]
    by_cases e2 : a = i
    · subst e2; rw [if_pos rfl]; exact hr
    · rw [if_neg e2,if_pos rfl]; exact hr
  · rw [if_neg e1] at hx
    by_cases e2 : i = a
    · subst e2
      rw [if_pos rfl] at hx
      refine h2 b r x ?_ hx
      rw [swp_get l i b ha hb,if_pos rfl]; exact hr
    · rw [if_neg e2] at hx
      refine h2 i r x ?_ hx
      rw [swp_get l a b ha hb,if_neg e1,if_neg e2]; exact hr
end Go.Vm.P4D

/- Chapter 04,functions: Dense,Crop,Slice,Transpose,whatever the image. -/
set_option maxRecDepth 100000
set_option maxHeartbeats 4000000
namespace Go.Vm.P4D
open Go Go.Vm Go.Vm.P4
instance rgDec : DecidableEq Rg:=fun a b => decidable_of_iff (a.lo = b.lo ∧ a.ex = b.ex) (by rcases a with ⟨_,_⟩; rcases b with ⟨_,_⟩; simp)
def im0 : Im:=⟨0,true,[],true,[],true,[]⟩
theorem mk_dn (kd : Int) (l : Bx) (N : Nat) (G : List Int → Int) (ho : Okr l) (h3 : l.length ≤ 3) (hN : many l = N) : mkIm kd l N (fun q => G (q.take l.length)) = dnI kd false l N G:=by
  unfold mkIm dnI
  congr 1
  refine List.map_congr_left fun i hi => ?_
  rw [List.mem_range] at hi
  show G ((plc l i).take l.length) = _
  rw [plc_take l ho h3 (ex_pos ho (by omega))]
theorem view_pts (n : Nat) (m : Im) (M : Nat) (G : Good m M) (l : Bx) (ho : Okr l) (h3 : l.length ≤ 3) (hl : l.length = m.bx.length) (N : Nat) (hN : many l = N) (hin : ∀ p,InB l p → InB m.bx p) :
    ∀ i,i < N → callP (level E (n+2)) 62 ([enIm m] ++ [enP (plc l i)] ++ []) = some (.int .u64 (atI m ((plc l i).take l.length))):=by
  intro i hi
  have hx:=ex_pos ho (by omega : many l ≠ 0)
  have e2:=plc_dig l ho h3 hx i
  obtain ⟨k,k1,k2,k3⟩:=G.atP (q:=List.replicate (3 - l.length) 0) (hin _ (digits_in l i hx))
  rw [← e2] at k1
  rw [plc_take l ho h3 hx]
  exact okViewAt n m (plc l i) k _ (plc_len l i) G.len3 (by have:=G.stl; omega) k1 k3
theorem okDenseG (n : Nat) (m : Im) (hx : m.bx.length < 1000000) (hs : m.st.length < 1000000) (hd : m.dt.length < 1000000) (hv : Ok64 m.dt) :
    callP (level E (n+10)) 13 [enIm m] = some (.tup [enIm (if ckI m = 0 then dnI m.kd false m.bx (many m.bx).toNat (atI m) else im0),.int .i64 (ckI m)]):=by
  rw [p13]
  have c1:=okCheckI n m hx hs hd hv
  by_cases h : ckI m = 0
  · obtain ⟨N,G⟩:=good_of h
    have hN : (many m.bx).toNat = N:=by have:=G.many; omega
    have k1:=okCollect (n+5) m.kd m.bb m.bx 62 [enIm m] [] (fun q => atI m (q.take m.bx.length)) G.len1 G.len3 N G.many (by have:=G.small; omega)
      (view_pts (n+4) m N G m.bx G.okr G.len3 rfl N G.many (fun _ h => h))
    rw [mk_dn m.kd m.bx N (atI m) G.okr G.len3 G.many] at k1
    rw [if_pos h,hN]
    rw [h] at c1 ⊢
    simp only [enIm,dnI] at c1 k1 ⊢
    simp only [go_sem,simprocAttr,c1,k1,ne_eq,not_true_eq_false]
  · rw [if_neg h]
    simp only [enIm,im0] at c1 ⊢
    simp only [go_sem,simprocAttr,c1,h,ne_eq,not_false_eq_true]
    rfl
def ckC1 (m : Im) (l : Bx) : Int:=fnz [ckI m,ckBox l,if l.length = m.bx.length then 0 else 13]
theorem okEqualN (n : Nat) (b c : Bool) : ∀ (l o : Bx),l.length = o.length → l.length < 1000000000 → ∃ r : Bool,(r = true ↔ l = o) ∧ callP (level E (n+1)) 68 [enB b l,enB c o] = some (.bool r):=by
  intro l o hlo hl
  have h:=loop_run (f:=aCode (level E (n)) ⟨0,false⟩ b68_0) (h:=head ⟨0,false⟩ [1,1,0,0,0,1,1,0,0]) (Φ:=outC ⟨0,false⟩ [0,0,1,0,0,0,0,0,0]) (List.zip l o) (fun (_ : Unit) i => ⟨[.imm (slD b 2 (l.map enR)),.imm (slD c 2 (o.map enR)),.junk,.junk,.junk,.imm (.int .i64 l.length),.imm (.int .i64 i),.junk,.junk],[],none⟩) (fun _ _ => True)
    (fun _ x => if x.1 = x.2 then .inl () else .inr (some (.ret,⟨[.junk,.junk,.imm (.bool false),.junk,.junk,.junk,.junk,.junk,.junk],[],none⟩))) (fun _ => some (.exit 0,⟨[.junk,.junk,.junk,.junk,.junk,.junk,.junk,.junk,.junk],[],none⟩)) () trivial
    (fun _ i x _ h2 h1 => ⟨by
      rw [List.length_zip] at h2
      have hil : i < l.length:=by omega
      have hio : i < o.length:=by omega
      have g1 : l[i]? = some x.1:=by
        rw [List.getElem?_zip_eq_some] at h1; exact h1.1
      have g2 : o[i]? = some x.2:=by
        rw [List.getElem?_zip_eq_some] at h1; exact h1.2
      rw [rnd_eq]
      rcases x with ⟨⟨a1,a2⟩,⟨b1,b2⟩⟩
      dsimp only at g1 g2 ⊢
      by_cases q1 : a1 = b1
      · by_cases q2 : a2 = b2
        · subst q1; subst q2
          simp only [go_sem,simprocAttr,lt_t hil,g1,g2,aEq,eqL,eqE,intEq,beq_self_eq_true]
          rw [wrpS (by omega)]
        · have z2 : (a2 == b2) = false:=by simpa using q2
          subst q1
          simp only [go_sem,simprocAttr,lt_t hil,g1,g2,aEq,eqL,eqE,intEq,beq_self_eq_true,z2,q2,Rg.mk.injEq,and_false]
      · have z1 : (a1 == b1) = false:=by simpa using q1
        simp only [go_sem,simprocAttr,lt_t hil,g1,g2,aEq,eqL,eqE,intEq,z1,q1,Rg.mk.injEq,false_and],fun _ _ => trivial⟩)
    (fun _ _ => by
      rw [rnd_eq]
      rw [List.length_zip,← hlo,Nat.min_self]
      simp only [go_sem,simprocAttr,lt_f (Nat.le_refl _)])
  rw [cast_0] at h
  have e : ∀ l o : Bx,l.length = o.length → (l = o ∧ runL (γ:=Option (AExit × S)) (fun (_ : Unit) (x : Rg × Rg) => if x.1 = x.2 then .inl () else .inr (some (.ret,⟨[.junk,.junk,.imm (.bool false),.junk,.junk,.junk,.junk,.junk,.junk],[],none⟩))) (fun _ => some (.exit 0,⟨[.junk,.junk,.junk,.junk,.junk,.junk,.junk,.junk,.junk],[],none⟩)) () (List.zip l o) = some (.exit 0,⟨[.junk,.junk,.junk,.junk,.junk,.junk,.junk,.junk,.junk],[],none⟩)) ∨
      (l ≠ o ∧ runL (γ:=Option (AExit × S)) (fun (_ : Unit) (x : Rg × Rg) => if x.1 = x.2 then .inl () else .inr (some (.ret,⟨[.junk,.junk,.imm (.bool false),.junk,.junk,.junk,.junk,.junk,.junk],[],none⟩))) (fun _ => some (.exit 0,⟨[.junk,.junk,.junk,.junk,.junk,.junk,.junk,.junk,.junk],[],none⟩)) () (List.zip l o) = some (.ret,⟨[.junk,.junk,.imm (.bool false),.junk,.junk,.junk,.junk,.junk,.junk],[],none⟩)):=by
    intro l
    induction l with
    | nil => intro o ho; rcases o with _ | ⟨y,o⟩; exact .inl ⟨rfl,rfl⟩; simp at ho
    | cons x l ih =>
      intro o ho
      rcases o with _ | ⟨y,o⟩
      · simp at ho
      rw [List.zip_cons_cons,runL_cons]
      by_cases q : x = y
      · subst q
        simp only [if_true]
        rcases ih o (by simpa using ho) with ⟨h1,h2⟩ | ⟨h1,h2⟩
        · exact .inl ⟨by rw [h1],h2⟩
        · exact .inr ⟨by simpa using h1,h2⟩
      · simp only [q,if_false]
        exact .inr ⟨by simp [q],trivial⟩
  have hz : (l.length : Int) = o.length:=by omega
  rcases e l o hlo with ⟨h1,h2⟩ | ⟨h1,h2⟩
  · refine ⟨true,by simp [h1],?_⟩
    rw [p68]
    simp only [go_sem,simprocAttr,hz,ne_eq,not_true_eq_false]
    rw [hz,h2] at h
    rw [h]
    simp only [go_sem,simprocAttr]
  · refine ⟨false,by simp [h1],?_⟩
    rw [p68]
    simp only [go_sem,simprocAttr,hz,ne_eq,not_true_eq_false]
    rw [hz,h2] at h
    rw [h]
    simp only [go_sem,simprocAttr]
def cropR (m : Im) (l : Bx) : Im × Int :=
  if ckC1 m l = 0 then
    if many l ≠ 0 ∧ List.zipWith rmeet m.bx l ≠ l then (im0,14) else (dnI m.kd false l (many l).toNat (atI m),0)
  else (im0,ckC1 m l)
theorem okCropG (n : Nat) (m : Im) (c : Bool) (l : Bx) (hx : m.bx.length < 1000000) (hs : m.st.length < 1000000) (hd : m.dt.length < 1000000) (hv : Ok64 m.dt) (hl : l.length < 1000000) :
    callP (level E (n+10)) 19 [enIm m,enB c l] = some (.tup [enIm (cropR m l).1,.int .i64 (cropR m l).2]):=by
  have c1:=okCheckI n m hx hs hd hv
  have b1:=okCheckBox (n+5) c l hl
  have f1 : callP (level E (n+9)) 55 [.sl 1 [[.int .i64 (ckI m)],[.int .i64 (ckBox l)],[.int .i64 (if l.length = m.bx.length then 0 else 13)]]] = some (.int .i64 (ckC1 m l)):=okFirstL (n+8) _ [ckI m,ckBox l,if l.length = m.bx.length then 0 else 13] rfl (by simp)
  have w1 : callP (level E (n+9)) 54 [.bool (decide (¬ (l.length : Int) = m.bx.length)),.int .i64 13] = some (.int .i64 (if l.length = m.bx.length then 0 else 13)):=by
    rw [okWhen (n+8)]
    by_cases h : l.length = m.bx.length
    · simp [h]
    · have : ¬ (l.length : Int) = m.bx.length:=by omega
      simp [h,this]
  obtain ⟨x13,hx13⟩ : ∃ x : Int,x = (if l.length = m.bx.length then 0 else 13):=⟨_,rfl⟩
  rw [← hx13] at f1 w1
  rw [p19]
  unfold cropR
  by_cases e1 : ckC1 m l = 0
  · have g1:=fz0 _ e1 (ckI m) (by simp)
    have g2:=fz0 _ e1 (ckBox l) (by simp)
    have g3:=fz0 _ e1 (if l.length = m.bx.length then 0 else 13) (by simp)
    have g3 : l.length = m.bx.length:=by split at g3; assumption; omega
    obtain ⟨M,G⟩:=good_of g1
    obtain ⟨q1,q2,q3,q4⟩:=ckBox0 g2
    obtain ⟨N,hN,hN2⟩:=many_nat g2
    have hNt : (many l).toNat = N:=by omega
    have m1:=okMany (n+8) c l (by omega)
    have z1:=okZipped (n+8) m.bb c m.bx l 70 rmeet (by omega) (by omega) (fun r s => okMeet (n+7) r s)
    rw [if_pos e1]
    by_cases hm : many l = 0
    · rw [if_neg (by rintro ⟨h,_⟩; exact h hm)]
      have k1:=okCollect (n+5) m.kd c l 62 [enIm m] [] (fun q => atI m (q.take l.length)) q1 q2 N hN (by omega) (fun i hi => by omega)
      rw [mk_dn m.kd l N (atI m) q3 q2 hN] at k1
      have hm' : ¬ many l > 0:=by omega
      rw [hNt]
      simp only [enIm,dnI] at c1 k1 ⊢
      simp only [go_sem,simprocAttr,c1,b1,w1,f1,e1,m1,hm',k1,ne_eq,not_true_eq_false,Bool.false_eq_true]
    · have hm' : many l > 0:=by omega
      have hx':=ex_pos q3 hm
      obtain ⟨r,hr1,hr2⟩:=okEqualN (n+8) true c (List.zipWith rmeet m.bx l) l (by simp; omega) (by simp; omega)
      by_cases hz : List.zipWith rmeet m.bx l = l
      · rw [if_neg (by rintro ⟨_,h⟩; exact h hz)]
        have hr : r = true:=hr1.2 hz
        subst hr
        have hin:=(meet_in m.bx l G.okr q3 hx' g3.symm).1 hz
        have k1:=okCollect (n+5) m.kd c l 62 [enIm m] [] (fun q => atI m (q.take l.length)) q1 q2 N hN (by omega) (view_pts (n+4) m M G l q3 q2 g3 N hN hin)
        rw [mk_dn m.kd l N (atI m) q3 q2 hN] at k1
        rw [hNt]
        rw [hz] at z1 hr2
        simp only [enIm,dnI] at c1 k1 ⊢
        simp only [go_sem,simprocAttr,c1,b1,w1,f1,e1,m1,hm',z1,hr2,k1,ne_eq,not_true_eq_false,Bool.false_eq_true]
      · rw [if_pos ⟨hm,hz⟩]
        have hr : r = false:=by cases r; rfl; exact absurd (hr1.1 rfl) hz
        subst hr
        simp only [enIm,im0] at c1 ⊢
        simp only [go_sem,simprocAttr,c1,b1,w1,f1,e1,m1,hm',z1,hr2,ne_eq,not_true_eq_false,Bool.false_eq_true]
        rfl
  · rw [if_neg e1]
    simp only [enIm,im0] at c1 ⊢
    simp only [go_sem,simprocAttr,c1,b1,w1,f1,e1,ne_eq,not_false_eq_true]
    rfl
end Go.Vm.P4D

/- Chapter 04,functions: Make,At,Set. -/
set_option maxRecDepth 100000
set_option maxHeartbeats 4000000
namespace Go.Vm.P4D
open Go Go.Vm Go.Vm.P4
def ckAtI (m : Im) (p : List Int) : Int:=ckAt (ckB1 m.kd) m p
theorem ckAt0 {m : Im} {p : List Int} (h : ckAtI m p = 0) : ckI m = 0 ∧ p.length = m.bx.length ∧ hasB m.bx p = true:=by
  unfold ckAtI ckAt at h
  by_cases z : fnz [ckIm (ckB1 m.kd) m,if p.length = m.bx.length then 0 else 13] = 0
  · have g1:=fz0 _ z (ckIm (ckB1 m.kd) m) (by simp)
    have g2:=fz0 _ z (if p.length = m.bx.length then 0 else 13) (by simp)
    rw [if_pos z] at h
    refine ⟨g1,?_,?_⟩
    · split at g2; assumption; omega
    · split at h; assumption; omega
  · rw [if_neg z] at h; exact absurd h z
theorem okCheckAtI (n : Nat) (m : Im) (c : Bool) (p : List Int) (hx : m.bx.length < 1000000) (hs : m.st.length < 1000000) (hd : m.dt.length < 1000000) (hv : Ok64 m.dt) :
    callP (level E (n+10)) 76 [enIm m,slD c 1 (p.map ic)] = some (.int .i64 (ckAtI m p)) :=
  okCheckAt n m c p (ckB1 m.kd) hx hs hd (fun v hv' => okCheckG (n+1) m.kd v (hv v hv').1 (hv v hv').2)
theorem at_pad {m : Im} {p : List Int} (h : ckAtI m p = 0) : ∃ k : Nat,elt m.bx ((p ++ [0,0,0]).take 3) m.st 0 = k ∧ k < m.dt.length ∧ m.dt[k]? = some (atI m p) ∧ p.length ≤ 3 ∧ m.bx.length ≤ 3 ∧ m.st.length = m.bx.length ∧ elt m.bx p m.st 0 = k:=by
  obtain ⟨h1,h2,h3⟩:=ckAt0 h
  obtain ⟨N,G⟩:=good_of h1
  have hp:=(hasB_in m.bx p G.okr h2).1 h3
  have l3:=G.len3
  have l1:=G.len1
  obtain ⟨k,k1,k2,k3⟩:=G.at hp
  obtain ⟨k',j1,j2,j3⟩:=G.atP (q:=List.replicate (3 - p.length) 0) hp
  have e : (p ++ [0,0,0]).take 3 = p ++ List.replicate (3 - p.length) 0:=pad3 p (by omega)
  have e2:=elt_app m.bx p (List.replicate (3 - p.length) 0) m.st 0
  refine ⟨k',by rw [e]; exact j1,j2,j3,by omega,l3,G.stl,?_⟩
  rw [elt_app _ _ _ _ _ (by omega) (by have:=G.stl; omega)] at j1
  exact j1
theorem okAtG (n : Nat) (m : Im) (c : Bool) (p : List Int) (hx : m.bx.length < 1000000) (hs : m.st.length < 1000000) (hd : m.dt.length < 1000000) (hv : Ok64 m.dt) :
    callP (level E (n+11)) 24 [enIm m,slD c 1 (p.map ic)] = some (.tup [if ckAtI m p = 0 then .agg [.int .i64 m.kd,.int .u64 (atI m p)] else .agg [.int .i64 0,.int .u64 0],.int .i64 (ckAtI m p)]):=by
  have h1:=okCheckAtI n m c p hx hs hd hv
  by_cases h : ckAtI m p = 0
  · rw [h] at h1
    obtain ⟨k,k1,k2,k3,k4,k5,k6,_⟩:=at_pad h
    rw [if_pos h,h]
    exact okAtS n m c p h1 k5 k4 (by omega) k _ k1 k3
  · rw [if_neg h]
    exact okAtE n m c p _ h h1
end Go.Vm.P4D

/- Chapter 04: the law ImageUnions,given the examples. -/
set_option maxRecDepth 100000
set_option maxHeartbeats 1000000
namespace Go.Vm.P4D
open Go Go.Vm Go.Vm.P4
end Go.Vm.P4D

/- Chapter 04,plain: what intersections,unions and Set do. -/
set_option maxRecDepth 100000
set_option maxHeartbeats 1000000
namespace Go.Vm.P4D
open Go Go.Vm Go.Vm.P4
theorem ckBox_of {l : Bx} (h1 : 1 ≤ l.length) (h3 : l.length ≤ 3) (h : Okr l) (hm : many l ≤ 4096) : ckBox l = 0:=by
  unfold ckBox
  rw [if_neg (by omega)]
  have e1 : fnz (l.map ckRange) = 0:=fnz_all _ fun x hx => by
    obtain ⟨r,hr,rfl⟩:=List.mem_map.1 hx
    exact h r hr
  rw [e1,if_neg (by omega)]
  rfl
theorem has_dig {l : Bx} (h : ckBox l = 0) (N : Nat) (hN : many l = N) (i : Nat) (hi : i < N) : InB l (digits l i) ∧ hasB l (digits l i) = true ∧ ckPoint l (digits l i) = 0:=by
  obtain ⟨a1,a2,a3,a4⟩:=ckBox0 h
  have hx:=ex_pos a3 (by omega : many l ≠ 0)
  have hin:=digits_in l (i : Int) hx
  have hl : (digits l (i : Int)).length = l.length:=digits_len l i
  refine ⟨hin,(hasB_in l _ a3 hl).2 hin,?_⟩
  unfold ckPoint
  rw [h,if_pos hl]
  rfl
theorem at_in {m : Im} (h : ckI m = 0) {q : List Int} (hq : InB m.bx q) : ckAtI m q = 0:=by
  obtain ⟨N,G⟩:=good_of h
  unfold ckAtI ckAt
  have e : ckIm (ckB1 m.kd) m = 0:=h
  have hl:=in_pad hq
  have hh:=(hasB_in m.bx q G.okr hl).2 hq
  have e2 : fnz [ckIm (ckB1 m.kd) m,if q.length = m.bx.length then 0 else 13] = 0:=by rw [e,if_pos hl]; rfl
  rw [if_pos e2,if_pos hh]
end Go.Vm.P4D

/- Chapter 04,functions: Slice and Transpose,whatever the image. -/
set_option maxRecDepth 100000
set_option maxHeartbeats 8000000
namespace Go.Vm.P4D
open Go Go.Vm Go.Vm.P4
abbrev pIm (m : Im) : D:=.ptr [.int .i64 m.kd,enB m.bb m.bx,slD m.tb 1 (m.st.map ic),slD m.db 1 (m.dt.map ub)]
theorem okTr00_1 (n : Nat) (m : Im) (x y z : Int) (h3 : m.bx.length ≤ 3) (hs : m.bx.length ≤ m.st.length) (k : Nat) (v : Int) (he : elt m.bx [x,y,z] m.st 0 = k) (hv : m.dt[k]? = some v) :
    callP (level E (n+3)) 67 ([] ++ [enP [x,y,z]] ++ [.ptr [.int .i64 0],.ptr [.int .i64 0],pIm m]) = some (.int .u64 v):=by
  show callP (level E (n+3)) 67 [enP [x,y,z],.ptr [.int .i64 0],.ptr [.int .i64 0],pIm m] = _
  rw [p67]
  have v1:=okViewAt n m [x,y,z] k v rfl h3 hs he hv
  simp only [enIm,enP,List.map_cons,List.map_nil] at v1
  simp only [go_sem,Nat.reduceAdd,Nat.reduceSub,Nat.reduceMul,Nat.reduceDiv,Nat.reduceMod,Nat.reduceLeDiff,Nat.reduceLT,Nat.reduceBEq,Int.reduceToNat,Int.reduceLT,Int.reduceLE,Int.reduceEq,enP,v1]
  done
theorem okTr01_1 (n : Nat) (m : Im) (x y z : Int) (h3 : m.bx.length ≤ 3) (hs : m.bx.length ≤ m.st.length) (k : Nat) (v : Int) (he : elt m.bx [y,x,z] m.st 0 = k) (hv : m.dt[k]? = some v) :
    callP (level E (n+3)) 67 ([] ++ [enP [x,y,z]] ++ [.ptr [.int .i64 1],.ptr [.int .i64 0],pIm m]) = some (.int .u64 v):=by
  show callP (level E (n+3)) 67 [enP [x,y,z],.ptr [.int .i64 1],.ptr [.int .i64 0],pIm m] = _
  rw [p67]
  have v1:=okViewAt n m [y,x,z] k v rfl h3 hs he hv
  simp only [enIm,enP,List.map_cons,List.map_nil] at v1
  simp only [go_sem,Nat.reduceAdd,Nat.reduceSub,Nat.reduceMul,Nat.reduceDiv,Nat.reduceMod,Nat.reduceLeDiff,Nat.reduceLT,Nat.reduceBEq,Int.reduceToNat,Int.reduceLT,Int.reduceLE,Int.reduceEq,enP,v1]
  done
theorem okTr02_1 (n : Nat) (m : Im) (x y z : Int) (h3 : m.bx.length ≤ 3) (hs : m.bx.length ≤ m.st.length) (k : Nat) (v : Int) (he : elt m.bx [z,y,x] m.st 0 = k) (hv : m.dt[k]? = some v) :
    callP (level E (n+3)) 67 ([] ++ [enP [x,y,z]] ++ [.ptr [.int .i64 2],.ptr [.int .i64 0],pIm m]) = some (.int .u64 v):=by
  show callP (level E (n+3)) 67 [enP [x,y,z],.ptr [.int .i64 2],.ptr [.int .i64 0],pIm m] = _
  rw [p67]
  have v1:=okViewAt n m [z,y,x] k v rfl h3 hs he hv
  simp only [enIm,enP,List.map_cons,List.map_nil] at v1
  simp only [go_sem,Nat.reduceAdd,Nat.reduceSub,Nat.reduceMul,Nat.reduceDiv,Nat.reduceMod,Nat.reduceLeDiff,Nat.reduceLT,Nat.reduceBEq,Int.reduceToNat,Int.reduceLT,Int.reduceLE,Int.reduceEq,enP,v1]
  done
theorem okTr10_1 (n : Nat) (m : Im) (x y z : Int) (h3 : m.bx.length ≤ 3) (hs : m.bx.length ≤ m.st.length) (k : Nat) (v : Int) (he : elt m.bx [y,x,z] m.st 0 = k) (hv : m.dt[k]? = some v) :
    callP (level E (n+3)) 67 ([] ++ [enP [x,y,z]] ++ [.ptr [.int .i64 0],.ptr [.int .i64 1],pIm m]) = some (.int .u64 v):=by
  show callP (level E (n+3)) 67 [enP [x,y,z],.ptr [.int .i64 0],.ptr [.int .i64 1],pIm m] = _
  rw [p67]
  have v1:=okViewAt n m [y,x,z] k v rfl h3 hs he hv
  simp only [enIm,enP,List.map_cons,List.map_nil] at v1
  simp only [go_sem,Nat.reduceAdd,Nat.reduceSub,Nat.reduceMul,Nat.reduceDiv,Nat.reduceMod,Nat.reduceLeDiff,Nat.reduceLT,Nat.reduceBEq,Int.reduceToNat,Int.reduceLT,Int.reduceLE,Int.reduceEq,enP,v1]
  done
theorem okTr11_1 (n : Nat) (m : Im) (x y z : Int) (h3 : m.bx.length ≤ 3) (hs : m.bx.length ≤ m.st.length) (k : Nat) (v : Int) (he : elt m.bx [x,y,z] m.st 0 = k) (hv : m.dt[k]? = some v) :
    callP (level E (n+3)) 67 ([] ++ [enP [x,y,z]] ++ [.ptr [.int .i64 1],.ptr [.int .i64 1],pIm m]) = some (.int .u64 v):=by
  show callP (level E (n+3)) 67 [enP [x,y,z],.ptr [.int .i64 1],.ptr [.int .i64 1],pIm m] = _
  rw [p67]
  have v1:=okViewAt n m [x,y,z] k v rfl h3 hs he hv
  simp only [enIm,enP,List.map_cons,List.map_nil] at v1
  simp only [go_sem,Nat.reduceAdd,Nat.reduceSub,Nat.reduceMul,Nat.reduceDiv,Nat.reduceMod,Nat.reduceLeDiff,Nat.reduceLT,Nat.reduceBEq,Int.reduceToNat,Int.reduceLT,Int.reduceLE,Int.reduceEq,enP,v1]
  done
theorem okTr12_1 (n : Nat) (m : Im) (x y z : Int) (h3 : m.bx.length ≤ 3) (hs : m.bx.length ≤ m.st.length) (k : Nat) (v : Int) (he : elt m.bx [x,z,y] m.st 0 = k) (hv : m.dt[k]? = some v) :
    callP (level E (n+3)) 67 ([] ++ [enP [x,y,z]] ++ [.ptr [.int .i64 2],.ptr [.int .i64 1],pIm m]) = some (.int .u64 v):=by
  show callP (level E (n+3)) 67 [enP [x,y,z],.ptr [.int .i64 2],.ptr [.int .i64 1],pIm m] = _
  rw [p67]
  have v1:=okViewAt n m [x,z,y] k v rfl h3 hs he hv
  simp only [enIm,enP,List.map_cons,List.map_nil] at v1
  simp only [go_sem,Nat.reduceAdd,Nat.reduceSub,Nat.reduceMul,Nat.reduceDiv,Nat.reduceMod,Nat.reduceLeDiff,Nat.reduceLT,Nat.reduceBEq,Int.reduceToNat,Int.reduceLT,Int.reduceLE,Int.reduceEq,enP,v1]
  done
theorem okTr20_1 (n : Nat) (m : Im) (x y z : Int) (h3 : m.bx.length ≤ 3) (hs : m.bx.length ≤ m.st.length) (k : Nat) (v : Int) (he : elt m.bx [z,y,x] m.st 0 = k) (hv : m.dt[k]? = some v) :
    callP (level E (n+3)) 67 ([] ++ [enP [x,y,z]] ++ [.ptr [.int .i64 0],.ptr [.int .i64 2],pIm m]) = some (.int .u64 v):=by
  show callP (level E (n+3)) 67 [enP [x,y,z],.ptr [.int .i64 0],.ptr [.int .i64 2],pIm m] = _
  rw [p67]
  have v1:=okViewAt n m [z,y,x] k v rfl h3 hs he hv
  simp only [enIm,enP,List.map_cons,List.map_nil] at v1
  simp only [go_sem,Nat.reduceAdd,Nat.reduceSub,Nat.reduceMul,Nat.reduceDiv,Nat.reduceMod,Nat.reduceLeDiff,Nat.reduceLT,Nat.reduceBEq,Int.reduceToNat,Int.reduceLT,Int.reduceLE,Int.reduceEq,enP,v1]
  done
theorem okTr21_1 (n : Nat) (m : Im) (x y z : Int) (h3 : m.bx.length ≤ 3) (hs : m.bx.length ≤ m.st.length) (k : Nat) (v : Int) (he : elt m.bx [x,z,y] m.st 0 = k) (hv : m.dt[k]? = some v) :
    callP (level E (n+3)) 67 ([] ++ [enP [x,y,z]] ++ [.ptr [.int .i64 1],.ptr [.int .i64 2],pIm m]) = some (.int .u64 v):=by
  show callP (level E (n+3)) 67 [enP [x,y,z],.ptr [.int .i64 1],.ptr [.int .i64 2],pIm m] = _
  rw [p67]
  have v1:=okViewAt n m [x,z,y] k v rfl h3 hs he hv
  simp only [enIm,enP,List.map_cons,List.map_nil] at v1
  simp only [go_sem,Nat.reduceAdd,Nat.reduceSub,Nat.reduceMul,Nat.reduceDiv,Nat.reduceMod,Nat.reduceLeDiff,Nat.reduceLT,Nat.reduceBEq,Int.reduceToNat,Int.reduceLT,Int.reduceLE,Int.reduceEq,enP,v1]
  done
theorem okTr22_1 (n : Nat) (m : Im) (x y z : Int) (h3 : m.bx.length ≤ 3) (hs : m.bx.length ≤ m.st.length) (k : Nat) (v : Int) (he : elt m.bx [x,y,z] m.st 0 = k) (hv : m.dt[k]? = some v) :
    callP (level E (n+3)) 67 ([] ++ [enP [x,y,z]] ++ [.ptr [.int .i64 2],.ptr [.int .i64 2],pIm m]) = some (.int .u64 v):=by
  show callP (level E (n+3)) 67 [enP [x,y,z],.ptr [.int .i64 2],.ptr [.int .i64 2],pIm m] = _
  rw [p67]
  have v1:=okViewAt n m [x,y,z] k v rfl h3 hs he hv
  simp only [enIm,enP,List.map_cons,List.map_nil] at v1
  simp only [go_sem,Nat.reduceAdd,Nat.reduceSub,Nat.reduceMul,Nat.reduceDiv,Nat.reduceMod,Nat.reduceLeDiff,Nat.reduceLT,Nat.reduceBEq,Int.reduceToNat,Int.reduceLT,Int.reduceLE,Int.reduceEq,enP,v1]
  done
theorem okTr100 (n : Nat) (m : Im) (r : Rg) (hb : m.bx = [r]) (h1 : callP (level E (n+9)) 48 [enIm m] = some (.int .i64 0)) (hs : m.st.length = 1)
    (N : Nat) (F : List Int → Int) (hN : many [r] = N) (hN2 : N < 1000000) (hF : ∀ i,i < N → ∃ x y z k,plc [r] i = [x,y,z] ∧ elt m.bx [x,y,z] m.st 0 = (k : Nat) ∧ m.dt[k]? = some (F [x,y,z])) :
    callP (level E (n+10)) 18 [enIm m,.int .i64 0,.int .i64 0] = some (.tup [enIm (mkIm m.kd [r] N F),.int .i64 0]):=by
  rw [p18]
  have f1:=okFirstL (n+8) [[.int .i64 0],[.int .i64 0],[.int .i64 0]] [0,0,0] rfl (by simp)
  simp only [fnz,if_true] at f1
  have w2:=okWhen (n+8) false 3
  have i1:=okWithin (n+8) 0 0 0
  have i2:=okWithin (n+8) 0 0 0
  have c1:=okCloneB (n+8) m.bb [r] (by simp)
  have e1 : clV m.bb 2 ([r].map enR) = .ref 0 2 0 1:=by cases m.bb <;> rfl
  have e2 : clO 2 ([r].map enR) = [.arr 2 [enR r]]:=rfl
  rw [e1,e2] at c1
  have k1:=okCollect (n+5) m.kd false [r] 67 [] [.ptr [.int .i64 0],.ptr [.int .i64 0],pIm m] F (by simp) (by simp) N hN hN2 (fun i hi => by
    obtain ⟨x,y,z,k,q1,q2,q3⟩:=hF i hi
    rw [q1]
    exact okTr00_1 (n+3) m x y z (by rw [hb]; simp) (by rw [hb,hs]; exact Nat.le_refl _) k _ q2 q3)
  have w21 : wrp .i64 (1 - 1) = 0:=by decide
  simp only [enIm,hb,go_sem,Nat.reduceAdd,Nat.reduceSub,Nat.reduceMul,Nat.reduceDiv,Nat.reduceMod,Nat.reduceLeDiff,Nat.reduceLT,Nat.reduceBEq,Int.reduceToNat,Int.reduceLT,Int.reduceLE,Int.reduceEq,enB,slD_c,pIm] at h1 k1 c1 i1 i2
  simp only [ge_iff_le,go_sem,Nat.reduceAdd,Nat.reduceSub,Nat.reduceMul,Nat.reduceDiv,Nat.reduceMod,Nat.reduceLeDiff,Nat.reduceLT,Nat.reduceBEq,Int.reduceToNat,Int.reduceLT,Int.reduceLE,Int.reduceEq] at i1 i2
  simp only [enIm,hb,go_sem,Nat.reduceAdd,Nat.reduceSub,Nat.reduceMul,Nat.reduceDiv,Nat.reduceMod,Nat.reduceLeDiff,Nat.reduceLT,Nat.reduceBEq,Int.reduceToNat,Int.reduceLT,Int.reduceLE,Int.reduceEq,h1,f1,w2,i1,i2,c1,w21,ge_iff_le,ne_eq,not_true_eq_false,enB,slD_c,ia_sl,k1,mkIm]
  done
theorem okTr200 (n : Nat) (m : Im) (r s : Rg) (hb : m.bx = [r,s]) (h1 : callP (level E (n+9)) 48 [enIm m] = some (.int .i64 0)) (hs : m.st.length = 2)
    (N : Nat) (F : List Int → Int) (hN : many [r,s] = N) (hN2 : N < 1000000) (hF : ∀ i,i < N → ∃ x y z k,plc [r,s] i = [x,y,z] ∧ elt m.bx [x,y,z] m.st 0 = (k : Nat) ∧ m.dt[k]? = some (F [x,y,z])) :
    callP (level E (n+10)) 18 [enIm m,.int .i64 0,.int .i64 0] = some (.tup [enIm (mkIm m.kd [r,s] N F),.int .i64 0]):=by
  rw [p18]
  have f1:=okFirstL (n+8) [[.int .i64 0],[.int .i64 0],[.int .i64 0]] [0,0,0] rfl (by simp)
  simp only [fnz,if_true] at f1
  have w2:=okWhen (n+8) false 3
  have i1:=okWithin (n+8) 0 0 1
  have i2:=okWithin (n+8) 0 0 1
  have c1:=okCloneB (n+8) m.bb [r,s] (by simp)
  have e1 : clV m.bb 2 ([r,s].map enR) = .ref 0 2 0 2:=by cases m.bb <;> rfl
  have e2 : clO 2 ([r,s].map enR) = [.arr 2 [enR r,enR s]]:=rfl
  rw [e1,e2] at c1
  have k1:=okCollect (n+5) m.kd false [r,s] 67 [] [.ptr [.int .i64 0],.ptr [.int .i64 0],pIm m] F (by simp) (by simp) N hN hN2 (fun i hi => by
    obtain ⟨x,y,z,k,q1,q2,q3⟩:=hF i hi
    rw [q1]
    exact okTr00_1 (n+3) m x y z (by rw [hb]; simp) (by rw [hb,hs]; exact Nat.le_refl _) k _ q2 q3)
  have w21 : wrp .i64 (2 - 1) = 1:=by decide
  simp only [enIm,hb,go_sem,Nat.reduceAdd,Nat.reduceSub,Nat.reduceMul,Nat.reduceDiv,Nat.reduceMod,Nat.reduceLeDiff,Nat.reduceLT,Nat.reduceBEq,Int.reduceToNat,Int.reduceLT,Int.reduceLE,Int.reduceEq,enB,slD_c,pIm] at h1 k1 c1 i1 i2
  simp only [ge_iff_le,go_sem,Nat.reduceAdd,Nat.reduceSub,Nat.reduceMul,Nat.reduceDiv,Nat.reduceMod,Nat.reduceLeDiff,Nat.reduceLT,Nat.reduceBEq,Int.reduceToNat,Int.reduceLT,Int.reduceLE,Int.reduceEq] at i1 i2
  simp only [enIm,hb,go_sem,Nat.reduceAdd,Nat.reduceSub,Nat.reduceMul,Nat.reduceDiv,Nat.reduceMod,Nat.reduceLeDiff,Nat.reduceLT,Nat.reduceBEq,Int.reduceToNat,Int.reduceLT,Int.reduceLE,Int.reduceEq,h1,f1,w2,i1,i2,c1,w21,ge_iff_le,ne_eq,not_true_eq_false,enB,slD_c,ia_sl,k1,mkIm]
  done
theorem okTr201 (n : Nat) (m : Im) (r s : Rg) (hb : m.bx = [r,s]) (h1 : callP (level E (n+9)) 48 [enIm m] = some (.int .i64 0)) (hs : m.st.length = 2)
    (N : Nat) (F : List Int → Int) (hN : many [s,r] = N) (hN2 : N < 1000000) (hF : ∀ i,i < N → ∃ x y z k,plc [s,r] i = [x,y,z] ∧ elt m.bx [y,x,z] m.st 0 = (k : Nat) ∧ m.dt[k]? = some (F [x,y,z])) :
    callP (level E (n+10)) 18 [enIm m,.int .i64 0,.int .i64 1] = some (.tup [enIm (mkIm m.kd [s,r] N F),.int .i64 0]):=by
  rw [p18]
  have f1:=okFirstL (n+8) [[.int .i64 0],[.int .i64 0],[.int .i64 0]] [0,0,0] rfl (by simp)
  simp only [fnz,if_true] at f1
  have w2:=okWhen (n+8) false 3
  have i1:=okWithin (n+8) 0 0 1
  have i2:=okWithin (n+8) 1 0 1
  have c1:=okCloneB (n+8) m.bb [r,s] (by simp)
  have e1 : clV m.bb 2 ([r,s].map enR) = .ref 0 2 0 2:=by cases m.bb <;> rfl
  have e2 : clO 2 ([r,s].map enR) = [.arr 2 [enR r,enR s]]:=rfl
  rw [e1,e2] at c1
  have k1:=okCollect (n+5) m.kd false [s,r] 67 [] [.ptr [.int .i64 1],.ptr [.int .i64 0],pIm m] F (by simp) (by simp) N hN hN2 (fun i hi => by
    obtain ⟨x,y,z,k,q1,q2,q3⟩:=hF i hi
    rw [q1]
    exact okTr01_1 (n+3) m x y z (by rw [hb]; simp) (by rw [hb,hs]; exact Nat.le_refl _) k _ q2 q3)
  have w21 : wrp .i64 (2 - 1) = 1:=by decide
  simp only [enIm,hb,go_sem,Nat.reduceAdd,Nat.reduceSub,Nat.reduceMul,Nat.reduceDiv,Nat.reduceMod,Nat.reduceLeDiff,Nat.reduceLT,Nat.reduceBEq,Int.reduceToNat,Int.reduceLT,Int.reduceLE,Int.reduceEq,enB,slD_c,pIm] at h1 k1 c1 i1 i2
  simp only [ge_iff_le,go_sem,Nat.reduceAdd,Nat.reduceSub,Nat.reduceMul,Nat.reduceDiv,Nat.reduceMod,Nat.reduceLeDiff,Nat.reduceLT,Nat.reduceBEq,Int.reduceToNat,Int.reduceLT,Int.reduceLE,Int.reduceEq] at i1 i2
  simp only [enIm,hb,go_sem,Nat.reduceAdd,Nat.reduceSub,Nat.reduceMul,Nat.reduceDiv,Nat.reduceMod,Nat.reduceLeDiff,Nat.reduceLT,Nat.reduceBEq,Int.reduceToNat,Int.reduceLT,Int.reduceLE,Int.reduceEq,h1,f1,w2,i1,i2,c1,w21,ge_iff_le,ne_eq,not_true_eq_false,enB,slD_c,ia_sl,k1,mkIm]
  done
theorem okTr210 (n : Nat) (m : Im) (r s : Rg) (hb : m.bx = [r,s]) (h1 : callP (level E (n+9)) 48 [enIm m] = some (.int .i64 0)) (hs : m.st.length = 2)
    (N : Nat) (F : List Int → Int) (hN : many [s,r] = N) (hN2 : N < 1000000) (hF : ∀ i,i < N → ∃ x y z k,plc [s,r] i = [x,y,z] ∧ elt m.bx [y,x,z] m.st 0 = (k : Nat) ∧ m.dt[k]? = some (F [x,y,z])) :
    callP (level E (n+10)) 18 [enIm m,.int .i64 1,.int .i64 0] = some (.tup [enIm (mkIm m.kd [s,r] N F),.int .i64 0]):=by
  rw [p18]
  have f1:=okFirstL (n+8) [[.int .i64 0],[.int .i64 0],[.int .i64 0]] [0,0,0] rfl (by simp)
  simp only [fnz,if_true] at f1
  have w2:=okWhen (n+8) false 3
  have i1:=okWithin (n+8) 1 0 1
  have i2:=okWithin (n+8) 0 0 1
  have c1:=okCloneB (n+8) m.bb [r,s] (by simp)
  have e1 : clV m.bb 2 ([r,s].map enR) = .ref 0 2 0 2:=by cases m.bb <;> rfl
  have e2 : clO 2 ([r,s].map enR) = [.arr 2 [enR r,enR s]]:=rfl
  rw [e1,e2] at c1
  have k1:=okCollect (n+5) m.kd false [s,r] 67 [] [.ptr [.int .i64 0],.ptr [.int .i64 1],pIm m] F (by simp) (by simp) N hN hN2 (fun i hi => by
    obtain ⟨x,y,z,k,q1,q2,q3⟩:=hF i hi
    rw [q1]
    exact okTr10_1 (n+3) m x y z (by rw [hb]; simp) (by rw [hb,hs]; exact Nat.le_refl _) k _ q2 q3)
  have w21 : wrp .i64 (2 - 1) = 1:=by decide
  simp only [enIm,hb,go_sem,Nat.reduceAdd,Nat.reduceSub,Nat.reduceMul,Nat.reduceDiv,Nat.reduceMod,Nat.reduceLeDiff,Nat.reduceLT,Nat.reduceBEq,Int.reduceToNat,Int.reduceLT,Int.reduceLE,Int.reduceEq,enB,slD_c,pIm] at h1 k1 c1 i1 i2
  simp only [ge_iff_le,go_sem,Nat.reduceAdd,Nat.reduceSub,Nat.reduceMul,Nat.reduceDiv,Nat.reduceMod,Nat.reduceLeDiff,Nat.reduceLT,Nat.reduceBEq,Int.reduceToNat,Int.reduceLT,Int.reduceLE,Int.reduceEq] at i1 i2
  simp only [enIm,hb,go_sem,Nat.reduceAdd,Nat.reduceSub,Nat.reduceMul,Nat.reduceDiv,Nat.reduceMod,Nat.reduceLeDiff,Nat.reduceLT,Nat.reduceBEq,Int.reduceToNat,Int.reduceLT,Int.reduceLE,Int.reduceEq,h1,f1,w2,i1,i2,c1,w21,ge_iff_le,ne_eq,not_true_eq_false,enB,slD_c,ia_sl,k1,mkIm]
  done
theorem okTr211 (n : Nat) (m : Im) (r s : Rg) (hb : m.bx = [r,s]) (h1 : callP (level E (n+9)) 48 [enIm m] = some (.int .i64 0)) (hs : m.st.length = 2)
    (N : Nat) (F : List Int → Int) (hN : many [r,s] = N) (hN2 : N < 1000000) (hF : ∀ i,i < N → ∃ x y z k,plc [r,s] i = [x,y,z] ∧ elt m.bx [x,y,z] m.st 0 = (k : Nat) ∧ m.dt[k]? = some (F [x,y,z])) :
    callP (level E (n+10)) 18 [enIm m,.int .i64 1,.int .i64 1] = some (.tup [enIm (mkIm m.kd [r,s] N F),.int .i64 0]):=by
  rw [p18]
  have f1:=okFirstL (n+8) [[.int .i64 0],[.int .i64 0],[.int .i64 0]] [0,0,0] rfl (by simp)
  simp only [fnz,if_true] at f1
  have w2:=okWhen (n+8) false 3
  have i1:=okWithin (n+8) 1 0 1
  have i2:=okWithin (n+8) 1 0 1
  have c1:=okCloneB (n+8) m.bb [r,s] (by simp)
  have e1 : clV m.bb 2 ([r,s].map enR) = .ref 0 2 0 2:=by cases m.bb <;> rfl
  have e2 : clO 2 ([r,s].map enR) = [.arr 2 [enR r,enR s]]:=rfl
  rw [e1,e2] at c1
  have k1:=okCollect (n+5) m.kd false [r,s] 67 [] [.ptr [.int .i64 1],.ptr [.int .i64 1],pIm m] F (by simp) (by simp) N hN hN2 (fun i hi => by
    obtain ⟨x,y,z,k,q1,q2,q3⟩:=hF i hi
    rw [q1]
    exact okTr11_1 (n+3) m x y z (by rw [hb]; simp) (by rw [hb,hs]; exact Nat.le_refl _) k _ q2 q3)
  have w21 : wrp .i64 (2 - 1) = 1:=by decide
  simp only [enIm,hb,go_sem,Nat.reduceAdd,Nat.reduceSub,Nat.reduceMul,Nat.reduceDiv,Nat.reduceMod,Nat.reduceLeDiff,Nat.reduceLT,Nat.reduceBEq,Int.reduceToNat,Int.reduceLT,Int.reduceLE,Int.reduceEq,enB,slD_c,pIm] at h1 k1 c1 i1 i2
  simp only [ge_iff_le,go_sem,Nat.reduceAdd,Nat.reduceSub,Nat.reduceMul,Nat.reduceDiv,Nat.reduceMod,Nat.reduceLeDiff,Nat.reduceLT,Nat.reduceBEq,Int.reduceToNat,Int.reduceLT,Int.reduceLE,Int.reduceEq] at i1 i2
  simp only [enIm,hb,go_sem,Nat.reduceAdd,Nat.reduceSub,Nat.reduceMul,Nat.reduceDiv,Nat.reduceMod,Nat.reduceLeDiff,Nat.reduceLT,Nat.reduceBEq,Int.reduceToNat,Int.reduceLT,Int.reduceLE,Int.reduceEq,h1,f1,w2,i1,i2,c1,w21,ge_iff_le,ne_eq,not_true_eq_false,enB,slD_c,ia_sl,k1,mkIm]
  done
theorem okTr300 (n : Nat) (m : Im) (r s t : Rg) (hb : m.bx = [r,s,t]) (h1 : callP (level E (n+9)) 48 [enIm m] = some (.int .i64 0)) (hs : m.st.length = 3)
    (N : Nat) (F : List Int → Int) (hN : many [r,s,t] = N) (hN2 : N < 1000000) (hF : ∀ i,i < N → ∃ x y z k,plc [r,s,t] i = [x,y,z] ∧ elt m.bx [x,y,z] m.st 0 = (k : Nat) ∧ m.dt[k]? = some (F [x,y,z])) :
    callP (level E (n+10)) 18 [enIm m,.int .i64 0,.int .i64 0] = some (.tup [enIm (mkIm m.kd [r,s,t] N F),.int .i64 0]):=by
  rw [p18]
  have f1:=okFirstL (n+8) [[.int .i64 0],[.int .i64 0],[.int .i64 0]] [0,0,0] rfl (by simp)
  simp only [fnz,if_true] at f1
  have w2:=okWhen (n+8) false 3
  have i1:=okWithin (n+8) 0 0 2
  have i2:=okWithin (n+8) 0 0 2
  have c1:=okCloneB (n+8) m.bb [r,s,t] (by simp)
  have e1 : clV m.bb 2 ([r,s,t].map enR) = .ref 0 2 0 3:=by cases m.bb <;> rfl
  have e2 : clO 2 ([r,s,t].map enR) = [.arr 2 [enR r,enR s,enR t]]:=rfl
  rw [e1,e2] at c1
  have k1:=okCollect (n+5) m.kd false [r,s,t] 67 [] [.ptr [.int .i64 0],.ptr [.int .i64 0],pIm m] F (by simp) (by simp) N hN hN2 (fun i hi => by
    obtain ⟨x,y,z,k,q1,q2,q3⟩:=hF i hi
    rw [q1]
    exact okTr00_1 (n+3) m x y z (by rw [hb]; simp) (by rw [hb,hs]; exact Nat.le_refl _) k _ q2 q3)
  have w21 : wrp .i64 (3 - 1) = 2:=by decide
  simp only [enIm,hb,go_sem,Nat.reduceAdd,Nat.reduceSub,Nat.reduceMul,Nat.reduceDiv,Nat.reduceMod,Nat.reduceLeDiff,Nat.reduceLT,Nat.reduceBEq,Int.reduceToNat,Int.reduceLT,Int.reduceLE,Int.reduceEq,enB,slD_c,pIm] at h1 k1 c1 i1 i2
  simp only [ge_iff_le,go_sem,Nat.reduceAdd,Nat.reduceSub,Nat.reduceMul,Nat.reduceDiv,Nat.reduceMod,Nat.reduceLeDiff,Nat.reduceLT,Nat.reduceBEq,Int.reduceToNat,Int.reduceLT,Int.reduceLE,Int.reduceEq] at i1 i2
  simp only [enIm,hb,go_sem,Nat.reduceAdd,Nat.reduceSub,Nat.reduceMul,Nat.reduceDiv,Nat.reduceMod,Nat.reduceLeDiff,Nat.reduceLT,Nat.reduceBEq,Int.reduceToNat,Int.reduceLT,Int.reduceLE,Int.reduceEq,h1,f1,w2,i1,i2,c1,w21,ge_iff_le,ne_eq,not_true_eq_false,enB,slD_c,ia_sl,k1,mkIm]
  done
theorem okTr301 (n : Nat) (m : Im) (r s t : Rg) (hb : m.bx = [r,s,t]) (h1 : callP (level E (n+9)) 48 [enIm m] = some (.int .i64 0)) (hs : m.st.length = 3)
    (N : Nat) (F : List Int → Int) (hN : many [s,r,t] = N) (hN2 : N < 1000000) (hF : ∀ i,i < N → ∃ x y z k,plc [s,r,t] i = [x,y,z] ∧ elt m.bx [y,x,z] m.st 0 = (k : Nat) ∧ m.dt[k]? = some (F [x,y,z])) :
    callP (level E (n+10)) 18 [enIm m,.int .i64 0,.int .i64 1] = some (.tup [enIm (mkIm m.kd [s,r,t] N F),.int .i64 0]):=by
  rw [p18]
  have f1:=okFirstL (n+8) [[.int .i64 0],[.int .i64 0],[.int .i64 0]] [0,0,0] rfl (by simp)
  simp only [fnz,if_true] at f1
  have w2:=okWhen (n+8) false 3
  have i1:=okWithin (n+8) 0 0 2
  have i2:=okWithin (n+8) 1 0 2
  have c1:=okCloneB (n+8) m.bb [r,s,t] (by simp)
  have e1 : clV m.bb 2 ([r,s,t].map enR) = .ref 0 2 0 3:=by cases m.bb <;> rfl
  have e2 : clO 2 ([r,s,t].map enR) = [.arr 2 [enR r,enR s,enR t]]:=rfl
  rw [e1,e2] at c1
  have k1:=okCollect (n+5) m.kd false [s,r,t] 67 [] [.ptr [.int .i64 1],.ptr [.int .i64 0],pIm m] F (by simp) (by simp) N hN hN2 (fun i hi => by
    obtain ⟨x,y,z,k,q1,q2,q3⟩:=hF i hi
    rw [q1]
    exact okTr01_1 (n+3) m x y z (by rw [hb]; simp) (by rw [hb,hs]; exact Nat.le_refl _) k _ q2 q3)
  have w21 : wrp .i64 (3 - 1) = 2:=by decide
  simp only [enIm,hb,go_sem,Nat.reduceAdd,Nat.reduceSub,Nat.reduceMul,Nat.reduceDiv,Nat.reduceMod,Nat.reduceLeDiff,Nat.reduceLT,Nat.reduceBEq,Int.reduceToNat,Int.reduceLT,Int.reduceLE,Int.reduceEq,enB,slD_c,pIm] at h1 k1 c1 i1 i2
  simp only [ge_iff_le,go_sem,Nat.reduceAdd,Nat.reduceSub,Nat.reduceMul,Nat.reduceDiv,Nat.reduceMod,Nat.reduceLeDiff,Nat.reduceLT,Nat.reduceBEq,Int.reduceToNat,Int.reduceLT,Int.reduceLE,Int.reduceEq] at i1 i2
  simp only [enIm,hb,go_sem,Nat.reduceAdd,Nat.reduceSub,Nat.reduceMul,Nat.reduceDiv,Nat.reduceMod,Nat.reduceLeDiff,Nat.reduceLT,Nat.reduceBEq,Int.reduceToNat,Int.reduceLT,Int.reduceLE,Int.reduceEq,h1,f1,w2,i1,i2,c1,w21,ge_iff_le,ne_eq,not_true_eq_false,enB,slD_c,ia_sl,k1,mkIm]
  done
theorem okTr302 (n : Nat) (m : Im) (r s t : Rg) (hb : m.bx = [r,s,t]) (h1 : callP (level E (n+9)) 48 [enIm m] = some (.int .i64 0)) (hs : m.st.length = 3)
    (N : Nat) (F : List Int → Int) (hN : many [t,s,r] = N) (hN2 : N < 1000000) (hF : ∀ i,i < N → ∃ x y z k,plc [t,s,r] i = [x,y,z] ∧ elt m.bx [z,y,x] m.st 0 = (k : Nat) ∧ m.dt[k]? = some (F [x,y,z])) :
    callP (level E (n+10)) 18 [enIm m,.int .i64 0,.int .i64 2] = some (.tup [enIm (mkIm m.kd [t,s,r] N F),.int .i64 0]):=by
  rw [p18]
  have f1:=okFirstL (n+8) [[.int .i64 0],[.int .i64 0],[.int .i64 0]] [0,0,0] rfl (by simp)
  simp only [fnz,if_true] at f1
  have w2:=okWhen (n+8) false 3
  have i1:=okWithin (n+8) 0 0 2
  have i2:=okWithin (n+8) 2 0 2
  have c1:=okCloneB (n+8) m.bb [r,s,t] (by simp)
  have e1 : clV m.bb 2 ([r,s,t].map enR) = .ref 0 2 0 3:=by cases m.bb <;> rfl
  have e2 : clO 2 ([r,s,t].map enR) = [.arr 2 [enR r,enR s,enR t]]:=rfl
  rw [e1,e2] at c1
  have k1:=okCollect (n+5) m.kd false [t,s,r] 67 [] [.ptr [.int .i64 2],.ptr [.int .i64 0],pIm m] F (by simp) (by simp) N hN hN2 (fun i hi => by
    obtain ⟨x,y,z,k,q1,q2,q3⟩:=hF i hi
    rw [q1]
    exact okTr02_1 (n+3) m x y z (by rw [hb]; simp) (by rw [hb,hs]; exact Nat.le_refl _) k _ q2 q3)
  have w21 : wrp .i64 (3 - 1) = 2:=by decide
  simp only [enIm,hb,go_sem,Nat.reduceAdd,Nat.reduceSub,Nat.reduceMul,Nat.reduceDiv,Nat.reduceMod,Nat.reduceLeDiff,Nat.reduceLT,Nat.reduceBEq,Int.reduceToNat,Int.reduceLT,Int.reduceLE,Int.reduceEq,enB,slD_c,pIm] at h1 k1 c1 i1 i2
  simp only [ge_iff_le,go_sem,Nat.reduceAdd,Nat.reduceSub,Nat.reduceMul,Nat.reduceDiv,Nat.reduceMod,Nat.reduceLeDiff,Nat.reduceLT,Nat.reduceBEq,Int.reduceToNat,Int.reduceLT,Int.reduceLE,Int.reduceEq] at i1 i2
  simp only [enIm,hb,go_sem,Nat.reduceAdd,Nat.reduceSub,Nat.reduceMul,Nat.reduceDiv,Nat.reduceMod,Nat.reduceLeDiff,Nat.reduceLT,Nat.reduceBEq,Int.reduceToNat,Int.reduceLT,Int.reduceLE,Int.reduceEq,h1,f1,w2,i1,i2,c1,w21,ge_iff_le,ne_eq,not_true_eq_false,enB,slD_c,ia_sl,k1,mkIm]
  done
theorem okTr310 (n : Nat) (m : Im) (r s t : Rg) (hb : m.bx = [r,s,t]) (h1 : callP (level E (n+9)) 48 [enIm m] = some (.int .i64 0)) (hs : m.st.length = 3)
    (N : Nat) (F : List Int → Int) (hN : many [s,r,t] = N) (hN2 : N < 1000000) (hF : ∀ i,i < N → ∃ x y z k,plc [s,r,t] i = [x,y,z] ∧ elt m.bx [y,x,z] m.st 0 = (k : Nat) ∧ m.dt[k]? = some (F [x,y,z])) :
    callP (level E (n+10)) 18 [enIm m,.int .i64 1,.int .i64 0] = some (.tup [enIm (mkIm m.kd [s,r,t] N F),.int .i64 0]):=by
  rw [p18]
  have f1:=okFirstL (n+8) [[.int .i64 0],[.int .i64 0],[.int .i64 0]] [0,0,0] rfl (by simp)
  simp only [fnz,if_true] at f1
  have w2:=okWhen (n+8) false 3
  have i1:=okWithin (n+8) 1 0 2
  have i2:=okWithin (n+8) 0 0 2
  have c1:=okCloneB (n+8) m.bb [r,s,t] (by simp)
  have e1 : clV m.bb 2 ([r,s,t].map enR) = .ref 0 2 0 3:=by cases m.bb <;> rfl
  have e2 : clO 2 ([r,s,t].map enR) = [.arr 2 [enR r,enR s,enR t]]:=rfl
  rw [e1,e2] at c1
  have k1:=okCollect (n+5) m.kd false [s,r,t] 67 [] [.ptr [.int .i64 0],.ptr [.int .i64 1],pIm m] F (by simp) (by simp) N hN hN2 (fun i hi => by
    obtain ⟨x,y,z,k,q1,q2,q3⟩:=hF i hi
    rw [q1]
    exact okTr10_1 (n+3) m x y z (by rw [hb]; simp) (by rw [hb,hs]; exact Nat.le_refl _) k _ q2 q3)
  have w21 : wrp .i64 (3 - 1) = 2:=by decide
  simp only [enIm,hb,go_sem,Nat.reduceAdd,Nat.reduceSub,Nat.reduceMul,Nat.reduceDiv,Nat.reduceMod,Nat.reduceLeDiff,Nat.reduceLT,Nat.reduceBEq,Int.reduceToNat,Int.reduceLT,Int.reduceLE,Int.reduceEq,enB,slD_c,pIm] at h1 k1 c1 i1 i2
  simp only [ge_iff_le,go_sem,Nat.reduceAdd,Nat.reduceSub,Nat.reduceMul,Nat.reduceDiv,Nat.reduceMod,Nat.reduceLeDiff,Nat.reduceLT,Nat.reduceBEq,Int.reduceToNat,Int.reduceLT,Int.reduceLE,Int.reduceEq] at i1 i2
  simp only [enIm,hb,go_sem,Nat.reduceAdd,Nat.reduceSub,Nat.reduceMul,Nat.reduceDiv,Nat.reduceMod,Nat.reduceLeDiff,Nat.reduceLT,Nat.reduceBEq,Int.reduceToNat,Int.reduceLT,Int.reduceLE,Int.reduceEq,h1,f1,w2,i1,i2,c1,w21,ge_iff_le,ne_eq,not_true_eq_false,enB,slD_c,ia_sl,k1,mkIm]
  done
theorem okTr311 (n : Nat) (m : Im) (r s t : Rg) (hb : m.bx = [r,s,t]) (h1 : callP (level E (n+9)) 48 [enIm m] = some (.int .i64 0)) (hs : m.st.length = 3)
    (N : Nat) (F : List Int → Int) (hN : many [r,s,t] = N) (hN2 : N < 1000000) (hF : ∀ i,i < N → ∃ x y z k,plc [r,s,t] i = [x,y,z] ∧ elt m.bx [x,y,z] m.st 0 = (k : Nat) ∧ m.dt[k]? = some (F [x,y,z])) :
    callP (level E (n+10)) 18 [enIm m,.int .i64 1,.int .i64 1] = some (.tup [enIm (mkIm m.kd [r,s,t] N F),.int .i64 0]):=by
  rw [p18]
  have f1:=okFirstL (n+8) [[.int .i64 0],[.int .i64 0],[.int .i64 0]] [0,0,0] rfl (by simp)
  simp only [fnz,if_true] at f1
  have w2:=okWhen (n+8) false 3
  have i1:=okWithin (n+8) 1 0 2
  have i2:=okWithin (n+8) 1 0 2
  have c1:=okCloneB (n+8) m.bb [r,s,t] (by simp)
  have e1 : clV m.bb 2 ([r,s,t].map enR) = .ref 0 2 0 3:=by cases m.bb <;> rfl
  have e2 : clO 2 ([r,s,t].map enR) = [.arr 2 [enR r,enR s,enR t]]:=rfl
  rw [e1,e2] at c1
  have k1:=okCollect (n+5) m.kd false [r,s,t] 67 [] [.ptr [.int .i64 1],.ptr [.int .i64 1],pIm m] F (by simp) (by simp) N hN hN2 (fun i hi => by
    obtain ⟨x,y,z,k,q1,q2,q3⟩:=hF i hi
    rw [q1]
    exact okTr11_1 (n+3) m x y z (by rw [hb]; simp) (by rw [hb,hs]; exact Nat.le_refl _) k _ q2 q3)
  have w21 : wrp .i64 (3 - 1) = 2:=by decide
  simp only [enIm,hb,go_sem,Nat.reduceAdd,Nat.reduceSub,Nat.reduceMul,Nat.reduceDiv,Nat.reduceMod,Nat.reduceLeDiff,Nat.reduceLT,Nat.reduceBEq,Int.reduceToNat,Int.reduceLT,Int.reduceLE,Int.reduceEq,enB,slD_c,pIm] at h1 k1 c1 i1 i2
  simp only [ge_iff_le,go_sem,Nat.reduceAdd,Nat.reduceSub,Nat.reduceMul,Nat.reduceDiv,Nat.reduceMod,Nat.reduceLeDiff,Nat.reduceLT,Nat.reduceBEq,Int.reduceToNat,Int.reduceLT,Int.reduceLE,Int.reduceEq] at i1 i2
  simp only [enIm,hb,go_sem,Nat.reduceAdd,Nat.reduceSub,Nat.reduceMul,Nat.reduceDiv,Nat.reduceMod,Nat.reduceLeDiff,Nat.reduceLT,Nat.reduceBEq,Int.reduceToNat,Int.reduceLT,Int.reduceLE,Int.reduceEq,h1,f1,w2,i1,i2,c1,w21,ge_iff_le,ne_eq,not_true_eq_false,enB,slD_c,ia_sl,k1,mkIm]
  done
theorem okTr312 (n : Nat) (m : Im) (r s t : Rg) (hb : m.bx = [r,s,t]) (h1 : callP (level E (n+9)) 48 [enIm m] = some (.int .i64 0)) (hs : m.st.length = 3)
    (N : Nat) (F : List Int → Int) (hN : many [r,t,s] = N) (hN2 : N < 1000000) (hF : ∀ i,i < N → ∃ x y z k,plc [r,t,s] i = [x,y,z] ∧ elt m.bx [x,z,y] m.st 0 = (k : Nat) ∧ m.dt[k]? = some (F [x,y,z])) :
    callP (level E (n+10)) 18 [enIm m,.int .i64 1,.int .i64 2] = some (.tup [enIm (mkIm m.kd [r,t,s] N F),.int .i64 0]):=by
  rw [p18]
  have f1:=okFirstL (n+8) [[.int .i64 0],[.int .i64 0],[.int .i64 0]] [0,0,0] rfl (by simp)
  simp only [fnz,if_true] at f1
  have w2:=okWhen (n+8) false 3
  have i1:=okWithin (n+8) 1 0 2
  have i2:=okWithin (n+8) 2 0 2
  have c1:=okCloneB (n+8) m.bb [r,s,t] (by simp)
  have e1 : clV m.bb 2 ([r,s,t].map enR) = .ref 0 2 0 3:=by cases m.bb <;> rfl
  have e2 : clO 2 ([r,s,t].map enR) = [.arr 2 [enR r,enR s,enR t]]:=rfl
  rw [e1,e2] at c1
  have k1:=okCollect (n+5) m.kd false [r,t,s] 67 [] [.ptr [.int .i64 2],.ptr [.int .i64 1],pIm m] F (by simp) (by simp) N hN hN2 (fun i hi => by
    obtain ⟨x,y,z,k,q1,q2,q3⟩:=hF i hi
    rw [q1]
    exact okTr12_1 (n+3) m x y z (by rw [hb]; simp) (by rw [hb,hs]; exact Nat.le_refl _) k _ q2 q3)
  have w21 : wrp .i64 (3 - 1) = 2:=by decide
  simp only [enIm,hb,go_sem,Nat.reduceAdd,Nat.reduceSub,Nat.reduceMul,Nat.reduceDiv,Nat.reduceMod,Nat.reduceLeDiff,Nat.reduceLT,Nat.reduceBEq,Int.reduceToNat,Int.reduceLT,Int.reduceLE,Int.reduceEq,enB,slD_c,pIm] at h1 k1 c1 i1 i2
  simp only [ge_iff_le,go_sem,Nat.reduceAdd,Nat.reduceSub,Nat.reduceMul,Nat.reduceDiv,Nat.reduceMod,Nat.reduceLeDiff,Nat.reduceLT,Nat.reduceBEq,Int.reduceToNat,Int.reduceLT,Int.reduceLE,Int.reduceEq] at i1 i2
  simp only [enIm,hb,go_sem,Nat.reduceAdd,Nat.reduceSub,Nat.reduceMul,Nat.reduceDiv,Nat.reduceMod,Nat.reduceLeDiff,Nat.reduceLT,Nat.reduceBEq,Int.reduceToNat,Int.reduceLT,Int.reduceLE,Int.reduceEq,h1,f1,w2,i1,i2,c1,w21,ge_iff_le,ne_eq,not_true_eq_false,enB,slD_c,ia_sl,k1,mkIm]
  done
theorem okTr320 (n : Nat) (m : Im) (r s t : Rg) (hb : m.bx = [r,s,t]) (h1 : callP (level E (n+9)) 48 [enIm m] = some (.int .i64 0)) (hs : m.st.length = 3)
    (N : Nat) (F : List Int → Int) (hN : many [t,s,r] = N) (hN2 : N < 1000000) (hF : ∀ i,i < N → ∃ x y z k,plc [t,s,r] i = [x,y,z] ∧ elt m.bx [z,y,x] m.st 0 = (k : Nat) ∧ m.dt[k]? = some (F [x,y,z])) :
    callP (level E (n+10)) 18 [enIm m,.int .i64 2,.int .i64 0] = some (.tup [enIm (mkIm m.kd [t,s,r] N F),.int .i64 0]):=by
  rw [p18]
  have f1:=okFirstL (n+8) [[.int .i64 0],[.int .i64 0],[.int .i64 0]] [0,0,0] rfl (by simp)
  simp only [fnz,if_true] at f1
  have w2:=okWhen (n+8) false 3
  have i1:=okWithin (n+8) 2 0 2
  have i2:=okWithin (n+8) 0 0 2
  have c1:=okCloneB (n+8) m.bb [r,s,t] (by simp)
  have e1 : clV m.bb 2 ([r,s,t].map enR) = .ref 0 2 0 3:=by cases m.bb <;> rfl
  have e2 : clO 2 ([r,s,t].map enR) = [.arr 2 [enR r,enR s,enR t]]:=rfl
  rw [e1,e2] at c1
  have k1:=okCollect (n+5) m.kd false [t,s,r] 67 [] [.ptr [.int .i64 0],.ptr [.int .i64 2],pIm m] F (by simp) (by simp) N hN hN2 (fun i hi => by
    obtain ⟨x,y,z,k,q1,q2,q3⟩:=hF i hi
    rw [q1]
    exact okTr20_1 (n+3) m x y z (by rw [hb]; simp) (by rw [hb,hs]; exact Nat.le_refl _) k _ q2 q3)
  have w21 : wrp .i64 (3 - 1) = 2:=by decide
  simp only [enIm,hb,go_sem,Nat.reduceAdd,Nat.reduceSub,Nat.reduceMul,Nat.reduceDiv,Nat.reduceMod,Nat.reduceLeDiff,Nat.reduceLT,Nat.reduceBEq,Int.reduceToNat,Int.reduceLT,Int.reduceLE,Int.reduceEq,enB,slD_c,pIm] at h1 k1 c1 i1 i2
  simp only [ge_iff_le,go_sem,Nat.reduceAdd,Nat.reduceSub,Nat.reduceMul,Nat.reduceDiv,Nat.reduceMod,Nat.reduceLeDiff,Nat.reduceLT,Nat.reduceBEq,Int.reduceToNat,Int.reduceLT,Int.reduceLE,Int.reduceEq] at i1 i2
  simp only [enIm,hb,go_sem,Nat.reduceAdd,Nat.reduceSub,Nat.reduceMul,Nat.reduceDiv,Nat.reduceMod,Nat.reduceLeDiff,Nat.reduceLT,Nat.reduceBEq,Int.reduceToNat,Int.reduceLT,Int.reduceLE,Int.reduceEq,h1,f1,w2,i1,i2,c1,w21,ge_iff_le,ne_eq,not_true_eq_false,enB,slD_c,ia_sl,k1,mkIm]
  done
theorem okTr321 (n : Nat) (m : Im) (r s t : Rg) (hb : m.bx = [r,s,t]) (h1 : callP (level E (n+9)) 48 [enIm m] = some (.int .i64 0)) (hs : m.st.length = 3)
    (N : Nat) (F : List Int → Int) (hN : many [r,t,s] = N) (hN2 : N < 1000000) (hF : ∀ i,i < N → ∃ x y z k,plc [r,t,s] i = [x,y,z] ∧ elt m.bx [x,z,y] m.st 0 = (k : Nat) ∧ m.dt[k]? = some (F [x,y,z])) :
    callP (level E (n+10)) 18 [enIm m,.int .i64 2,.int .i64 1] = some (.tup [enIm (mkIm m.kd [r,t,s] N F),.int .i64 0]):=by
  rw [p18]
  have f1:=okFirstL (n+8) [[.int .i64 0],[.int .i64 0],[.int .i64 0]] [0,0,0] rfl (by simp)
  simp only [fnz,if_true] at f1
  have w2:=okWhen (n+8) false 3
  have i1:=okWithin (n+8) 2 0 2
  have i2:=okWithin (n+8) 1 0 2
  have c1:=okCloneB (n+8) m.bb [r,s,t] (by simp)
  have e1 : clV m.bb 2 ([r,s,t].map enR) = .ref 0 2 0 3:=by cases m.bb <;> rfl
  have e2 : clO 2 ([r,s,t].map enR) = [.arr 2 [enR r,enR s,enR t]]:=rfl
  rw [e1,e2] at c1
  have k1:=okCollect (n+5) m.kd false [r,t,s] 67 [] [.ptr [.int .i64 1],.ptr [.int .i64 2],pIm m] F (by simp) (by simp) N hN hN2 (fun i hi => by
    obtain ⟨x,y,z,k,q1,q2,q3⟩:=hF i hi
    rw [q1]
    exact okTr21_1 (n+3) m x y z (by rw [hb]; simp) (by rw [hb,hs]; exact Nat.le_refl _) k _ q2 q3)
  have w21 : wrp .i64 (3 - 1) = 2:=by decide
  simp only [enIm,hb,go_sem,Nat.reduceAdd,Nat.reduceSub,Nat.reduceMul,Nat.reduceDiv,Nat.reduceMod,Nat.reduceLeDiff,Nat.reduceLT,Nat.reduceBEq,Int.reduceToNat,Int.reduceLT,Int.reduceLE,Int.reduceEq,enB,slD_c,pIm] at h1 k1 c1 i1 i2
  simp only [ge_iff_le,go_sem,Nat.reduceAdd,Nat.reduceSub,Nat.reduceMul,Nat.reduceDiv,Nat.reduceMod,Nat.reduceLeDiff,Nat.reduceLT,Nat.reduceBEq,Int.reduceToNat,Int.reduceLT,Int.reduceLE,Int.reduceEq] at i1 i2
  simp only [enIm,hb,go_sem,Nat.reduceAdd,Nat.reduceSub,Nat.reduceMul,Nat.reduceDiv,Nat.reduceMod,Nat.reduceLeDiff,Nat.reduceLT,Nat.reduceBEq,Int.reduceToNat,Int.reduceLT,Int.reduceLE,Int.reduceEq,h1,f1,w2,i1,i2,c1,w21,ge_iff_le,ne_eq,not_true_eq_false,enB,slD_c,ia_sl,k1,mkIm]
  done
theorem okTr322 (n : Nat) (m : Im) (r s t : Rg) (hb : m.bx = [r,s,t]) (h1 : callP (level E (n+9)) 48 [enIm m] = some (.int .i64 0)) (hs : m.st.length = 3)
    (N : Nat) (F : List Int → Int) (hN : many [r,s,t] = N) (hN2 : N < 1000000) (hF : ∀ i,i < N → ∃ x y z k,plc [r,s,t] i = [x,y,z] ∧ elt m.bx [x,y,z] m.st 0 = (k : Nat) ∧ m.dt[k]? = some (F [x,y,z])) :
    callP (level E (n+10)) 18 [enIm m,.int .i64 2,.int .i64 2] = some (.tup [enIm (mkIm m.kd [r,s,t] N F),.int .i64 0]):=by
  rw [p18]
  have f1:=okFirstL (n+8) [[.int .i64 0],[.int .i64 0],[.int .i64 0]] [0,0,0] rfl (by simp)
  simp only [fnz,if_true] at f1
  have w2:=okWhen (n+8) false 3
  have i1:=okWithin (n+8) 2 0 2
  have i2:=okWithin (n+8) 2 0 2
  have c1:=okCloneB (n+8) m.bb [r,s,t] (by simp)
  have e1 : clV m.bb 2 ([r,s,t].map enR) = .ref 0 2 0 3:=by cases m.bb <;> rfl
  have e2 : clO 2 ([r,s,t].map enR) = [.arr 2 [enR r,enR s,enR t]]:=rfl
  rw [e1,e2] at c1
  have k1:=okCollect (n+5) m.kd false [r,s,t] 67 [] [.ptr [.int .i64 2],.ptr [.int .i64 2],pIm m] F (by simp) (by simp) N hN hN2 (fun i hi => by
    obtain ⟨x,y,z,k,q1,q2,q3⟩:=hF i hi
    rw [q1]
    exact okTr22_1 (n+3) m x y z (by rw [hb]; simp) (by rw [hb,hs]; exact Nat.le_refl _) k _ q2 q3)
  have w21 : wrp .i64 (3 - 1) = 2:=by decide
  simp only [enIm,hb,go_sem,Nat.reduceAdd,Nat.reduceSub,Nat.reduceMul,Nat.reduceDiv,Nat.reduceMod,Nat.reduceLeDiff,Nat.reduceLT,Nat.reduceBEq,Int.reduceToNat,Int.reduceLT,Int.reduceLE,Int.reduceEq,enB,slD_c,pIm] at h1 k1 c1 i1 i2
  simp only [ge_iff_le,go_sem,Nat.reduceAdd,Nat.reduceSub,Nat.reduceMul,Nat.reduceDiv,Nat.reduceMod,Nat.reduceLeDiff,Nat.reduceLT,Nat.reduceBEq,Int.reduceToNat,Int.reduceLT,Int.reduceLE,Int.reduceEq] at i1 i2
  simp only [enIm,hb,go_sem,Nat.reduceAdd,Nat.reduceSub,Nat.reduceMul,Nat.reduceDiv,Nat.reduceMod,Nat.reduceLeDiff,Nat.reduceLT,Nat.reduceBEq,Int.reduceToNat,Int.reduceLT,Int.reduceLE,Int.reduceEq,h1,f1,w2,i1,i2,c1,w21,ge_iff_le,ne_eq,not_true_eq_false,enB,slD_c,ia_sl,k1,mkIm]
  done
end Go.Vm.P4D

/- Chapter 04,functions: Slice and Transpose,in one. -/
set_option maxRecDepth 100000
set_option maxHeartbeats 8000000
namespace Go.Vm.P4D
open Go Go.Vm Go.Vm.P4
def ckT1 (m : Im) (a b : Int) : Int:=fnz [ckI m,if 0 ≤ a ∧ a ≤ (m.bx.length : Int) - 1 then 0 else 3,if 0 ≤ b ∧ b ≤ (m.bx.length : Int) - 1 then 0 else 3]
def transR (m : Im) (a b : Int) : Im × Int :=
  if ckT1 m a b = 0 then (dnI m.kd false (swp m.bx a.toNat b.toNat) (many (swp m.bx a.toNat b.toNat)).toNat (fun p => atI m (swp p a.toNat b.toNat)),0) else (im0,ckT1 m a b)
theorem okTransF (n : Nat) (m : Im) (a b : Int) (hx : m.bx.length < 1000000) (hs : m.st.length < 1000000) (hd : m.dt.length < 1000000) (hv : Ok64 m.dt) (e1 : ckT1 m a b ≠ 0) :
    callP (level E (n+10)) 18 [enIm m,.int .i64 a,.int .i64 b] = some (.tup [enIm im0,.int .i64 (ckT1 m a b)]):=by
  have c1:=okCheckI n m hx hs hd hv
  have f1 : callP (level E (n+9)) 55 [.sl 1 [[.int .i64 (ckI m)],[.int .i64 (if 0 ≤ a ∧ a ≤ (m.bx.length : Int) - 1 then 0 else 3)],[.int .i64 (if 0 ≤ b ∧ b ≤ (m.bx.length : Int) - 1 then 0 else 3)]]] = some (.int .i64 (ckT1 m a b)):=okFirstL (n+8) _ [ckI m,if 0 ≤ a ∧ a ≤ (m.bx.length : Int) - 1 then 0 else 3,if 0 ≤ b ∧ b ≤ (m.bx.length : Int) - 1 then 0 else 3] rfl (by simp)
  have wl : wrp .i64 ((m.bx.length : Int) - 1) = (m.bx.length : Int) - 1:=wrp_ok (by omega)
  have hw : ∀ dim : Int,∃ b : Bool,callP (level E (n+9)) 57 [.int .i64 dim,.int .i64 0,.int .i64 ((m.bx.length : Int) - 1)] = some (.bool b) ∧ callP (level E (n+9)) 54 [.bool (!b),.int .i64 3] = some (.int .i64 (if 0 ≤ dim ∧ dim ≤ (m.bx.length : Int) - 1 then 0 else 3)):=by
    intro dim
    refine ⟨_,okWithin (n+8) dim 0 _,?_⟩
    rw [okWhen (n+8)]
    by_cases h : 0 ≤ dim <;> by_cases h' : dim ≤ (m.bx.length : Int) - 1 <;> simp [h,h']
  obtain ⟨ba,ia,wa⟩:=hw a
  obtain ⟨bb,ib,wb⟩:=hw b
  obtain ⟨xa,hxa⟩ : ∃ x : Int,x = (if 0 ≤ a ∧ a ≤ (m.bx.length : Int) - 1 then 0 else 3):=⟨_,rfl⟩
  obtain ⟨xb,hxb⟩ : ∃ x : Int,x = (if 0 ≤ b ∧ b ≤ (m.bx.length : Int) - 1 then 0 else 3):=⟨_,rfl⟩
  rw [← hxa,← hxb] at f1
  rw [← hxa] at wa
  rw [← hxb] at wb
  rw [p18]
  simp only [enIm,im0] at c1 ⊢
  simp only [go_sem,simprocAttr,c1,wl,ia,wa,ib,wb,f1,e1,ne_eq,not_false_eq_true]
  rfl
theorem okTransG (n : Nat) (m : Im) (a b : Int) (hx : m.bx.length < 1000000) (hs : m.st.length < 1000000) (hd : m.dt.length < 1000000) (hv : Ok64 m.dt) :
    callP (level E (n+10)) 18 [enIm m,.int .i64 a,.int .i64 b] = some (.tup [enIm (transR m a b).1,.int .i64 (transR m a b).2]):=by
  unfold transR
  by_cases e1 : ckT1 m a b = 0
  · have g1:=fz0 _ e1 (ckI m) (by simp)
    have g2:=fz0 _ e1 (if 0 ≤ a ∧ a ≤ (m.bx.length : Int) - 1 then 0 else 3) (by simp)
    have g3:=fz0 _ e1 (if 0 ≤ b ∧ b ≤ (m.bx.length : Int) - 1 then 0 else 3) (by simp)
    have g2 : 0 ≤ a ∧ a ≤ (m.bx.length : Int) - 1:=by split at g2; assumption; omega
    have g3 : 0 ≤ b ∧ b ≤ (m.bx.length : Int) - 1:=by split at g3; assumption; omega
    obtain ⟨M,G⟩:=good_of g1
    have c1:=okCheckI n m hx hs hd hv
    rw [g1] at c1
    obtain ⟨u,rfl⟩ : ∃ d : Nat,a = d:=⟨a.toNat,by omega⟩
    obtain ⟨v,rfl⟩ : ∃ d : Nat,b = d:=⟨b.toNat,by omega⟩
    rw [if_pos e1,Int.toNat_natCast,Int.toNat_natCast]
    have l1:=G.len1
    have l3:=G.len3
    have ok:=G.okr
    have sl:=G.stl
    have ok2:=swp_okr ok u v
    obtain ⟨N,hN,hN2⟩ : ∃ N : Nat,many (swp m.bx u v) = N ∧ N < 1000000:=by
      obtain ⟨h1,h2⟩:=many_nn (by rw [swp_len]; exact l3) ok2
      exact ⟨(many (swp m.bx u v)).toNat,by omega,by omega⟩
    have hNt : (many (swp m.bx u v)).toNat = N:=by omega
    have key : ∀ i,i < N → plc (swp m.bx u v) i = digits (swp m.bx u v) i ++ List.replicate (3 - m.bx.length) 0 ∧
        ∃ k : Nat,elt m.bx (swp (digits (swp m.bx u v) i) u v ++ List.replicate (3 - m.bx.length) 0) m.st 0 = k ∧ k < m.dt.length ∧ m.dt[k]? = some (atI m (swp (digits (swp m.bx u v) i) u v)):=by
      intro i hi
      have hx':=ex_pos ok2 (by omega)
      have e2:=plc_dig _ ok2 (by rw [swp_len]; exact l3) hx' i
      rw [swp_len] at e2
      exact ⟨e2,G.atP (q:=List.replicate (3 - m.bx.length) 0) (swp_in (by omega) (by omega) (digits_in _ i hx'))⟩
    rw [hNt,← mk_dn m.kd (swp m.bx u v) N (fun p => atI m (swp p u v)) ok2 (by rw [swp_len]; exact l3) hN]
    match hb : m.bx,l1,l3,g2,g3 with
    | [],l1,_,_,_ => simp at l1
    | [r],_,_,g2,g3 =>
      rw [hb] at key sl hN
      match u,v,g2,g3 with
      | 0,0,_,_ =>
        exact okTr100 n m r hb c1 sl N _ hN hN2 (fun i hi => by
          obtain ⟨q1,k,q2,_,q3⟩:=key i hi
          exact ⟨_,_,_,k,q1,by rw [hb]; exact q2,q3⟩)
      | k + 1,_,g2,_ => exfalso; have:=g2.2; simp at this; omega
      | _,k + 1,_,g3 => exfalso; have:=g3.2; simp at this; omega
    | [r,s],_,_,g2,g3 =>
      rw [hb] at key sl hN
      match u,v,g2,g3 with
      | 0,0,_,_ =>
        exact okTr200 n m r s hb c1 sl N _ hN hN2 (fun i hi => by
          obtain ⟨q1,k,q2,_,q3⟩:=key i hi
          exact ⟨_,_,_,k,q1,by rw [hb]; exact q2,q3⟩)
      | 0,1,_,_ =>
        exact okTr201 n m r s hb c1 sl N _ hN hN2 (fun i hi => by
          obtain ⟨q1,k,q2,_,q3⟩:=key i hi
          exact ⟨_,_,_,k,q1,by rw [hb]; exact q2,q3⟩)
      | 1,0,_,_ =>
        exact okTr210 n m r s hb c1 sl N _ hN hN2 (fun i hi => by
          obtain ⟨q1,k,q2,_,q3⟩:=key i hi
          exact ⟨_,_,_,k,q1,by rw [hb]; exact q2,q3⟩)
      | 1,1,_,_ =>
        exact okTr211 n m r s hb c1 sl N _ hN hN2 (fun i hi => by
          obtain ⟨q1,k,q2,_,q3⟩:=key i hi
          exact ⟨_,_,_,k,q1,by rw [hb]; exact q2,q3⟩)
      | k + 2,_,g2,_ => exfalso; have:=g2.2; simp at this; omega
      | _,k + 2,_,g3 => exfalso; have:=g3.2; simp at this; omega
    | [r,s,t],_,_,g2,g3 =>
      rw [hb] at key sl hN
      match u,v,g2,g3 with
      | 0,0,_,_ =>
        exact okTr300 n m r s t hb c1 sl N _ hN hN2 (fun i hi => by
          obtain ⟨q1,k,q2,_,q3⟩:=key i hi
          exact ⟨_,_,_,k,q1,by rw [hb]; exact q2,q3⟩)
      | 0,1,_,_ =>
        exact okTr301 n m r s t hb c1 sl N _ hN hN2 (fun i hi => by
          obtain ⟨q1,k,q2,_,q3⟩:=key i hi
          exact ⟨_,_,_,k,q1,by rw [hb]; exact q2,q3⟩)
      | 0,2,_,_ =>
        exact okTr302 n m r s t hb c1 sl N _ hN hN2 (fun i hi => by
          obtain ⟨q1,k,q2,_,q3⟩:=key i hi
          exact ⟨_,_,_,k,q1,by rw [hb]; exact q2,q3⟩)
      | 1,0,_,_ =>
        exact okTr310 n m r s t hb c1 sl N _ hN hN2 (fun i hi => by
          obtain ⟨q1,k,q2,_,q3⟩:=key i hi
          exact ⟨_,_,_,k,q1,by rw [hb]; exact q2,q3⟩)
      | 1,1,_,_ =>
        exact okTr311 n m r s t hb c1 sl N _ hN hN2 (fun i hi => by
          obtain ⟨q1,k,q2,_,q3⟩:=key i hi
          exact ⟨_,_,_,k,q1,by rw [hb]; exact q2,q3⟩)
      | 1,2,_,_ =>
        exact okTr312 n m r s t hb c1 sl N _ hN hN2 (fun i hi => by
          obtain ⟨q1,k,q2,_,q3⟩:=key i hi
          exact ⟨_,_,_,k,q1,by rw [hb]; exact q2,q3⟩)
      | 2,0,_,_ =>
        exact okTr320 n m r s t hb c1 sl N _ hN hN2 (fun i hi => by
          obtain ⟨q1,k,q2,_,q3⟩:=key i hi
          exact ⟨_,_,_,k,q1,by rw [hb]; exact q2,q3⟩)
      | 2,1,_,_ =>
        exact okTr321 n m r s t hb c1 sl N _ hN hN2 (fun i hi => by
          obtain ⟨q1,k,q2,_,q3⟩:=key i hi
          exact ⟨_,_,_,k,q1,by rw [hb]; exact q2,q3⟩)
      | 2,2,_,_ =>
        exact okTr322 n m r s t hb c1 sl N _ hN hN2 (fun i hi => by
          obtain ⟨q1,k,q2,_,q3⟩:=key i hi
          exact ⟨_,_,_,k,q1,by rw [hb]; exact q2,q3⟩)
      | k + 3,_,g2,_ => exfalso; have:=g2.2; simp at this; omega
      | _,k + 3,_,g3 => exfalso; have:=g3.2; simp at this; omega
    | _ :: _ :: _ :: _ :: _,_,l3,_,_ => simp at l3
  · rw [if_neg e1]
    exact okTransF n m a b hx hs hd hv e1
end Go.Vm.P4D

/- Chapter 04,functions: the reference's Edge. -/
set_option maxRecDepth 100000
set_option maxHeartbeats 4000000
namespace Go.Vm.P4D
open Go Go.Vm Go.Vm.P4
end Go.Vm.P4D

/- Chapter 04,functions: the reference's parts of images. -/
set_option maxRecDepth 100000
set_option maxHeartbeats 4000000
namespace Go.Vm.P4D
open Go Go.Vm Go.Vm.P4
abbrev boxI (m : Im) : AO:=.box [.imm (.int .i64 m.kd),.imm (enB m.bb m.bx),.imm (slD m.tb 1 (m.st.map ic)),.imm (slD m.db 1 (m.dt.map ub))]
abbrev boxZ : AO:=.box [.imm (.int .i64 0),.imm .nil,.imm .nil,.imm .nil]
theorem flatB (b : Bool) {l : Bx} (h : l ≠ []) : flatD (enB b l) = false:=by
  rcases l with _ | ⟨r,l⟩
  · exact absurd rfl h
  · cases b <;> rfl
end Go.Vm.P4D

/- Chapter 04,functions: the reference's Slice and Transpose. -/
set_option maxRecDepth 100000
set_option maxHeartbeats 8000000
namespace Go.Vm.P4D
open Go Go.Vm Go.Vm.P4
end Go.Vm.P4D

/- Chapter 04,functions: the reference's Transpose. -/
set_option maxRecDepth 100000
set_option maxHeartbeats 8000000
namespace Go.Vm.P4D
open Go Go.Vm Go.Vm.P4
theorem slD_f {sz : Nat} {es : List (List D)} : slD false sz es = .sl sz es:=by cases es <;> rfl
end Go.Vm.P4D

/- Chapter 04,plain law: what the parts of an image answer,with the reference's errors. -/
set_option maxRecDepth 100000
set_option maxHeartbeats 1000000
namespace Go.Vm.P4D
open Go Go.Vm Go.Vm.P4
def Alike (m o : Im) : Prop:=o.kd = m.kd ∧ o.bx = m.bx ∧ o.st = m.st ∧ o.dt = m.dt ∧ m.bx.length < 1000000 ∧ m.st.length < 1000000 ∧ m.dt.length < 1000000
end Go.Vm.P4D

/- Chapter 04: the law ImageEdges,given the examples. -/
set_option maxRecDepth 100000
set_option maxHeartbeats 4000000
namespace Go.Vm.P4D
open Go Go.Vm Go.Vm.P4
theorem aEqV (k v : Int) : aEq (.agg [(0,.int),(1,.int)]) (.imm (.agg [.int .i64 k,.int .u64 v])) (.imm (.agg [.int .i64 k,.int .u64 v])) = some true:=by
  simp [aEq,eqL,eqE,intEq]
theorem shortI_len {m : Im} (h : shortI m = true) : m.bx.length ≤ 4 ∧ m.st.length ≤ 5 ∧ m.dt.length ≤ 200:=by
  simp [shortI] at h
  omega
theorem ckPts_own (m : Im) : ∀ (l : List Nat) (T : List Int),ckPts m.own T l = ckPts m T l
  | [],_ => rfl
  | i :: l,T => by
    unfold ckPts
    rw [ckPts_own m l]
    rfl
theorem ckI_own (m : Im) : ckI m.own = ckI m:=by
  unfold ckI ckIm
  rw [ckPts_own]
  rfl
end Go.Vm.P4D

/- Chapter 04: the law ImageParts,given the examples (printed by gen4p.py). -/
set_option maxRecDepth 100000
set_option maxHeartbeats 8000000
namespace Go.Vm.P4D
open Go Go.Vm Go.Vm.P4
theorem seq_step {lo : Lower} {cx : Cx} {a b : IR} {s s' : S} (h : aCode lo cx a s = some (.normal,s')) : aCode lo cx (.seq a b) s = aCode lo cx b s':=by rw [ac_seq,h]; rfl
theorem okAlike (n : Nat) {m o : Im} (h : Alike m o) : callP (level E (n+2)) 16 [enIm m,enIm o] = some (.bool true):=by
  obtain ⟨h1,h2,h3,h4,h5,h6,h7⟩:=h
  exact okSameImage n m o h1 h2 h3 h4 h5 h6 h7
end Go.Vm.P4D

/- Chapter 04,plain: dense images are right ones. -/
set_option maxRecDepth 100000
set_option maxHeartbeats 1000000
namespace Go.Vm.P4D
open Go Go.Vm Go.Vm.P4
theorem ckPts_id (m : Im) : ∀ (r : List Nat) (T : List Int),(∀ i ∈ r,elAt m i = i ∧ (i : Int) < m.dt.length ∧ (i : Int) ∉ T) → r.Nodup → ckPts m T r = 0
  | [],_,_,_ => rfl
  | i :: r,T,h,hn => by
    obtain ⟨h1,h2,h3⟩:=h i (by simp)
    rw [ckPts,h1,if_neg (by omega),if_neg h3]
    rw [List.nodup_cons] at hn
    refine ckPts_id m r (T ++ [(i : Int)]) (fun j hj => ?_) hn.2
    obtain ⟨k1,k2,k3⟩:=h j (List.mem_cons_of_mem _ hj)
    refine ⟨k1,k2,?_⟩
    rw [List.mem_append]
    rintro (hc | hc)
    · exact k3 hc
    · simp only [List.mem_singleton,Int.natCast_inj] at hc
      subst hc
      exact hn.1 hj
theorem strides_ok {l : Bx} (h : Okr l) (h3 : l.length ≤ 3) : ∀ x ∈ strides 1 l,0 ≤ x ∧ x ≤ 4096:=by
  rcases l with _ | ⟨r,_ | ⟨s,_ | ⟨t,_ | ⟨u,l⟩⟩⟩⟩
  · intro x hx; cases hx
  · intro x hx
    simp only [strides,List.mem_singleton] at hx
    subst hx; decide
  · have hr:=ckRange0 (h r (by simp))
    have e1 : ml 1 r.ex = r.ex:=by rw [ml,Int.one_mul]; exact wrp_ok (by omega)
    intro x hx
    simp only [strides,e1,List.mem_cons,List.not_mem_nil,or_false] at hx
    rcases hx with rfl | rfl <;> omega
  · have hr:=ckRange0 (h r (by simp))
    have hs:=ckRange0 (h s (by simp))
    have e1 : ml 1 r.ex = r.ex:=by rw [ml,Int.one_mul]; exact wrp_ok (by omega)
    have m1 : r.ex * s.ex ≤ 64 * s.ex:=Int.mul_le_mul_of_nonneg_right (by omega) (by omega)
    have m0 : 0 ≤ r.ex * s.ex:=Int.mul_nonneg (by omega) (by omega)
    have e2 : ml r.ex s.ex = r.ex * s.ex:=wrp_ok (by omega)
    intro x hx
    simp only [strides,e1,e2,List.mem_cons,List.not_mem_nil,or_false] at hx
    rcases hx with rfl | rfl | rfl <;> omega
  · simp at h3
theorem elt_dn {l : Bx} (h : Okr l) (h3 : l.length ≤ 3) (N : Nat) (hN : many l = N) (i : Nat) (hi : i < N) : elt l (digits l i) (strides 1 l) 0 = i ∧ elt l (plc l i) (strides 1 l) 0 = i:=by
  have hx:=ex_pos h (by omega : many l ≠ 0)
  have e:=elt_digits l h h3 N hN i hi
  have hl : (digits l (i : Int)).length = l.length:=digits_len l i
  rw [pad3 _ (by omega)] at e
  have e2:=plc_dig l h h3 hx i
  rw [hl] at e
  refine ⟨?_,by rw [e2]; exact e⟩
  rw [elt_app _ _ _ _ _ (by omega) (by rw [strides_len]; omega)] at e
  exact e
def ValOk (k v : Int) : Prop:=(0 ≤ v ∧ v < 18446744073709551616) ∧ ckVal k v = 0
theorem dn_good {kd : Int} {l : Bx} (hk : ckKind kd = 0) (hb : ckBox l = 0) (N : Nat) (hN : many l = N) (F : List Int → Int) (b : Bool) (hF : ∀ i : Nat,i < N → ValOk kd (F (digits l i))) :
    ckI (dnI kd b l N F) = 0 ∧ Ok64 (dnI kd b l N F).dt ∧ ∀ q,InB l q → atI (dnI kd b l N F) q = F q:=by
  obtain ⟨a1,a2,a3,a4⟩:=ckBox0 hb
  have hlen : (dnI kd b l N F).dt.length = N:=by simp [dnI]
  have hs:=strides_ok a3 a2
  have hA : ckA (dnI kd b l N F) = 0:=by
    unfold ckA
    show fnz [ckKind kd,ckBox l,if (strides 1 l).length = l.length then 0 else 2] = 0
    rw [hk,hb,if_pos (strides_len 1 l)]
    rfl
  have hB : ckB (dnI kd b l N F) = 0:=by
    unfold ckB
    have e1 : ((dnI kd b l N F).st.any fun x => !(decide (x ≥ 0) && decide (x ≤ 4096))) = false:=by
      rw [List.any_eq_false]
      intro x hx
      have:=hs x hx
      simp [this.1,this.2]
    rw [e1,hlen,if_neg (show ¬ 4096 < N by omega)]
    rfl
  have hD : fnz ((dnI kd b l N F).dt.map (ckB1 kd)) = 0:=fnz_all _ fun x hx => by
    obtain ⟨v,hv,rfl⟩:=List.mem_map.1 hx
    obtain ⟨i,hi,rfl⟩:=List.mem_map.1 hv
    rw [List.mem_range] at hi
    unfold ckB1
    rw [if_pos (hF i hi).2]
  have hP : ckPts (dnI kd b l N F) [] (List.range (many l).toNat) = 0:=by
    refine ckPts_id _ _ _ (fun i hi => ?_) List.nodup_range
    rw [List.mem_range] at hi
    refine ⟨(elt_dn a3 a2 N hN i (by omega)).2,by rw [hlen]; omega,by simp⟩
  refine ⟨?_,?_,?_⟩
  · unfold ckI ckIm
    have hD' : fnz ((dnI kd b l N F).dt.map (ckB1 (dnI kd b l N F).kd)) = 0:=hD
    rw [if_pos hA,if_pos hB,if_pos hD']
    exact hP
  · intro v hv
    obtain ⟨i,hi,rfl⟩:=List.mem_map.1 hv
    rw [List.mem_range] at hi
    exact (hF i hi).1
  · intro q hq
    obtain ⟨i,hi,rfl⟩:=in_num a3 a2 N hN hq
    unfold atI
    show ((dnI kd b l N F).dt[(elt l (digits l i) (strides 1 l) 0).toNat]?).getD 0 = _
    rw [(elt_dn a3 a2 N hN i hi).1,Int.toNat_natCast]
    show (((List.range N).map fun i => F (digits l (i : Nat)))[i]?).getD 0 = _
    rw [List.getElem?_map,List.getElem?_range hi]
    rfl
theorem good_val {m : Im} {N : Nat} (G : Good m N) (hv : Ok64 m.dt) {q : List Int} (hq : InB m.bx q) : ValOk m.kd (atI m q):=by
  obtain ⟨k,k1,k2,k3⟩:=G.at hq
  have hm:=List.mem_of_getElem? k3
  refine ⟨hv _ hm,?_⟩
  have:=fz0 _ G.dt (ckB1 m.kd (atI m q)) (List.mem_map.2 ⟨_,hm,rfl⟩)
  unfold ckB1 at this
  split at this
  · assumption
  · cases this
theorem dense_good {m : Im} {N : Nat} (G : Good m N) (hv : Ok64 m.dt) (b : Bool) : ckI (dnI m.kd b m.bx N (atI m)) = 0 ∧ Ok64 (dnI m.kd b m.bx N (atI m)).dt ∧ ∀ q,InB m.bx q → atI (dnI m.kd b m.bx N (atI m)) q = atI m q :=
  dn_good G.kd G.bx N G.many (atI m) b (fun i hi => good_val G hv (has_dig G.bx N G.many i hi).1)
theorem rmeet_self {r : Rg} (h : ckRange r = 0) : rmeet r r = r:=by
  obtain ⟨e1,e2,_⟩:=rmeet_ok h h
  have:=ckRange0 h
  rcases hr : rmeet r r with ⟨x,y⟩
  rw [hr] at e1 e2
  dsimp only at e1 e2
  rcases r with ⟨lo,ex⟩
  dsimp only at *
  congr 1 <;> omega
theorem meet_self : ∀ (l : Bx),Okr l → List.zipWith rmeet l l = l
  | [],_ => rfl
  | r :: l,h => by rw [List.zipWith_cons_cons,rmeet_self (h r (by simp)),meet_self l h.tl]
theorem crop_ok {m : Im} {b : Bx} (h : (cropR m b).2 = 0) (N : Nat) (hN : many b = N) : (cropR m b).1 = dnI m.kd false b N (atI m) ∧ ckBox b = 0 ∧ b.length = m.bx.length ∧ (∀ i : Nat,i < N → InB m.bx (digits b i)):=by
  unfold cropR at h ⊢
  by_cases h1 : ckC1 m b = 0
  · rw [if_pos h1] at h ⊢
    have g1:=fz0 _ h1 (ckI m) (by simp)
    have g2:=fz0 _ h1 (ckBox b) (by simp)
    have g3:=fz0 _ h1 (if b.length = m.bx.length then 0 else 13) (by simp)
    have g3 : b.length = m.bx.length:=by split at g3; assumption; omega
    obtain ⟨M,G⟩:=good_of g1
    by_cases h2 : many b ≠ 0 ∧ List.zipWith rmeet m.bx b ≠ b
    · rw [if_pos h2] at h; cases h
    · rw [if_neg h2]
      refine ⟨by rw [hN,Int.toNat_natCast],g2,g3,fun i hi => ?_⟩
      have hz : List.zipWith rmeet m.bx b = b:=Classical.byContradiction fun hc => h2 ⟨by omega,hc⟩
      have hd:=(has_dig g2 N hN i hi).1
      have:=in_meet m.bx b (digits b i) G.okr (ckBox0 g2).2.2.1 g3.symm
      rw [hz] at this
      exact (this.1 hd).1
  · rw [if_neg h1] at h; exact absurd h h1
theorem crop_self {m : Im} {N : Nat} (G : Good m N) (h : ckI m = 0) : cropR m m.bx = (dnI m.kd false m.bx N (atI m),0):=by
  have h1 : ckC1 m m.bx = 0:=by unfold ckC1; rw [h,G.bx,if_pos rfl]; rfl
  unfold cropR
  rw [if_pos h1,if_neg (fun hc => hc.2 (meet_self _ G.okr)),G.many,Int.toNat_natCast]
theorem crop_crop {m : Im} {N : Nat} (G : Good m N) (hv : Ok64 m.dt) {b : Bx} (h : (cropR m b).2 = 0) :
    (cropR (dnI m.kd false m.bx N (atI m)) b).2 = 0 ∧ Alike (cropR m b).1 (cropR (dnI m.kd false m.bx N (atI m)) b).1:=by
  have hb : ckBox b = 0:=by
    unfold cropR at h
    by_cases h1 : ckC1 m b = 0
    · exact fz0 _ h1 (ckBox b) (by simp)
    · rw [if_neg h1] at h; exact absurd h h1
  obtain ⟨M,hM,hM2⟩:=many_nat hb
  obtain ⟨c1,c2,c3,c4⟩:=crop_ok h M hM
  obtain ⟨d1,d2,d3⟩:=dense_good G hv false
  have h1 : ckC1 (dnI m.kd false m.bx N (atI m)) b = 0:=by
    unfold ckC1
    rw [d1,hb,if_pos (show b.length = (dnI m.kd false m.bx N (atI m)).bx.length from c3)]
    rfl
  have e : cropR (dnI m.kd false m.bx N (atI m)) b = (dnI m.kd false b M (atI (dnI m.kd false m.bx N (atI m))),0):=by
    have hz : ¬ (many b ≠ 0 ∧ List.zipWith rmeet m.bx b ≠ b):=by
      intro hc
      unfold cropR at h
      by_cases h2 : ckC1 m b = 0
      · rw [if_pos h2,if_pos hc] at h; cases h
      · rw [if_neg h2] at h; exact absurd h h2
    have hz' : ¬ (many b ≠ 0 ∧ List.zipWith rmeet (dnI m.kd false m.bx N (atI m)).bx b ≠ b):=hz
    unfold cropR
    rw [if_pos h1,if_neg hz',hM,Int.toNat_natCast]
    rfl
  rw [e,c1]
  have el : (List.range M).map (fun i => atI (dnI m.kd false m.bx N (atI m)) (digits b (i : Nat))) = (List.range M).map (fun i => atI m (digits b (i : Nat))) :=
    List.map_congr_left fun i hi => by rw [List.mem_range] at hi; exact d3 _ (c4 i hi)
  refine ⟨rfl,rfl,rfl,rfl,el,by show b.length < _; have:=(ckBox0 hb).2.1; omega,by show (strides 1 b).length < _; rw [strides_len]; have:=(ckBox0 hb).2.1; omega,by simp [dnI]; omega⟩
end Go.Vm.P4D

/- Chapter 04,functions: Encode and Digest,whatever the image. -/
set_option maxRecDepth 100000
set_option maxHeartbeats 4000000
namespace Go.Vm.P4D
open Go Go.Vm Go.Vm.P4
def szN (k : Int) : Nat:=(szL.getD k.toNat 0).toNat
theorem kinds11 {k : Int} (hk : ckKind k = 0) : k = 0 ∨ k = 1 ∨ k = 2 ∨ k = 3 ∨ k = 4 ∨ k = 5 ∨ k = 6 ∨ k = 7 ∨ k = 8 ∨ k = 9 ∨ k = 10:=by
  have hk' : 0 ≤ k ∧ k < 11:=by unfold ckKind at hk; split at hk; assumption; omega
  omega
theorem szN_in {k : Int} (hk : ckKind k = 0) : szL.getD k.toNat 0 = szN k ∧ (szN k = 1 ∨ szN k = 2 ∨ szN k = 4 ∨ szN k = 8):=by
  rcases kinds11 hk with rfl | rfl | rfl | rfl | rfl | rfl | rfl | rfl | rfl | rfl | rfl <;> decide
theorem leB_len : ∀ (k : Nat) (v : Int),(leB k v).length = k
  | 0,_ => rfl
  | k + 1,v => by simp only [leB,List.length_cons,leB_len k]
theorem okLittleN (n : Nat) (k : Nat) (hk : k = 1 ∨ k = 2 ∨ k = 4 ∨ k = 8) (es : List (List D)) (v : Int) (h : es.length < 1000000) : callS (level E (n+1)) 91 [.ref 0 1 0 es.length,.imm (.int .u64 v),.imm (.int .i64 k)] [.arr 1 es] = some (.ref 1 1 0 (es ++ (leB k v).map u8).length,[.dead,.arr 1 (es ++ (leB k v).map u8)]):=by
  have e : (es ++ (leB k v).map u8).length = es.length + k:=by rw [List.length_append,List.length_map,leB_len]
  rw [e]
  rcases hk with rfl | rfl | rfl | rfl
  · exact okLittle1 n es v h
  · exact okLittle2 n es v h
  · exact okLittle4 n es v h
  · exact okLittle8 n es v h
theorem byRoundG (n : Nat) (m : Im) (acc acc' : List (List D)) (i : Nat) (v z : Int) (hv : callP (level E (n+1)) 62 [enIm m,enP (plc m.bx i)] = some (.int .u64 v)) (hz : callP (level E (n+1)) 60 [.int .i64 m.kd] = some (.int .i64 z))
    (hl : callS (level E (n+1)) 91 [.ref 0 1 0 acc.length,.imm (.int .u64 v),.imm (.int .i64 z)] [.arr 1 acc] = some (.ref 1 1 0 acc'.length,[.dead,.arr 1 acc'])) :
    (level E (n+2)).round (BySt m acc) [.int .i64 (i : Int),enP (plc m.bx i)] = some (BySt m acc',true):=by
  obtain ⟨x,y,z',hp⟩ : ∃ x y z,plc m.bx i = [x,y,z]:=by
    match hh : plc m.bx i,plc_len m.bx i with
    | [x,y,z],_ => exact ⟨x,y,z,rfl⟩
  rw [hp] at hv ⊢
  simp only [enIm,enP,List.map_cons,List.map_nil] at hv
  unfold BySt
  rw [round_go rfl]
  simp only [go_sem,simprocAttr,ByV,cellsIm,enP,hv,hz,hl,enIm]
  done
def byF (m : Im) (N : Nat) (F : List Int → Int) : List Int:=[wrp .u8 m.kd,wrp .u8 m.bx.length] ++ m.bx.flatMap rgB ++ (List.range N).flatMap (fun i => leB (szN m.kd) (F (plc m.bx i)))
def byI (m : Im) : List Int:=[wrp .u8 m.kd,wrp .u8 m.bx.length] ++ m.bx.flatMap rgB ++ (List.range (many m.bx).toNat).flatMap (fun (i : Nat) => leB (szN m.kd) (atI m (digits m.bx i)))
theorem okBytesG (n : Nat) (m : Im) (hk : ckKind m.kd = 0) (h1 : m.bx.length ≤ 3) (hs : m.bx.length ≤ m.st.length) (N : Nat) (hN : many m.bx = N) (hN2 : N < 100000) (F : List Int → Int) (hF : Lies m m.bx N F) :
    callP (level E (n+8)) 50 [enIm m] = some (.sl 1 ((byF m N F).map u8)):=by
  obtain ⟨z1,z2⟩:=szN_in hk
  rw [p50]
  have b1:=byLoop (n+6) m h1 [[.int .u8 (wrp .u8 m.kd)],[.int .u8 (wrp .u8 m.bx.length)]] rfl
  have a1:=okAll (n+6) m.bb m.bx
  have h:=okAll1 (n+5) m.bb m.bx h1 N hN (by omega) (BySt m) (fun a i => a.length ≤ 2 + 6 * m.bx.length + 8 * i) (fun a i => .inl (a ++ (leB (szN m.kd) (F (plc m.bx i))).map u8)) ([[.int .u8 (wrp .u8 m.kd)],[.int .u8 (wrp .u8 m.bx.length)]] ++ (m.bx.flatMap rgB).map u8)
    (by
      have e : ∀ l : Bx,(l.flatMap rgB).length = 6 * l.length:=by
        intro l
        induction l with
        | nil => rfl
        | cons x l ih => rw [List.flatMap_cons,List.length_append,ih,rgB_len,List.length_cons]; omega
      simp [e]; omega)
    (fun a i hI hi => ⟨by
      obtain ⟨k,q1,q2⟩:=hF i hi
      exact byRoundG (n+4) m a _ i (F (plc m.bx i)) _ (okViewAt (n+3) m (plc m.bx i) k _ (plc_len _ _) h1 hs q1 q2) (by rw [okSizeG (n+2) m.kd hk,z1]) (okLittleN (n+4) _ z2 a _ (by omega)),fun a' ha => by injection ha with ha; subst ha; simp [leB_len]; omega⟩)
  rw [runL_fold,fold_app] at h
  simp only [go_sem,simprocAttr,cellsIm] at b1
  simp only [go_sem,simprocAttr,enIm,b1,a1]
  simp only [go_sem,simprocAttr,BySt,ByV,cellsIm] at h
  rw [h]
  simp only [go_sem,simprocAttr]
  simp [byF,List.map_flatMap,u8]
theorem lies_of {m : Im} {N : Nat} (G : Good m N) : Lies m m.bx N (fun q => atI m (q.take m.bx.length)) ∧ byF m N (fun q => atI m (q.take m.bx.length)) = byI m:=by
  have hx : N ≠ 0 → ∀ r ∈ m.bx,0 < r.ex:=G.pos
  refine ⟨fun i hi => ?_,?_⟩
  · have hx:=hx (by omega)
    have e2:=plc_dig m.bx G.okr G.len3 hx i
    obtain ⟨k,k1,k2,k3⟩:=G.atP (q:=List.replicate (3 - m.bx.length) 0) (digits_in m.bx i hx)
    rw [← e2] at k1
    exact ⟨k,k1,by show m.dt[k]? = some (atI m ((plc m.bx i).take m.bx.length)); rw [plc_take m.bx G.okr G.len3 hx]; exact k3⟩
  · have e : (many m.bx).toNat = N:=by have:=G.many; omega
    unfold byF byI
    rw [e]
    congr 1
    rw [List.flatMap_def,List.flatMap_def]
    refine congrArg List.flatten (List.map_congr_left fun i hi => ?_)
    rw [List.mem_range] at hi
    show leB _ (atI m ((plc m.bx i).take m.bx.length)) = _
    rw [plc_take m.bx G.okr G.len3 (hx (by omega))]
theorem okBytesI (n : Nat) (m : Im) (N : Nat) (G : Good m N) : callP (level E (n+8)) 50 [enIm m] = some (.sl 1 ((byI m).map u8)):=by
  obtain ⟨g1,g2⟩:=lies_of G
  rw [okBytesG n m G.kd G.len3 (by have:=G.stl; omega) N G.many (by have:=G.small; omega) _ g1,g2]
theorem okEncodeG (n : Nat) (m : Im) (hx : m.bx.length < 1000000) (hs : m.st.length < 1000000) (hd : m.dt.length < 1000000) (hv : Ok64 m.dt) :
    callP (level E (n+10)) 10 [enIm m] = some (.tup [if ckI m = 0 then .sl 1 ((byI m).map u8) else .nil,.int .i64 (ckI m)]):=by
  rw [p10]
  have c1:=okCheckI n m hx hs hd hv
  by_cases h : ckI m = 0
  · obtain ⟨N,G⟩:=good_of h
    have b1:=okBytesI (n+1) m N G
    rw [h] at c1
    rw [if_pos h,h]
    simp only [enIm] at c1 b1
    simp only [go_sem,simprocAttr,enIm,c1,b1,ne_eq,not_true_eq_false]
  · rw [if_neg h]
    simp only [enIm] at c1
    simp only [go_sem,simprocAttr,enIm,c1,h,ne_eq,not_false_eq_true]
def dgS (h b : Int) : Int:=wrp .u64 (wrp .u64 (BitVec.ofInt 64 h ^^^ BitVec.ofInt 64 (wrp .u64 b)).toNat * 1099511628211)
def dgI (l : List Int) : Int:=l.foldl dgS 14695981039346656037
theorem dgLoop (n : Nat) (l : List Int) (hl : l.length < 1000000) (cs : List D) :
    outC ⟨0,false⟩ [0,0,0,0,0,1,0,0,0,0,0,0] (rnd (aCode (level E (n+1)) ⟨0,false⟩ b15_0) (head ⟨0,false⟩ [0,0,0,0,0,1,0,0,1,1,1,0])
      ⟨[.junk,.junk,.junk,.junk,.junk,.imm (.int .u64 14695981039346656037),.junk,.junk,.imm (.sl 1 (l.map u8)),.imm (.int .i64 l.length),.imm (.int .i64 0),.junk],[],none⟩) =
    some (.exit 0,⟨[.junk,.junk,.junk,.junk,.junk,.imm (.int .u64 (dgI l)),.junk,.junk,.junk,.junk,.junk,.junk],[],none⟩):=by
  have h:=loop_fold (f:=aCode (level E (n+1)) ⟨0,false⟩ b15_0) (h:=head ⟨0,false⟩ [0,0,0,0,0,1,0,0,1,1,1,0]) (Φ:=outC ⟨0,false⟩ [0,0,0,0,0,1,0,0,0,0,0,0]) l (fun (a : Int) i => ⟨[.junk,.junk,.junk,.junk,.junk,.imm (.int .u64 a),.junk,.junk,.imm (.sl 1 (l.map u8)),.imm (.int .i64 l.length),.imm (.int .i64 i),.junk],[],none⟩) (fun _ _ => True)
    dgS (fun a => some (.exit 0,⟨[.junk,.junk,.junk,.junk,.junk,.imm (.int .u64 a),.junk,.junk,.junk,.junk,.junk,.junk],[],none⟩)) 14695981039346656037 trivial
    (fun a i x _ h2 h1 => by
      refine ⟨?_,trivial⟩
      rw [rnd_eq]
      simp only [go_sem,simprocAttr,lt_t h2,h1,dgS]
      rw [wrpS (by omega)]
      rfl)
    (fun a _ => by
      rw [rnd_eq]
      simp only [go_sem,simprocAttr,lt_f (Nat.le_refl _)])
  rw [cast_0] at h
  rw [h]
  rfl
theorem okDigestG (n : Nat) (m : Im) (hx : m.bx.length < 1000000) (hs : m.st.length < 1000000) (hd : m.dt.length < 1000000) (hv : Ok64 m.dt) :
    callP (level E (n+10)) 15 [enIm m] = some (.tup [.int .u64 (if ckI m = 0 then dgI (byI m) else 0),.int .i64 (ckI m)]):=by
  rw [p15]
  have c1:=okCheckI n m hx hs hd hv
  by_cases h : ckI m = 0
  · obtain ⟨N,G⟩:=good_of h
    have b1:=okBytesI (n+1) m N G
    have d1:=dgLoop (n+8) (byI m) (by
      have e : ∀ l : Bx,(l.flatMap rgB).length = 6 * l.length:=by
        intro l
        induction l with
        | nil => rfl
        | cons x l ih => rw [List.flatMap_cons,List.length_append,ih,rgB_len,List.length_cons]; omega
      have e2 : ∀ l : List Nat,(l.flatMap (fun (i : Nat) => leB (szN m.kd) (atI m (digits m.bx i)))).length ≤ 8 * l.length:=by
        intro l
        induction l with
        | nil => simp
        | cons x l ih =>
          have:=(szN_in G.kd).2
          rw [List.flatMap_cons,List.length_append,leB_len,List.length_cons]; omega
      have e3:=e2 (List.range (many m.bx).toNat)
      rw [List.length_range] at e3
      have:=G.many
      have:=G.small
      have:=G.len3
      simp only [byI,List.length_append,e,List.length_cons,List.length_nil]
      omega) []
    rw [h] at c1
    rw [if_pos h,h]
    simp only [enIm] at c1 b1
    simp only [go_sem,simprocAttr,enIm,c1,b1,ne_eq,not_true_eq_false]
    rw [d1]
    simp only [go_sem,simprocAttr]
  · rw [if_neg h]
    simp only [enIm] at c1
    simp only [go_sem,simprocAttr,enIm,c1,h,ne_eq,not_false_eq_true]
end Go.Vm.P4D
