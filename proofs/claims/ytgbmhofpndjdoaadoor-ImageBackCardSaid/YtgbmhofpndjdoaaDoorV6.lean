/- A part of the proof that the law answers true for every input; the conditions are those of the card: the listed variable reads as the program lays it. -/
import Derived.Test.YtgbmhofpndjdoaaDoorV5
set_option linter.unusedSimpArgs false
set_option linter.unusedVariables false
/- Chapter 04,plain: the bytes of numbers. -/
set_option maxRecDepth 100000
namespace Go.Vm.P4D
open Go Go.Vm Go.Vm.P4
theorem wrp_u8 (v : Int) : wrp .u8 v = v % 256:=by
  have e1 : (2 ^ IntKind.u8.bits : Int) = 256:=by decide
  show IntKind.u8.wrap v = _
  simp only [IntKind.wrap,e1,show IntKind.u8.signed = false from rfl,Bool.false_and,Bool.false_eq_true,if_false]
theorem wrp_u64 (v : Int) : wrp .u64 v = v % 18446744073709551616:=by
  have e1 : (2 ^ IntKind.u64.bits : Int) = 18446744073709551616:=by decide
  show IntKind.u64.wrap v = _
  simp only [IntKind.wrap,e1,show IntKind.u64.signed = false from rfl,Bool.false_and,Bool.false_eq_true,if_false]
theorem wrp_i32 (v : Int) : wrp .i32 v = (v + 2147483648) % 4294967296 - 2147483648:=by
  have e1 : (2 ^ IntKind.i32.bits : Int) = 4294967296:=by decide
  have e2 : (2 ^ (IntKind.i32.bits - 1) : Int) = 2147483648:=by decide
  show IntKind.i32.wrap v = _
  simp only [IntKind.wrap,e1,e2,show IntKind.i32.signed = true from rfl,Bool.true_and,decide_eq_true_eq]
  split <;> omega
theorem fd256 (v : Int) : v.fdiv 256 = v / 256:=Int.fdiv_eq_ediv_of_nonneg v (by decide)
theorem leB_0 (v : Int) : leB 0 v = []:=rfl
theorem leB_s (k : Nat) (v : Int) : leB (k + 1) v = v % 256 :: leB k (v / 256):=by rw [leB,wrp_u8,fd256]
def leV : List Int → Int
  | [] => 0
  | b :: l => b + 256 * leV l
def By (l : List Int) : Prop:=∀ b ∈ l,0 ≤ b ∧ b < 256
theorem leV_bd : ∀ (l : List Int),By l → 0 ≤ leV l ∧ leV l < 256 ^ l.length
  | [],_ => by simp [leV]
  | b :: l,h => by
    have h1:=h b (List.mem_cons_self)
    have h2:=leV_bd l (fun x hx => h x (List.mem_cons_of_mem _ hx))
    simp only [leV,List.length_cons]
    rw [Int.pow_succ]
    omega
theorem leV_app : ∀ (l r : List Int),leV (l ++ r) = leV l + 256 ^ l.length * leV r
  | [],r => by simp [leV]
  | b :: l,r => by
    simp only [leV,List.cons_append,leV_app l r,List.length_cons]
    rw [Int.pow_succ,Int.mul_add,← Int.mul_assoc,Int.mul_comm 256 (256 ^ l.length)]
    omega
theorem By.take {l : List Int} (h : By l) (k : Nat) : By (l.take k):=fun x hx => h x (List.mem_of_mem_take hx)
theorem By.drop {l : List Int} (h : By l) (k : Nat) : By (l.drop k):=fun x hx => h x (List.mem_of_mem_drop hx)
theorem or_add {v b : Int} (s : Nat) (h0 : 0 ≤ v) (h1 : v < 2 ^ s) (b0 : 0 ≤ b) (b1 : b < 256) (hs : s ≤ 56) : wrp .u64 ((BitVec.ofInt 64 v ||| BitVec.ofInt 64 (b * 2 ^ s)).toNat : Nat) = v + b * 2 ^ s:=by
  have p : (2 : Int) ^ s ≤ 2 ^ 56:=by
    have:=Nat.pow_le_pow_right (show 0 < 2 by decide) hs
    exact_mod_cast this
  have q : (0 : Int) < 2 ^ s:=Int.pow_pos (by decide)
  have p56 : (2 : Int) ^ 56 = 72057594037927936:=by decide
  rw [p56] at p
  obtain ⟨a,rfl⟩ : ∃ a : Nat,v = a:=⟨v.toNat,by omega⟩
  obtain ⟨c,rfl⟩ : ∃ c : Nat,b = c:=⟨b.toNat,by omega⟩
  have e2 : ((2 ^ s : Nat) : Int) = 2 ^ s:=by simp
  have ha : a < 2 ^ s:=by omega
  have hc : (c : Int) * 2 ^ s = ((c * 2 ^ s : Nat) : Int):=by rw [Int.natCast_mul,e2]
  have hb : c * 2 ^ s ≤ 255 * 2 ^ s:=Nat.mul_le_mul_right _ (by omega)
  have hp : 2 ^ s ≤ 72057594037927936:=by omega
  rw [hc,BitVec.ofInt_natCast,BitVec.ofInt_natCast,BitVec.toNat_or,BitVec.toNat_ofNat,BitVec.toNat_ofNat,Nat.mod_eq_of_lt (by omega),Nat.mod_eq_of_lt (by omega)]
  have e : a ||| c * 2 ^ s = c * 2 ^ s + a:=by
    rw [Nat.or_comm,← Nat.shiftLeft_eq,Nat.shiftLeft_add_eq_or_of_lt ha]
  rw [e,wrpU (by omega) (by omega)]
  omega
end Go.Vm.P4D

/- Chapter 04,functions: a reader of bytes. -/
set_option maxRecDepth 100000
set_option maxHeartbeats 4000000
namespace Go.Vm.P4D
open Go Go.Vm Go.Vm.P4
theorem bin_shl {k k' : IntKind} {a b : Int} (h : ¬ b < 0) : aBin .shl (.imm (.int k a)) (.imm (.int k' b)) = some (.imm (.int k (wrp k (a * 2 ^ (min b.toNat k.bits))))):=by simp [aBin,shiftI,h]
theorem stk {n : Nat} {x0 x1 : AV} {st : List AO} : callS (level E (n + 1)) 53 [x0,x1] st = psC st.length (fin [.v 2] (aCode (level E n) ⟨st.length,false⟩ c53 ⟨[x0,x1,.junk,.junk,.junk,.junk,.junk,.junk,.junk],st,none⟩)):=callS_go e53 rfl rfl rfl rfl
abbrev rdr (x : D) (t : Bool) : AO:=.box [.imm x,.imm (.bool t)]
theorem okTakeE (n : Nat) (k : Nat) (b t : Bool) (l : List Int) (h : l.length < k) : callS (level E (n+1)) 53 [.ptr 0 0,.imm (.int .i64 k)] [rdr (slD b 1 (l.map u8)) t] = some (.imm (.int .u64 0),[rdr .nil true]):=by
  rw [stk]
  have e : decide ((l.length : Int) < k) = true:=decide_eq_true (by omega)
  simp only [go_sem,simprocAttr,rdr,e]
theorem tkLoop (n : Nat) (k : Nat) (hk : k ≤ 8) (b t : Bool) (l : List Int) (h : k ≤ l.length) (hb : By l) : ∀ j i : Nat,i + j = k →
    outC ⟨1,false⟩ [1,1,0,1,0,0,0,0,0] (rnd (aCode (level E n) ⟨1,false⟩ b53_0) (head ⟨1,false⟩ [1,1,0,1,0,0,1,1,0])
      ⟨[.ptr 0 0,.imm (.int .i64 k),.junk,.imm (.int .u64 (leV (l.take i))),.junk,.junk,.imm (.int .i64 k),.imm (.int .i64 i),.junk],[rdr (slD b 1 (l.map u8)) t],none⟩) =
    some (.exit 0,⟨[.ptr 0 0,.imm (.int .i64 k),.junk,.imm (.int .u64 (leV (l.take k))),.junk,.junk,.junk,.junk,.junk],[rdr (slD b 1 (l.map u8)) t],none⟩):=by
  intro j
  induction j with
  | zero =>
    intro i hi
    have : i = k:=by omega
    subst this
    rw [rnd_eq]
    simp only [go_sem,simprocAttr,rdr,lt_f (Nat.le_refl _)]
  | succ j ih =>
    intro i hi
    have hil : i < l.length:=by omega
    have g:=List.getElem?_eq_getElem hil
    have bb:=hb _ (List.getElem_mem hil)
    have bd:=leV_bd (l.take i) (hb.take i)
    rw [List.length_take,Nat.min_eq_left (by omega)] at bd
    have p8 : (256 : Int) ^ i = 2 ^ (8 * i):=by rw [Int.pow_mul]; rfl
    rw [p8] at bd
    have ev : leV (l.take (i + 1)) = leV (l.take i) + l[i] * 2 ^ (8 * i):=by
      rw [List.take_add_one,g,Option.toList_some,leV_app,List.length_take,Nat.min_eq_left (by omega),p8]
      simp only [leV,Int.mul_zero,Int.add_zero]
      rw [Int.mul_comm (2 ^ (8 * i))]
    have p7 : (2 : Int) ^ (8 * i) ≤ 2 ^ 56:=by
      have : (2 : Nat) ^ (8 * i) ≤ 2 ^ 56:=Nat.pow_le_pow_right (by decide) (by omega)
      exact_mod_cast this
    have p7' : (2 : Int) ^ 56 = 72057594037927936:=by decide
    rw [p7'] at p7
    have p0 : (0 : Int) < 2 ^ (8 * i):=Int.pow_pos (by decide)
    have hm : l[i] * 2 ^ (8 * i) ≤ 255 * 2 ^ (8 * i):=Int.mul_le_mul_of_nonneg_right (by omega) (by omega)
    have hm0 : 0 ≤ l[i] * 2 ^ (8 * i):=Int.mul_nonneg bb.1 (by omega)
    have w1 : wrp .u64 l[i] = l[i]:=wrpU (by omega) (by omega)
    have w2 : wrp .i64 (8 * (i : Int)) = ((8 * i : Nat) : Int):=by rw [wrp_ok (by omega)]; omega
    have sh : aBin .shl (.imm (.int .u64 l[i])) (.imm (.int .i64 ((8 * i : Nat) : Int))) = some (.imm (.int .u64 (l[i] * 2 ^ (8 * i)))):=by
      rw [bin_shl (by omega),Int.toNat_natCast,Nat.min_eq_left (by show 8 * i ≤ 64; omega),wrpU hm0 (by omega)]
    have w3 : wrp .u64 ((BitVec.ofInt 64 (leV (l.take i)) ||| BitVec.ofInt 64 (l[i] * 2 ^ (8 * i))).toNat : Nat) = leV (l.take (i + 1)):=by
      rw [ev]
      exact or_add (8 * i) bd.1 bd.2 bb.1 bb.2 (by omega)
    have IH:=ih (i + 1) (by omega)
    rw [rnd_eq]
    rw [← w3] at IH
    simp only [go_sem,simprocAttr,rdr,lt_t (show i < k by omega),g,w1,w2,sh]
    rw [wrpS (by omega)]
    exact IH
theorem bd_nat {k : Nat} : bdC (some (.imm (.int .i64 (k : Int)))) = some (some k):=by
  rw [bd_int (by omega)]; simp
theorem okTakeS (n : Nat) (k : Nat) (h1 : 1 ≤ k) (hk : k ≤ 8) (b t : Bool) (l : List Int) (h : k ≤ l.length) (hb : By l) : callS (level E (n+1)) 53 [.ptr 0 0,.imm (.int .i64 k)] [rdr (slD b 1 (l.map u8)) t] = some (.imm (.int .u64 (leV (l.take k))),[rdr (slD false 1 ((l.drop k).map u8)) t]):=by
  rw [stk]
  have e : decide ((l.length : Int) < k) = false:=decide_eq_false (by omega)
  have lp:=tkLoop n k hk b t l h hb k 0 (by omega)
  rw [List.take_zero,leV,cast_0] at lp
  rcases l with _ | ⟨x,tl⟩
  · simp at h; omega
  have sl:=sl_slo (st:=[rdr (slD b 1 ((x :: tl).map u8)) t]) (sz:=1) (l:=k) (es:=(x :: tl).map u8) (by rw [List.length_map]; exact h)
  have hd : slD false 1 (((x :: tl).drop k).map u8) = .sl 1 (((x :: tl).map u8).drop k):=by
    rw [slD_f,List.map_drop]
  rw [hd]
  simp only [List.map_cons,slD_c,rdr,u8,List.length_cons] at lp sl e ⊢
  simp only [go_sem,simprocAttr,e]
  rw [lp]
  simp only [go_sem,simprocAttr,bd_nat,sl]
end Go.Vm.P4D

/- Chapter 04,functions: Decode. -/
set_option maxRecDepth 100000
set_option maxHeartbeats 4000000
namespace Go.Vm.P4D
open Go Go.Vm Go.Vm.P4
section
variable {lo : Lower} {env vars : List AV} {st : List AO} {ext : Option Ext}
def rgS (vars : List AV) (st : List AO) (ext : Option Ext) (v : AV) : Option (AV × S):=match v with
  | .imm (.str b) => some (.ptr st.length 0,⟨vars,st ++ [.iter b 0],ext⟩)
  | _ => none
theorem op_rng {x : Opnd} : aOp lo vars env ⟨vars,st,ext⟩ (.range x) = rgS vars st ext (opnd vars env x):=by
  simp only [aOp,rgS]
  cases opnd vars env x with
  | imm d => cases d <;> rfl
  | _ => rfl
theorem rg_str {b : ByteArray} : rgS vars st ext (.imm (.str b)) = some (.ptr st.length 0,⟨vars,st ++ [.iter b 0],ext⟩):=rfl
def nyS (vars : List AV) (st : List AO) (ext : Option Ext) (id : Nat) (o : Option AO) : Option (AV × S):=match o with
  | some (.iter b pos) => if pos < b.size then
      some (.imm (.tup [.bool true,.int .i64 pos,.int .i32 (Utf8.decode b pos).1]),⟨vars,st.set id (.iter b (pos + (Utf8.decode b pos).2)),ext⟩)
    else some (.imm (.tup [.bool false]),⟨vars,st,ext⟩)
  | _ => none
def nxS (vars : List AV) (st : List AO) (ext : Option Ext) (v : AV) : Option (AV × S):=match v with
  | .ptr id 0 => nyS vars st ext id st[id]?
  | _ => none
theorem op_nxt {x : Opnd} : aOp lo vars env ⟨vars,st,ext⟩ (.next x) = nxS vars st ext (opnd vars env x):=by
  simp only [aOp,nxS]
  cases opnd vars env x with
  | ptr id k =>
    rcases k with _ | k
    · rcases st[id]? with _ | o
      · rfl
      · cases o <;> rfl
    · rfl
  | _ => rfl
theorem nx_ptr {id : Nat} : nxS vars st ext (.ptr id 0) = nyS vars st ext id st[id]?:=rfl
theorem nk0 {id : Nat} : nyS vars st ext id (some (.iter ⟨#[107,100]⟩ 0)) = some (.imm (.tup [.bool true,.int .i64 0,.int .i32 107]),⟨vars,st.set id (.iter ⟨#[107,100]⟩ 1),ext⟩):=rfl
theorem nk1 {id : Nat} : nyS vars st ext id (some (.iter ⟨#[107,100]⟩ 1)) = some (.imm (.tup [.bool true,.int .i64 1,.int .i32 100]),⟨vars,st.set id (.iter ⟨#[107,100]⟩ 2),ext⟩):=rfl
theorem nk2 {id : Nat} : nyS vars st ext id (some (.iter ⟨#[107,100]⟩ 2)) = some (.imm (.tup [.bool false]),⟨vars,st,ext⟩):=rfl
end
attribute [go_sem] op_rng rg_str op_nxt nx_ptr nk0 nk1 nk2
def dcHd : List Int → Int
  | [] => 24
  | k :: t => if ckKind k ≠ 0 then ckKind k else match t with
    | [] => 24
    | d :: _ => if 1 ≤ d ∧ d ≤ 3 then 0 else 13
def rgOf (r : List Int) : Rg:=⟨wrp .i32 (leV (r.take 4)),leV ((r.drop 4).take 2)⟩
def rdRs : Nat → List Int → Option (Bx × List Int)
  | 0,r => some ([],r)
  | d + 1,r => if r.length < 6 then none else match rdRs d (r.drop 6) with
    | none => none
    | some (b,r') => some (rgOf r :: b,r')
def rdVs (kd : Int) (k : Nat) : Nat → List Int → Int ⊕ (List Int × List Int)
  | 0,r => .inr ([],r)
  | N + 1,r => if r.length < k then .inl 24 else if ckVal kd (leV (r.take k)) ≠ 0 then .inl 1 else match rdVs kd k N (r.drop k) with
    | .inl e => .inl e
    | .inr (a,r') => .inr (leV (r.take k) :: a,r')
def decV (k : Int) (bx : Bx) (r : List Int) : Im × Int :=
  if ckBox bx ≠ 0 then (im0,ckBox bx) else match rdVs k (szN k) (many bx).toNat r with
    | .inl e => (im0,e)
    | .inr (a,r') => if r'.length > 0 then (im0,2) else (⟨k,true,bx,true,strides 1 bx,true,a⟩,0)
def decT (k : Int) (D : Nat) (r : List Int) : Im × Int:=match rdRs D r with
  | none => (im0,24)
  | some (bx,r) => decV k bx r
def decI (l : List Int) : Im × Int :=
  if dcHd l ≠ 0 then (im0,dcHd l) else decT (l.getD 0 0) (l.getD 1 0).toNat (l.drop 2)
abbrev clT : AV:=.clo 53 [.ptr 2 0] []
abbrev dcB (k : Int) (x y z : AV) : AO:=.box [.ptr 2 0,.imm (.int .i64 k),x,y,z]
theorem By.tl {x : Int} {l : List Int} (h : By (x :: l)) : By l:=fun y hy => h y (List.mem_cons_of_mem _ hy)
theorem leV1 (k : Int) : leV [k] = k:=by simp [leV]
theorem e_im0 : enIm im0 = .agg [.int .i64 0,.nil,.nil,.nil]:=rfl
theorem okDecE (n : Nat) (l : List Int) (hb : By l) (hl : l.length < 1000000) (h : dcHd l ≠ 0) : callP (level E (n+10)) 12 [.sl 1 (l.map u8)] = some (.tup [enIm im0,.int .i64 (dcHd l)]):=by
  rw [p12,e_im0]
  have w0 : wrp .i64 0 = 0:=rfl
  rcases l with _ | ⟨k,t⟩
  · have t1:=okTakeE (n+8) 1 false false [] (by decide)
    have k0:=okCheckKind (n+7) 0
    have f0 : callP (level E (n+9)) 55 [.sl 1 [[.int .i64 24],[.int .i64 (ckKind 0)]]] = some (.int .i64 24):=okFirstL (n+8) _ [24,ckKind 0] rfl (by simp)
    simp only [go_sem,simprocAttr,rdr,slD_f] at t1
    simp only [go_sem,simprocAttr,t1,okWhen,k0,f0]
    rw [rnd_eq]
    simp only [go_sem,simprocAttr,t1,okWhen,w0,k0,f0,ne_eq,not_false_eq_true,dcHd]
    done
  · have hk:=hb k (List.mem_cons_self)
    have t1:=okTakeS (n+8) 1 (by decide) (by decide) false false (k :: t) (by simp) hb
    have k1:=okCheckKind (n+7) k
    have wk : wrp .i64 k = k:=wrp_ok (by omega)
    have hfz : fnz [0,ckKind k] = ckKind k:=by
      simp only [fnz]
      by_cases h : ckKind k = 0 <;> simp [h]
    have f1 : callP (level E (n+9)) 55 [.sl 1 [[.int .i64 0],[.int .i64 (ckKind k)]]] = some (.int .i64 (ckKind k)):=(okFirstL (n+8) _ [0,ckKind k] rfl (by simp)).trans (by rw [hfz])
    simp only [List.take_succ_cons,List.take_zero,List.drop_succ_cons,List.drop_zero,leV1] at t1
    simp only [go_sem,simprocAttr,rdr,slD_f] at t1
    simp only [go_sem,simprocAttr]
    rw [rnd_eq]
    by_cases hc : ckKind k = 0
    · rw [hc] at f1 k1
      simp only [go_sem,simprocAttr,t1,okWhen,wk,k1,f1,ne_eq,not_true_eq_false,Bool.false_eq_true]
      rw [rnd_eq]
      rcases t with _ | ⟨d,t⟩
      · have t2:=okTakeE (n+8) 1 false false [] (by decide)
        have f2 : callP (level E (n+9)) 55 [.sl 1 [[.int .i64 24],[.int .i64 13]]] = some (.int .i64 24):=okFirstL (n+8) _ [24,13] rfl (by simp)
        simp only [go_sem,simprocAttr,rdr,slD_f] at t2
        have g0 : decide ((0 : Int) ≥ 1) = false:=by decide
        simp only [go_sem,simprocAttr,t2,f2,w0,g0,okWhen,okWithin,dcHd,hc,ne_eq,not_true_eq_false,not_false_eq_true,Bool.not_false]
        done
      · have hd:=hb d (by simp)
        have wd : wrp .i64 d = d:=wrp_ok (by omega)
        have t2:=okTakeS (n+8) 1 (by decide) (by decide) false false (d :: t) (by simp) hb.tl
        simp only [List.take_succ_cons,List.take_zero,List.drop_succ_cons,List.drop_zero,leV1] at t2
        have f2 : callP (level E (n+9)) 55 [.sl 1 [[.int .i64 0],[.int .i64 13]]] = some (.int .i64 13):=okFirstL (n+8) _ [0,13] rfl (by simp)
        have hx : (decide (d ≥ 1) && decide (d ≤ 3)) = false:=by
          cases hq : decide (d ≥ 1) && decide (d ≤ 3)
          · rfl
          · simp only [Bool.and_eq_true,decide_eq_true_eq] at hq
            exact absurd (show dcHd (k :: d :: t) = 0 by simp [dcHd,hc]; omega) h
        have hy : dcHd (k :: d :: t) = 13:=by
          have : ¬ (1 ≤ d ∧ d ≤ 3):=fun hq => by simp [hq.1,hq.2] at hx
          simp [dcHd,hc,this]
        have ww:=okWithin (n+8) d 1 3
        rw [hx] at ww
        rw [hy]
        simp only [go_sem,simprocAttr,rdr,slD_f] at t2
        simp only [go_sem,simprocAttr,t2,f2,wd,okWhen,ww,hx,ne_eq,not_true_eq_false,not_false_eq_true,Bool.false_eq_true]
        done
    · simp only [go_sem,simprocAttr,t1,okWhen,wk,k1,f1,hc,dcHd,ne_eq,not_false_eq_true,Bool.false_eq_true]
      done
end Go.Vm.P4D

/- Chapter 04,functions: Decode,the ranges and the elements. -/
set_option maxRecDepth 100000
set_option maxHeartbeats 4000000
namespace Go.Vm.P4D
open Go Go.Vm Go.Vm.P4
abbrev dcZ : AO:=.box [.imm (.int .i64 0),.imm .nil,.imm .nil,.imm .nil]
abbrev rdL (r : List Int) : AO:=rdr (.sl 1 (r.map u8)) false
def torn1 (k : Int) (b : Bx) (lo : Int) : Option (AExit × S) :=
  some (.ret,⟨[.junk,.ptr 0 0,.imm (.int .i64 24),.ptr 1 0,clT,.junk,.junk,.junk,.junk,.junk,.junk,.junk,.junk,.junk,.junk,.junk,.junk,.junk,.junk,.junk,.junk,.junk,.junk,.junk,.junk,.junk,.junk,.junk],[dcZ,dcB k (.ref 3 2 0 (b.length + 1)) (.imm .nil) (.imm .nil),rdr .nil true,.arr 2 (b.map enR ++ [[.int .i64 lo,.int .i64 0]])],none⟩)
theorem wi32 (v : Int) : wrp .i64 (wrp .i32 v) = wrp .i32 v:=by
  rw [wrp_ok]
  rw [wrp_i32]
  omega
theorem By.bd2 {l : List Int} (h : By l) : 0 ≤ leV (l.take 2) ∧ leV (l.take 2) < 65536:=by
  have h1:=leV_bd _ (h.take 2)
  have h2 : (256 : Int) ^ (l.take 2).length ≤ 256 ^ 2:=by
    have : (256 : Nat) ^ (l.take 2).length ≤ 256 ^ 2:=Nat.pow_le_pow_right (by decide) (by rw [List.length_take]; omega)
    exact_mod_cast this
  have : (256 : Int) ^ 2 = 65536:=by decide
  omega
theorem dcL1 (n : Nat) (k : Int) (D : Nat) (hD : D < 10) (r0 : List Int) (hb : By r0) :
    outC ⟨0,false⟩ [0,1,1,1,1,0,0,0,0,0,0,0,0,0,0,0,0,0,0,0,0,0,0,0,0,0,0,0] (rnd (aCode (level E (n+1)) ⟨0,false⟩ b12_1) (head ⟨0,false⟩ [0,1,0,1,1,0,0,0,0,0,0,0,0,0,0,0,0,0,1,1,0,0,0,0,0,0,0,0])
      ⟨[.junk,.ptr 0 0,.junk,.ptr 1 0,clT,.junk,.junk,.junk,.junk,.junk,.junk,.junk,.junk,.junk,.junk,.junk,.junk,.junk,.imm (.int .i64 D),.imm (.int .i64 0),.junk,.junk,.junk,.junk,.junk,.junk,.junk,.junk],[dcZ,dcB k (.imm .nil) (.imm .nil) (.imm .nil),rdL r0],none⟩) =
    runL (fun (a : Bx × List Int) (_ : Nat) => if a.2.length < 6 then .inr (torn1 k a.1 (if a.2.length < 4 then 0 else wrp .i32 (leV (a.2.take 4)))) else .inl (a.1 ++ [rgOf a.2],a.2.drop 6))
      (fun a => some (.exit 2,⟨[.junk,.ptr 0 0,.junk,.ptr 1 0,clT,.junk,.junk,.junk,.junk,.junk,.junk,.junk,.junk,.junk,.junk,.junk,.junk,.junk,.junk,.junk,.junk,.junk,.junk,.junk,.junk,.junk,.junk,.junk],[dcZ,dcB k (vK 3 2 (a.1.map enR)) (.imm .nil) (.imm .nil),rdL a.2] ++ oK 2 (a.1.map enR),none⟩)) ([],r0) (List.range D):=by
  have h:=loop_run (f:=aCode (level E (n+1)) ⟨0,false⟩ b12_1) (h:=head ⟨0,false⟩ [0,1,0,1,1,0,0,0,0,0,0,0,0,0,0,0,0,0,1,1,0,0,0,0,0,0,0,0]) (Φ:=outC ⟨0,false⟩ [0,1,1,1,1,0,0,0,0,0,0,0,0,0,0,0,0,0,0,0,0,0,0,0,0,0,0,0]) (List.range D) (fun (a : Bx × List Int) i => ⟨[.junk,.ptr 0 0,.junk,.ptr 1 0,clT,.junk,.junk,.junk,.junk,.junk,.junk,.junk,.junk,.junk,.junk,.junk,.junk,.junk,.imm (.int .i64 D),.imm (.int .i64 i),.junk,.junk,.junk,.junk,.junk,.junk,.junk,.junk],[dcZ,dcB k (vK 3 2 (a.1.map enR)) (.imm .nil) (.imm .nil),rdL a.2] ++ oK 2 (a.1.map enR),none⟩) (fun a i => a.1.length = i ∧ By a.2)
    (fun (a : Bx × List Int) (_ : Nat) => if a.2.length < 6 then .inr (torn1 k a.1 (if a.2.length < 4 then 0 else wrp .i32 (leV (a.2.take 4)))) else .inl (a.1 ++ [rgOf a.2],a.2.drop 6))
    (fun a => some (.exit 2,⟨[.junk,.ptr 0 0,.junk,.ptr 1 0,clT,.junk,.junk,.junk,.junk,.junk,.junk,.junk,.junk,.junk,.junk,.junk,.junk,.junk,.junk,.junk,.junk,.junk,.junk,.junk,.junk,.junk,.junk,.junk],[dcZ,dcB k (vK 3 2 (a.1.map enR)) (.imm .nil) (.imm .nil),rdL a.2] ++ oK 2 (a.1.map enR),none⟩)) ([],r0) ⟨rfl,hb⟩
    (fun a i x hI h2 h1 => by
      have:=getRange h1
      subst this
      rw [List.length_range] at h2
      obtain ⟨b,r⟩:=a
      obtain ⟨i1,i2⟩:=hI
      dsimp only at i1 i2 ⊢
      have e1 : (b.length + 1) * 17 ≤ 70368744177664:=by omega
      rw [rnd_eq]
      by_cases h6 : r.length < 6
      · refine ⟨?_,fun b' hb' => by rw [if_pos h6] at hb'; cases hb'⟩
        rw [if_pos h6]
        by_cases h4 : r.length < 4
        · have t1:=okTakeE n 4 false false r h4
          have t2:=okTakeE n 2 true true [] (by decide)
          have w0 : wrp .i32 0 = 0:=by decide
          have w1 : wrp .i64 0 = 0:=by decide
          have t2' : callS (level E (n + 1)) 53 [.ptr 0 0,.imm (.int .i64 2)] [rdr .nil true] = some (.imm (.int .u64 0),[rdr .nil true]):=t2
          rw [if_pos h4]
          simp only [go_sem,simprocAttr,rdr,slD_f] at t1 t2'
          rcases b with _ | ⟨y,t⟩
          · simp only [go_sem,simprocAttr,lt_t h2,vK,oK,t1,t2',w0,w1,torn1,dcZ,dcB,clT,rdL,rdr]
          · simp only [List.length_cons] at e1
            simp only [go_sem,simprocAttr,lt_t h2,vK,oK,t1,t2',w0,w1,torn1,e1,dcZ,dcB,clT,rdL,rdr]
        · have t1:=okTakeS n 4 (by decide) (by decide) false false r (by omega) i2
          have t2:=okTakeE n 2 false false (r.drop 4) (by rw [List.length_drop]; omega)
          have w1 : wrp .i64 0 = 0:=by decide
          have w2:=wi32 (leV (r.take 4))
          rw [if_neg h4]
          simp only [go_sem,simprocAttr,rdr,slD_f] at t1 t2
          rcases b with _ | ⟨y,t⟩
          · simp only [go_sem,simprocAttr,lt_t h2,vK,oK,t1,t2,w2,w1,torn1,dcZ,dcB,clT,rdL,rdr]
          · simp only [List.length_cons] at e1
            simp only [go_sem,simprocAttr,lt_t h2,vK,oK,t1,t2,w2,w1,torn1,e1,dcZ,dcB,clT,rdL,rdr]
      · refine ⟨?_,fun b' hb' => by
          rw [if_neg h6] at hb'
          injection hb' with hb'
          subst hb'
          exact ⟨by simp [i1],i2.drop 6⟩⟩
        rw [if_neg h6]
        have t1:=okTakeS n 4 (by decide) (by decide) false false r (by omega) i2
        have t2:=okTakeS n 2 (by decide) (by decide) false false (r.drop 4) (by rw [List.length_drop]; omega) (i2.drop 4)
        have b2:=(i2.drop 4).bd2
        have w1 : wrp .i64 (leV ((r.drop 4).take 2)) = leV ((r.drop 4).take 2):=wrp_ok (by omega)
        have w2:=wi32 (leV (r.take 4))
        rw [List.drop_drop] at t2
        simp only [go_sem,simprocAttr,rdr,slD_f] at t1 t2
        rcases b with _ | ⟨y,t⟩
        · simp only [go_sem,simprocAttr,lt_t h2,vK,oK,t1,t2,w2,w1,rgOf,dcZ,dcB,clT,rdL,rdr]
          rw [wrpS (by omega)]
        · simp only [List.length_cons] at e1
          simp only [go_sem,simprocAttr,lt_t h2,vK,oK,t1,t2,w2,w1,e1,rgOf,dcZ,dcB,clT,rdL,rdr]
          rw [wrpS (by omega)])
    (fun a _ => by
      rw [rnd_eq,List.length_range]
      rcases a with ⟨_ | ⟨y,t⟩,r⟩ <;> simp only [go_sem,simprocAttr,lt_f (Nat.le_refl _),vK,oK,dcZ,dcB,clT,rdL,rdr])
  rw [cast_0] at h
  exact h
end Go.Vm.P4D

/- Chapter 04,functions: Decode,the elements. -/
set_option maxRecDepth 100000
set_option maxHeartbeats 4000000
namespace Go.Vm.P4D
open Go Go.Vm Go.Vm.P4
theorem run_rs {γ : Type} (R : Bx → List Int → γ) (e : Bx × List Int → γ) : ∀ (L : List Nat) (b : Bx) (r : List Int),
    (rdRs L.length r = none ∧ ∃ b' r',runL (fun (a : Bx × List Int) (_ : Nat) => if a.2.length < 6 then .inr (R a.1 a.2) else .inl (a.1 ++ [rgOf a.2],a.2.drop 6)) e (b,r) L = R b' r') ∨
    (∃ x r',rdRs L.length r = some (x,r') ∧ x.length = L.length ∧ runL (fun (a : Bx × List Int) (_ : Nat) => if a.2.length < 6 then .inr (R a.1 a.2) else .inl (a.1 ++ [rgOf a.2],a.2.drop 6)) e (b,r) L = e (b ++ x,r'))
  | [],b,r => .inr ⟨[],r,rfl,rfl,by rw [runL_nil,List.append_nil]⟩
  | y :: L,b,r => by
    rw [runL_cons]
    simp only [List.length_cons,rdRs]
    by_cases h : r.length < 6
    · rw [if_pos h]
      exact .inl ⟨rfl,b,r,by simp only [h,if_true]⟩
    · rw [if_neg h]
      simp only [h,if_false]
      rcases run_rs R e L (b ++ [rgOf r]) (r.drop 6) with ⟨h1,b',r',h2⟩ | ⟨x,r',h1,h2,h3⟩
      · exact .inl ⟨by rw [h1],b',r',h2⟩
      · exact .inr ⟨rgOf r :: x,r',by rw [h1],by simp [h2],by rw [h3]; simp⟩
theorem run_vs {γ : Type} (kd : Int) (k : Nat) (R : Int → List Int → List Int → γ) (e : List Int × List Int → γ) : ∀ (L : List Nat) (a r : List Int),
    (∃ er a' r',rdVs kd k L.length r = .inl er ∧ (er = 24 ∨ er = 1) ∧ runL (fun (a : List Int × List Int) (_ : Nat) => if a.2.length < k then .inr (R 24 a.1 a.2) else if ckVal kd (leV (a.2.take k)) ≠ 0 then .inr (R 1 a.1 a.2) else .inl (a.1 ++ [leV (a.2.take k)],a.2.drop k)) e (a,r) L = R er a' r') ∨
    (∃ x r',rdVs kd k L.length r = .inr (x,r') ∧ runL (fun (a : List Int × List Int) (_ : Nat) => if a.2.length < k then .inr (R 24 a.1 a.2) else if ckVal kd (leV (a.2.take k)) ≠ 0 then .inr (R 1 a.1 a.2) else .inl (a.1 ++ [leV (a.2.take k)],a.2.drop k)) e (a,r) L = e (a ++ x,r'))
  | [],a,r => .inr ⟨[],r,rfl,by rw [runL_nil,List.append_nil]⟩
  | y :: L,a,r => by
    rw [runL_cons]
    simp only [List.length_cons,rdVs]
    by_cases h : r.length < k
    · exact .inl ⟨24,a,r,by rw [if_pos h],.inl rfl,by simp only [h,if_true]⟩
    · rw [if_neg h]
      simp only [h,if_false]
      by_cases hv : ckVal kd (leV (r.take k)) = 0
      · simp only [hv,ne_eq,not_true_eq_false,if_false]
        rcases run_vs kd k R e L (a ++ [leV (r.take k)]) (r.drop k) with ⟨er,a',r',h1,h2,h3⟩ | ⟨x,r',h1,h2⟩
        · exact .inl ⟨er,a',r',by rw [h1],h2,h3⟩
        · exact .inr ⟨leV (r.take k) :: x,r',by rw [h1],by rw [h2]; simp⟩
      · exact .inl ⟨1,a,r,by rw [if_pos hv],.inr rfl,by simp only [hv,ne_eq,not_false_eq_true,if_true]⟩
theorem bdF8 (k : Nat) (hk : k ≤ 8) {l : List Int} (h : By l) : 0 ≤ leV (l.take k) ∧ leV (l.take k) < 18446744073709551616:=by
  have h1:=leV_bd _ (h.take k)
  have h2 : (256 : Int) ^ (l.take k).length ≤ 256 ^ 8:=by
    have : (256 : Nat) ^ (l.take k).length ≤ 256 ^ 8:=Nat.pow_le_pow_right (by decide) (by rw [List.length_take]; omega)
    exact_mod_cast this
  have : (256 : Int) ^ 8 = 18446744073709551616:=by decide
  omega
abbrev dcX (k : Int) (bx : Bx) (sd : D) (a r : List Int) (rd : AO) : List AO:=[dcZ,dcB k (.ref 3 2 0 bx.length) (.imm sd) (vK 4 1 (a.map ub)),rd,.farr 2 (bx.map enR)] ++ oK 1 (a.map ub)
def bad2 (k : Int) (bx : Bx) (sd : D) (er : Int) (a r : List Int) : Option (AExit × S) :=
  some (.ret,⟨[.junk,.ptr 0 0,.imm (.int .i64 er),.ptr 1 0,.junk,.junk,.junk,.junk,.junk,.junk,.junk,.junk,.junk,.junk,.junk,.junk,.junk,.junk,.junk,.junk,.junk,.junk,.junk,.junk,.junk,.junk,.junk,.junk],dcX k bx sd a r (if r.length < szN k then rdr .nil true else rdL (r.drop (szN k))),none⟩)
theorem dcL2 (n : Nat) (k : Int) (hk : ckKind k = 0) (bx : Bx) (sd : D) (N : Nat) (hN : N < 1000000) (r0 : List Int) (hb : By r0) (hl : r0.length < 1000000) :
    outC ⟨0,false⟩ [0,1,1,1,0,0,0,0,0,0,0,0,0,0,0,0,0,0,0,0,0,0,0,0,0,0,0,0] (rnd (aCode (level E (n+4)) ⟨0,false⟩ b12_2) (head ⟨0,false⟩ [0,1,0,1,1,0,0,0,0,0,0,0,0,0,0,0,0,0,0,0,0,0,0,1,1,0,0,0])
      ⟨[.junk,.ptr 0 0,.junk,.ptr 1 0,clT,.junk,.junk,.junk,.junk,.junk,.junk,.junk,.junk,.junk,.junk,.junk,.junk,.junk,.junk,.junk,.junk,.junk,.junk,.imm (.int .i64 N),.imm (.int .i64 0),.junk,.junk,.junk],dcX k bx sd [] [] (rdL r0),none⟩) =
    runL (fun (a : List Int × List Int) (_ : Nat) => if a.2.length < szN k then .inr (bad2 k bx sd 24 a.1 a.2) else if ckVal k (leV (a.2.take (szN k))) ≠ 0 then .inr (bad2 k bx sd 1 a.1 a.2) else .inl (a.1 ++ [leV (a.2.take (szN k))],a.2.drop (szN k)))
      (fun a => some (.exit 4,⟨[.junk,.ptr 0 0,.junk,.ptr 1 0,.junk,.junk,.junk,.junk,.junk,.junk,.junk,.junk,.junk,.junk,.junk,.junk,.junk,.junk,.junk,.junk,.junk,.junk,.junk,.junk,.junk,.junk,.junk,.junk],dcX k bx sd a.1 a.2 (rdL a.2),none⟩)) ([],r0) (List.range N):=by
  obtain ⟨z1,z2⟩:=szN_in hk
  have z3:=okSizeG (n+1) k hk
  rw [z1] at z3
  have z4 : 1 ≤ szN k ∧ szN k ≤ 8:=by omega
  have h:=loop_run (f:=aCode (level E (n+4)) ⟨0,false⟩ b12_2) (h:=head ⟨0,false⟩ [0,1,0,1,1,0,0,0,0,0,0,0,0,0,0,0,0,0,0,0,0,0,0,1,1,0,0,0]) (Φ:=outC ⟨0,false⟩ [0,1,1,1,0,0,0,0,0,0,0,0,0,0,0,0,0,0,0,0,0,0,0,0,0,0,0,0]) (List.range N) (fun (a : List Int × List Int) i => ⟨[.junk,.ptr 0 0,.junk,.ptr 1 0,clT,.junk,.junk,.junk,.junk,.junk,.junk,.junk,.junk,.junk,.junk,.junk,.junk,.junk,.junk,.junk,.junk,.junk,.junk,.imm (.int .i64 N),.imm (.int .i64 i),.junk,.junk,.junk],dcX k bx sd a.1 a.2 (rdL a.2),none⟩) (fun a i => a.1.length = i ∧ By a.2)
    (fun (a : List Int × List Int) (_ : Nat) => if a.2.length < szN k then .inr (bad2 k bx sd 24 a.1 a.2) else if ckVal k (leV (a.2.take (szN k))) ≠ 0 then .inr (bad2 k bx sd 1 a.1 a.2) else .inl (a.1 ++ [leV (a.2.take (szN k))],a.2.drop (szN k)))
    (fun a => some (.exit 4,⟨[.junk,.ptr 0 0,.junk,.ptr 1 0,.junk,.junk,.junk,.junk,.junk,.junk,.junk,.junk,.junk,.junk,.junk,.junk,.junk,.junk,.junk,.junk,.junk,.junk,.junk,.junk,.junk,.junk,.junk,.junk],dcX k bx sd a.1 a.2 (rdL a.2),none⟩)) ([],r0) ⟨rfl,hb⟩
    (fun a i x hI h2 h1 => by
      have:=getRange h1
      subst this
      rw [List.length_range] at h2
      obtain ⟨a,r⟩:=a
      obtain ⟨i1,i2⟩:=hI
      dsimp only at i1 i2 ⊢
      have e1 : (a.length + 1) * 9 ≤ 70368744177664:=by omega
      rw [rnd_eq]
      by_cases h6 : r.length < szN k
      · refine ⟨?_,fun b' hb' => by rw [if_pos h6] at hb'; cases hb'⟩
        rw [if_pos h6]
        have t1:=okTakeE (n+3) (szN k) false false r h6
        have c1:=okCheckG n k 0 (by decide) (by decide)
        have f1 : callP (level E (n+4)) 55 [.sl 1 [[.int .i64 24],[.int .i64 (ckB1 k 0)]]] = some (.int .i64 24):=okFirstL (n+3) _ [24,ckB1 k 0] rfl (by simp)
        simp only [go_sem,simprocAttr,rdr,slD_f] at t1
        rcases a with _ | ⟨y,t⟩
        · simp only [go_sem,simprocAttr,lt_t h2,vK,oK,z3,t1,c1,f1,okWhen,bad2,h6,dcZ,dcB,clT,rdL,rdr,dcX,ne_eq,not_false_eq_true]
        · simp only [List.length_cons] at e1
          simp only [go_sem,simprocAttr,lt_t h2,vK,oK,z3,t1,c1,f1,e1,okWhen,bad2,h6,dcZ,dcB,clT,rdL,rdr,dcX,ne_eq,not_false_eq_true]
      · rw [if_neg h6]
        have t1:=okTakeS (n+3) (szN k) z4.1 z4.2 false false r (by omega) i2
        have bv:=bdF8 (szN k) z4.2 i2
        have c1:=okCheckG n k (leV (r.take (szN k))) bv.1 bv.2
        simp only [go_sem,simprocAttr,rdr,slD_f] at t1
        by_cases hv : ckVal k (leV (r.take (szN k))) = 0
        · refine ⟨?_,fun b' hb' => by
            simp only [hv,ne_eq,not_true_eq_false,if_false] at hb'
            injection hb' with hb'
            subst hb'
            exact ⟨by simp [i1],i2.drop _⟩⟩
          have f1 : callP (level E (n+4)) 55 [.sl 1 [[.int .i64 0],[.int .i64 0]]] = some (.int .i64 0):=okFirstL (n+3) _ [0,0] rfl (by simp)
          have e0 : ckB1 k (leV (r.take (szN k))) = 0:=by simp [ckB1,hv]
          rw [e0] at c1
          rcases a with _ | ⟨y,t⟩
          · simp only [go_sem,simprocAttr,lt_t h2,vK,oK,z3,t1,c1,f1,okWhen,hv,dcZ,dcB,clT,rdL,rdr,dcX,ne_eq,not_true_eq_false,Bool.false_eq_true]
            rw [wrpS (by omega)]
          · simp only [List.length_cons] at e1
            simp only [go_sem,simprocAttr,lt_t h2,vK,oK,z3,t1,c1,f1,e1,okWhen,hv,dcZ,dcB,clT,rdL,rdr,dcX,ne_eq,not_true_eq_false,Bool.false_eq_true]
            rw [wrpS (by omega)]
        · refine ⟨?_,fun b' hb' => by
            simp only [hv,ne_eq,not_false_eq_true,if_true] at hb'
            cases hb'⟩
          have f1 : callP (level E (n+4)) 55 [.sl 1 [[.int .i64 0],[.int .i64 1]]] = some (.int .i64 1):=okFirstL (n+3) _ [0,1] rfl (by simp)
          have e0 : ckB1 k (leV (r.take (szN k))) = 1:=by simp [ckB1,hv]
          rw [e0] at c1
          rcases a with _ | ⟨y,t⟩
          · simp only [go_sem,simprocAttr,lt_t h2,vK,oK,z3,t1,c1,f1,okWhen,hv,h6,bad2,dcZ,dcB,clT,rdL,rdr,dcX,ne_eq,not_false_eq_true,Bool.false_eq_true]
          · simp only [List.length_cons] at e1
            simp only [go_sem,simprocAttr,lt_t h2,vK,oK,z3,t1,c1,f1,e1,okWhen,hv,h6,bad2,dcZ,dcB,clT,rdL,rdr,dcX,ne_eq,not_false_eq_true,Bool.false_eq_true])
    (fun a _ => by
      rw [rnd_eq,List.length_range]
      rcases a with ⟨_ | ⟨y,t⟩,r⟩ <;> simp only [go_sem,simprocAttr,lt_f (Nat.le_refl _),vK,oK,dcZ,dcB,clT,rdL,rdr,dcX])
  rw [cast_0] at h
  exact h
end Go.Vm.P4D

/- Chapter 04,functions: Decode,whatever the bytes. -/
set_option maxRecDepth 100000
set_option maxHeartbeats 4000000
namespace Go.Vm.P4D
open Go Go.Vm Go.Vm.P4
theorem dcHd0 {l : List Int} (h : dcHd l = 0) : ∃ k d r,l = k :: d :: r ∧ ckKind k = 0 ∧ 1 ≤ d ∧ d ≤ 3:=by
  rcases l with _ | ⟨k,_ | ⟨d,r⟩⟩
  · cases h
  · simp only [dcHd] at h
    split at h
    · contradiction
    · cases h
  · simp only [dcHd] at h
    split at h
    · contradiction
    · rename_i hk
      split at h
      · rename_i hd
        exact ⟨k,d,r,rfl,by simpa using hk,hd.1,hd.2⟩
      · cases h
theorem flat_st (bx : Bx) (h : bx ≠ []) : flatD (slD true 1 ((strides 1 bx).map ic)) = false:=by
  rcases bx with _ | ⟨y,t⟩
  · exact absurd rfl h
  · rfl
theorem slD_tn {sz : Nat} : slD true sz [] = .nil:=rfl
theorem rdRs_drop : ∀ (d : Nat) (r : List Int) (x : Bx) (r' : List Int),rdRs d r = some (x,r') → r' = r.drop (6 * d)
  | 0,r,x,r',h => by
    simp only [rdRs,Option.some.injEq,Prod.mk.injEq] at h
    rw [← h.2]; rfl
  | d + 1,r,x,r',h => by
    simp only [rdRs] at h
    split at h
    · cases h
    · split at h
      · cases h
      · rename_i b r1 hb
        simp only [Option.some.injEq,Prod.mk.injEq] at h
        rw [← h.2,rdRs_drop d _ _ _ hb,List.drop_drop]
        congr 1
        omega
theorem okDecodeG (n : Nat) (l : List Int) (hb : By l) (hl : l.length < 1000000) : callP (level E (n+10)) 12 [.sl 1 (l.map u8)] = some (.tup [enIm (decI l).1,.int .i64 (decI l).2]):=by
  by_cases h0 : dcHd l = 0
  · obtain ⟨k,d,r,rfl,hc,d1,d3⟩:=dcHd0 h0
    have hk:=hb k (List.mem_cons_self)
    obtain ⟨D,rfl⟩ : ∃ D : Nat,d = D:=⟨d.toNat,by omega⟩
    have hr : By r:=hb.tl.tl
    have hD : decI (k :: (D : Int) :: r) = decT k D r:=by
      unfold decI
      rw [h0]
      simp only [ne_eq,not_true_eq_false,if_false,List.getD_cons_succ,List.getD_cons_zero,List.drop_succ_cons,List.drop_zero,Int.toNat_natCast]
    rw [hD,decT]
    have t1:=okTakeS (n+8) 1 (by decide) (by decide) false false (k :: (D : Int) :: r) (by simp) hb
    have t2:=okTakeS (n+8) 1 (by decide) (by decide) false false ((D : Int) :: r) (by simp) hb.tl
    have k1:=okCheckKind (n+7) k
    have wk : wrp .i64 k = k:=wrp_ok (by omega)
    have wd : wrp .i64 (D : Int) = (D : Int):=wrp_ok (by omega)
    have f1 : callP (level E (n+9)) 55 [.sl 1 [[.int .i64 0],[.int .i64 0]]] = some (.int .i64 0):=okFirstL (n+8) _ [0,0] rfl (by simp)
    have ww:=okWithin (n+8) D 1 3
    rw [show (decide ((D : Int) ≥ 1) && decide ((D : Int) ≤ 3)) = true by simp; omega] at ww
    rw [hc] at k1
    simp only [List.take_succ_cons,List.take_zero,List.drop_succ_cons,List.drop_zero,leV1] at t1 t2
    simp only [go_sem,simprocAttr,rdr,slD_f] at t1 t2
    rw [p12]
    simp only [go_sem,simprocAttr]
    rw [rnd_eq]
    simp only [go_sem,simprocAttr,t1,okWhen,wk,k1,f1,ne_eq,not_true_eq_false,Bool.false_eq_true]
    rw [rnd_eq]
    simp only [go_sem,simprocAttr,t2,wd,okWhen,ww,f1,ne_eq,not_true_eq_false,Bool.false_eq_true]
    rw [rnd_eq]
    simp only [go_sem,simprocAttr]
    rcases run_rs (fun b r => torn1 k b (if r.length < 4 then 0 else wrp .i32 (leV (r.take 4)))) (fun a => some (.exit 2,⟨[.junk,.ptr 0 0,.junk,.ptr 1 0,clT,.junk,.junk,.junk,.junk,.junk,.junk,.junk,.junk,.junk,.junk,.junk,.junk,.junk,.junk,.junk,.junk,.junk,.junk,.junk,.junk,.junk,.junk,.junk],[dcZ,dcB k (vK 3 2 (a.1.map enR)) (.imm .nil) (.imm .nil),rdL a.2] ++ oK 2 (a.1.map enR),none⟩)) (List.range D) [] r with ⟨g1,b',r',g2⟩ | ⟨bx,r',g1,g2,g3⟩
    · have L1:=(dcL1 (n+8) k D (by omega) r hr).trans g2
      rw [List.length_range] at g1
      rw [g1]
      simp only [dcZ,dcB,clT,rdL,rdr,torn1] at L1
      rw [L1]
      simp only [go_sem,simprocAttr,e_im0]
      done
    · have L1:=(dcL1 (n+8) k D (by omega) r hr).trans g3
      rw [List.length_range] at g1 g2
      rw [g1]
      rcases bx with _ | ⟨y,t⟩
      · simp at g2; omega
      simp only [dcZ,dcB,clT,rdL,rdr,List.nil_append,List.map_cons,vK,oK] at L1
      rw [L1]
      have hne : (y :: t) ≠ []:=by simp
      have hdr:=rdRs_drop _ _ _ _ g1
      have hr' : By r':=by rw [hdr]; exact hr.drop _
      have hlr' : r'.length < 1000000:=by rw [hdr,List.length_drop]; simp only [List.length_cons] at hl; omega
      have hl2 : (y :: t).length < 1000000:=by rw [g2]; omega
      have b1:=okCheckBox (n+5) false (y :: t) hl2
      have b2:=okDense (n+8) false (y :: t) (by omega)
      have b3:=okMany (n+8) false (y :: t) (by omega)
      have hf:=flat_st (y :: t) hne
      simp only [decV]
      obtain ⟨ss,hss⟩ : ∃ ss,slD true 1 ((strides 1 (y :: t)).map ic) = .sl 1 ([.int .i64 1] :: ss):=⟨_,rfl⟩
      rw [hss] at b2
      simp only [enB,slD_c,List.map_cons,enR] at b1 b2 b3
      by_cases hcb : ckBox (y :: t) = 0
      · obtain ⟨N,hN,hN2⟩:=many_nat hcb
        rw [hN] at b3 ⊢
        rw [hcb] at b1
        simp only [go_sem,simprocAttr,b1,b2,b3,hcb,ne_eq,not_true_eq_false]
        rcases run_vs k (szN k) (bad2 k (y :: t) (.sl 1 ([.int .i64 1] :: ss))) (fun a => some (.exit 4,⟨[.junk,.ptr 0 0,.junk,.ptr 1 0,.junk,.junk,.junk,.junk,.junk,.junk,.junk,.junk,.junk,.junk,.junk,.junk,.junk,.junk,.junk,.junk,.junk,.junk,.junk,.junk,.junk,.junk,.junk,.junk],dcX k (y :: t) (.sl 1 ([.int .i64 1] :: ss)) a.1 a.2 (rdL a.2),none⟩)) (List.range N) [] r' with ⟨er,a',r'',q1,q2,q3⟩ | ⟨a',r'',q1,q2⟩
        · have L2:=(dcL2 (n+5) k hc (y :: t) (.sl 1 ([.int .i64 1] :: ss)) N (by omega) r' hr' hlr').trans q3
          rw [List.length_range] at q1
          simp only [Int.toNat_natCast,q1]
          simp only [dcZ,dcB,clT,rdL,rdr,dcX,vK,oK,List.map_nil,List.map_cons,enR,List.append_nil,List.length_cons,bad2] at L2
          rw [L2]
          by_cases hq : r''.length < szN k <;> rcases a' with _ | ⟨z,a'⟩ <;> simp only [go_sem,simprocAttr,hq,vK,oK,e_im0]
        · have L2:=(dcL2 (n+5) k hc (y :: t) (.sl 1 ([.int .i64 1] :: ss)) N (by omega) r' hr' hlr').trans q2
          rw [List.length_range] at q1
          simp only [Int.toNat_natCast,q1]
          simp only [dcZ,dcB,clT,rdL,rdr,dcX,vK,oK,List.map_nil,List.map_cons,enR,List.append_nil,List.length_cons,List.nil_append] at L2
          rw [L2]
          simp only [enIm,enB,List.map_cons,enR,slD_c] at hss ⊢
          rcases r'' with _ | ⟨x,r''⟩
          · have h0 : decide ((0 : Int) > 0) = false:=by decide
            have h0' : ¬ (0 > 0):=by decide
            rcases a' with _ | ⟨z,a'⟩ <;> simp only [go_sem,simprocAttr,vK,oK,hss,slD_tn,slD_c,List.map_nil,List.map_cons,h0,h0',List.length_nil,if_false]
          · have h1 : decide (((r''.length + 1 : Nat) : Int) > 0) = true:=decide_eq_true (by omega)
            have h1' : r''.length + 1 > 0:=by omega
            rcases a' with _ | ⟨z,a'⟩ <;> simp only [go_sem,simprocAttr,vK,oK,h1,h1',List.length_cons,if_true,im0,List.map_nil,slD_tn]
      · simp only [go_sem,simprocAttr,b1,hcb,ne_eq,not_false_eq_true,e_im0]
        done
  · rw [okDecE n l hb hl h0]
    unfold decI
    rw [if_pos h0]
end Go.Vm.P4D

/- Chapter 04,plain: transposed twice,rules of edges,bytes there and back. -/
set_option maxRecDepth 100000
set_option maxHeartbeats 1000000
namespace Go.Vm.P4D
open Go Go.Vm Go.Vm.P4
theorem swp_swp {α : Type} (l : List α) (a b : Nat) (ha : a < l.length) (hb : b < l.length) : swp (swp l a b) a b = l:=by
  apply List.ext_getElem?
  intro i
  rw [swp_get _ a b (by rw [swp_len]; exact ha) (by rw [swp_len]; exact hb),swp_get l a b ha hb,swp_get l a b ha hb,swp_get l a b ha hb]
  by_cases h1 : i = b
  · subst h1
    by_cases h2 : a = i
    · subst h2; simp
    · simp [h2]
  · by_cases h2 : i = a
    · subst h2; simp [h1]
    · simp [h1,h2]
theorem prod_swp {l : Bx} (h3 : l.length ≤ 3) (i : Nat) (hi : i < l.length) : prodE (swp l 0 i) = prodE l:=by
  rcases l with _ | ⟨r,_ | ⟨s,_ | ⟨t,_ | ⟨u,l⟩⟩⟩⟩
  · simp at hi
  · have : i = 0:=by simp at hi; omega
    subst this; rfl
  · rcases i with _ | _ | i
    · rfl
    · show 1 * r.ex * s.ex = 1 * s.ex * r.ex
      rw [Int.one_mul,Int.one_mul,Int.mul_comm]
    · simp at hi; omega
  · rcases i with _ | _ | _ | i
    · rfl
    · show 1 * t.ex * r.ex * s.ex = 1 * t.ex * s.ex * r.ex
      rw [Int.mul_assoc,Int.mul_comm r.ex,← Int.mul_assoc]
    · show 1 * r.ex * s.ex * t.ex = 1 * t.ex * s.ex * r.ex
      rw [Int.one_mul,Int.one_mul,Int.mul_comm (r.ex * s.ex),← Int.mul_assoc,Int.mul_comm (t.ex * r.ex),← Int.mul_assoc,Int.mul_comm s.ex t.ex,Int.mul_assoc]
    · simp at hi; omega
  · simp at h3
theorem swp_box {l : Bx} (h : ckBox l = 0) (N : Nat) (hN : many l = N) (i : Nat) (hi : i < l.length) : ckBox (swp l 0 i) = 0 ∧ many (swp l 0 i) = N:=by
  obtain ⟨a1,a2,a3,a4⟩:=ckBox0 h
  have hl:=swp_len l 0 i
  have ho:=swp_okr a3 0 i
  have e1:=many_prod a3 a2
  have e2:=many_prod ho (by omega)
  have e3:=prod_swp a2 i hi
  exact ⟨ckBox_of (by omega) (by omega) ho (by omega),by omega⟩
theorem trans_ok {m : Im} (h : ckI m = 0) (N : Nat) (G : Good m N) (i : Nat) (hi : i < m.bx.length) : transR m 0 (i : Int) = (dnI m.kd false (swp m.bx 0 i) N (fun p => atI m (swp p 0 i)),0):=by
  have h1 : ckT1 m 0 (i : Int) = 0:=by
    unfold ckT1
    rw [h,if_pos (by omega),if_pos (by omega)]
    rfl
  have hs:=(swp_box G.bx N G.many i hi).2
  unfold transR
  rw [if_pos h1,Int.toNat_natCast,show (0 : Int).toNat = 0 from rfl,hs,Int.toNat_natCast]
theorem trans_trans {m : Im} (h : ckI m = 0) (hv : Ok64 m.dt) (N : Nat) (G : Good m N) (i : Nat) (hi : i < m.bx.length) :
    (transR m 0 (i : Int)).2 = 0 ∧ Ok64 (transR m 0 (i : Int)).1.dt ∧ Alike (transR m 0 (i : Int)).1 (transR m 0 (i : Int)).1 ∧ (transR (transR m 0 (i : Int)).1 0 (i : Int)).2 = 0 ∧ Alike (transR (transR m 0 (i : Int)).1 0 (i : Int)).1 (dnI m.kd false m.bx N (atI m)):=by
  have l3:=G.len3
  have l1:=G.len1
  have h0 : 0 < m.bx.length:=by omega
  have sm:=G.small
  obtain ⟨b1,b2⟩:=swp_box G.bx N G.many i hi
  have hin : ∀ p,InB (swp m.bx 0 i) p → InB m.bx (swp p 0 i):=fun p hp => swp_in h0 hi hp
  obtain ⟨t1,t2,t3⟩:=dn_good (b:=false) G.kd b1 N b2 (fun p => atI m (swp p 0 i)) (fun j hj => good_val G hv (hin _ (has_dig b1 N b2 j hj).1))
  have hss:=swp_swp m.bx 0 i h0 hi
  have hsl:=swp_len m.bx 0 i
  obtain ⟨N',G'⟩:=good_of t1
  have hN' : N' = N:=by
    have q1:=G'.many
    have : many (dnI m.kd false (swp m.bx 0 i) N (fun p => atI m (swp p 0 i))).bx = N:=b2
    omega
  subst hN'
  rw [trans_ok h N' G i hi]
  have e2:=trans_ok t1 N' G' i (by show i < (swp m.bx 0 i).length; rw [hsl]; exact hi)
  have e2' : transR (dnI m.kd false (swp m.bx 0 i) N' (fun p => atI m (swp p 0 i))) 0 (i : Int) = (dnI m.kd false m.bx N' (fun p => atI (dnI m.kd false (swp m.bx 0 i) N' (fun p => atI m (swp p 0 i))) (swp p 0 i)),0):=by
    rw [e2]
    show (dnI m.kd false (swp (swp m.bx 0 i) 0 i) N' _,(0 : Int)) = _
    rw [hss]
  refine ⟨rfl,t2,⟨rfl,rfl,rfl,rfl,?_,?_,?_⟩,?_,?_⟩
  · show (swp m.bx 0 i).length < _; omega
  · show (strides 1 (swp m.bx 0 i)).length < _; rw [strides_len]; omega
  · simp [dnI]; omega
  · rw [e2']
  · rw [e2']
    refine ⟨rfl,rfl,rfl,?_,?_,?_,?_⟩
    · refine List.map_congr_left fun j hj => ?_
      rw [List.mem_range] at hj
      have hd:=(has_dig G.bx N' G.many j hj).1
      have hdl:=in_pad hd
      have hq : InB (swp m.bx 0 i) (swp (digits m.bx j) 0 i):=swp_in (by rw [hsl]; exact h0) (by rw [hsl]; exact hi) (by rw [hss]; exact hd)
      show atI m (digits m.bx j) = atI (dnI m.kd false (swp m.bx 0 i) N' (fun p => atI m (swp p 0 i))) (swp (digits m.bx j) 0 i)
      rw [t3 _ hq,swp_swp _ 0 i (by omega) (by omega)]
    · show m.bx.length < _; omega
    · show (strides 1 m.bx).length < _; rw [strides_len]; omega
    · simp [dnI]; omega
theorem inn_in : ∀ (rule : Nat) (l : Bx) (p : List Int),rule < 3 → Okr l → InB l p → List.zipWith (inn rule) l p = p
  | _,[],[],_,_,_ => rfl
  | _,[],_ :: _,_,_,h => h.elim
  | _,_ :: _,[],_,_,h => h.elim
  | rule,r :: l,x :: p,hr,ho,⟨h1,h2,h3⟩ => by
    have k:=ckRange0 (ho r (by simp))
    rw [List.zipWith_cons_cons,inn_in rule l p hr ho.tl h3]
    congr 1
    rcases rule with _ | _ | _ | rule
    · show min (max x r.lo) (r.lo + r.ex - 1) = x; omega
    · show r.lo + (x - r.lo) % r.ex = x
      rw [Int.emod_eq_of_lt (by omega) (by omega)]; omega
    · show r.lo + min ((x - r.lo) % (2 * r.ex)) (2 * r.ex - 1 - (x - r.lo) % (2 * r.ex)) = x
      rw [Int.emod_eq_of_lt (by omega) (by omega)]; omega
    · omega
theorem inn_far (rule : Nat) (h1 : 1 ≤ rule) (h3 : rule < 3) (r : Rg) (c : Int) : inn rule r (c + r.ex * rule) = inn rule r c:=by
  rcases rule with _ | _ | _ | rule
  · omega
  · show r.lo + (c + r.ex * ((0 + 1 : Nat) : Int) - r.lo) % r.ex = r.lo + (c - r.lo) % r.ex
    have : c + r.ex * ((0 + 1 : Nat) : Int) - r.lo = (c - r.lo) + r.ex:=by simp; omega
    rw [this,Int.add_emod_right]
  · have e : c + r.ex * ((0 + 1 + 1 : Nat) : Int) - r.lo = (c - r.lo) + 2 * r.ex:=by simp; omega
    show r.lo + min ((c + r.ex * ((0 + 1 + 1 : Nat) : Int) - r.lo) % (2 * r.ex)) (2 * r.ex - 1 - (c + r.ex * ((0 + 1 + 1 : Nat) : Int) - r.lo) % (2 * r.ex)) = r.lo + min ((c - r.lo) % (2 * r.ex)) (2 * r.ex - 1 - (c - r.lo) % (2 * r.ex))
    rw [e,Int.add_emod_right]
  · omega
theorem zip_set {α β γ : Type} (f : α → β → γ) : ∀ (l : List α) (p : List β) (i : Nat) (x : β),(∀ r y,l[i]? = some r → p[i]? = some y → f r x = f r y) → List.zipWith f l (p.set i x) = List.zipWith f l p
  | [],_,_,_,_ => by simp
  | _ :: _,[],_,_,_ => by simp
  | r :: l,y :: p,0,x,h => by simp [h r y rfl rfl]
  | r :: l,y :: p,i + 1,x,h => by
    simp only [List.set_cons_succ,List.zipWith_cons_cons]
    rw [zip_set f l p i x (fun r y h1 h2 => h r y (by simpa using h1) (by simpa using h2))]
theorem edge_ok {m : Im} (h : ckI m = 0) (N : Nat) (G : Good m N) (hN : N ≠ 0) (rule : Nat) (hr : rule < 3) (p : List Int) (hl : p.length = m.bx.length) (hp : ∀ x ∈ p,-1048576 ≤ x ∧ x ≤ 1048576) :
    edgeR m rule p 0 0 = ((m.kd,atI m (List.zipWith (inn rule) m.bx p)),0):=by
  have h1 : ckE1 m rule p = 0:=by
    unfold ckE1
    rw [h,if_pos (by omega),if_pos hl]
    rfl
  have h2 : p.any farB = false:=by
    rw [List.any_eq_false]
    intro x hx
    have:=hp x hx
    simp [farB,this.1,this.2]
  have hm:=G.many
  unfold edgeR
  rw [if_pos h1,h2,if_neg (by simp),if_neg (by omega),if_neg (by omega),Int.toNat_natCast]
theorem leV_le1 (v : Int) : leV (leB 1 v) = v % 256:=by simp only [leB_s,leB_0,leV]; omega
theorem leV_le2 (v : Int) : leV (leB 2 v) = v % 65536:=by simp only [leB_s,leB_0,leV]; omega
theorem leV_le4 (v : Int) : leV (leB 4 v) = v % 4294967296:=by simp only [leB_s,leB_0,leV]; omega
theorem leV_le8 (v : Int) : leV (leB 8 v) = v % 18446744073709551616:=by simp only [leB_s,leB_0,leV]; omega
theorem leB_by : ∀ (k : Nat) (v : Int),By (leB k v)
  | 0,_ => fun x hx => by cases hx
  | k + 1,v => fun x hx => by
    rw [leB_s] at hx
    rcases List.mem_cons.1 hx with rfl | hx
    · omega
    · exact leB_by k _ x hx
theorem val_fits {k v : Int} (h : ValOk k v) : leV (leB (szN k) v) = v:=by
  obtain ⟨⟨h0,h1⟩,h2⟩:=h
  have hk : ckKind k = 0:=by
    unfold ckVal at h2
    by_cases hk : ckKind k = 0
    · exact hk
    · rw [if_neg hk] at h2; cases h2
  have hv : vOk k v = true:=by
    unfold ckVal at h2
    rw [if_pos hk] at h2
    cases hq : vOk k v
    · rw [hq] at h2; cases h2
    · rfl
  rcases kinds11 hk with rfl | rfl | rfl | rfl | rfl | rfl | rfl | rfl | rfl | rfl | rfl
  · have : v < 2:=by simpa [vOk,wdL] using hv
    exact (leV_le1 v).trans (by omega)
  · have : v < 256:=by simpa [vOk,wdL] using hv
    exact (leV_le1 v).trans (by omega)
  · have : v < 65536:=by simpa [vOk,wdL] using hv
    exact (leV_le2 v).trans (by omega)
  · have : v < 4294967296:=by simpa [vOk,wdL] using hv
    exact (leV_le4 v).trans (by omega)
  · exact (leV_le8 v).trans (by omega)
  · have : v < 256:=by simpa [vOk,wdL] using hv
    exact (leV_le1 v).trans (by omega)
  · have : v < 65536:=by simpa [vOk,wdL] using hv
    exact (leV_le2 v).trans (by omega)
  · have : v < 4294967296:=by simpa [vOk,wdL] using hv
    exact (leV_le4 v).trans (by omega)
  · exact (leV_le8 v).trans (by omega)
  · have : v < 4294967296:=by simp [vOk] at hv; exact hv.1
    exact (leV_le4 v).trans (by omega)
  · exact (leV_le8 v).trans (by omega)
theorem rgOf_rgB {r : Rg} (h : ckRange r = 0) (rest : List Int) : rgOf (rgB r ++ rest) = r ∧ (rgB r ++ rest).drop 6 = rest:=by
  have k:=ckRange0 h
  have e1 : (rgB r ++ rest).take 4 = leB 4 (wrp .u64 r.lo):=rfl
  have e2 : ((rgB r ++ rest).drop 4).take 2 = leB 2 (wrp .u64 r.ex):=rfl
  refine ⟨?_,rfl⟩
  unfold rgOf
  rw [e1,e2,leV_le4,leV_le2,wrp_i32,wrp_u64,wrp_u64]
  rcases r with ⟨lo,ex⟩
  dsimp only at *
  congr 1 <;> omega
theorem rdRs_enc : ∀ (l : Bx) (rest : List Int),Okr l → rdRs l.length (l.flatMap rgB ++ rest) = some (l,rest)
  | [],rest,_ => rfl
  | r :: l,rest,h => by
    rw [List.length_cons,List.flatMap_cons,List.append_assoc,rdRs]
    obtain ⟨e1,e2⟩:=rgOf_rgB (h r (by simp)) (l.flatMap rgB ++ rest)
    rw [e1,e2,rdRs_enc l rest h.tl,if_neg (by rw [List.length_append,rgB_len]; omega)]
theorem rdVs_enc (kd : Int) : ∀ (vs rest : List Int) (j : Nat),(∀ v ∈ vs,ValOk kd v) → rdVs kd (szN kd) (vs.length + j) (vs.flatMap (leB (szN kd)) ++ rest) = match rdVs kd (szN kd) j rest with | .inl e => .inl e | .inr (a,r') => .inr (vs ++ a,r')
  | [],rest,j,_ => by
    rw [List.length_nil,Nat.zero_add,List.flatMap_nil,List.nil_append]
    rcases rdVs kd (szN kd) j rest with e | ⟨a,r'⟩ <;> rfl
  | v :: vs,rest,j,h => by
    have hv:=h v (by simp)
    have e:=val_fits hv
    have hlen:=leB_len (szN kd) v
    rw [show (v :: vs).length + j = (vs.length + j) + 1 by simp; omega,List.flatMap_cons,List.append_assoc,rdVs]
    have t1 : (leB (szN kd) v ++ (vs.flatMap (leB (szN kd)) ++ rest)).take (szN kd) = leB (szN kd) v:=by
      rw [List.take_append_of_le_length (by omega),List.take_of_length_le (by omega)]
    have t2 : (leB (szN kd) v ++ (vs.flatMap (leB (szN kd)) ++ rest)).drop (szN kd) = vs.flatMap (leB (szN kd)) ++ rest:=by
      rw [List.drop_append_of_le_length (by omega),List.drop_of_length_le (by omega),List.nil_append]
    rw [t1,t2,e,if_neg (by rw [List.length_append,hlen]; omega),if_neg (by simp [hv.2]),rdVs_enc kd vs rest j (fun x hx => h x (List.mem_cons_of_mem _ hx))]
    rcases rdVs kd (szN kd) j rest with e | ⟨a,r'⟩ <;> rfl
end Go.Vm.P4D

/- Chapter 04,functions: the reference's Set and Same. -/
set_option maxRecDepth 100000
set_option maxHeartbeats 4000000
namespace Go.Vm.P4D
open Go Go.Vm Go.Vm.P4
theorem zip_run {α γ : Type} [DecidableEq α] (T F : γ) : ∀ l o : List α,l.length = o.length → runL (γ:=γ) (fun (_ : Unit) (x : α × α) => if x.1 = x.2 then .inl () else .inr F) (fun _ => T) () (List.zip l o) = if l = o then T else F
  | [],[],_ => rfl
  | [],_ :: _,h => by simp at h
  | _ :: _,[],h => by simp at h
  | x :: l,y :: o,h => by
    rw [List.zip_cons_cons,runL_cons]
    by_cases q : x = y
    · subst q
      simp only [if_true,zip_run T F l o (by simpa using h),List.cons.injEq,true_and]
    · simp only [q,if_false,List.cons.injEq,false_and]
end Go.Vm.P4D

/- Chapter 04,functions: Same. -/
set_option maxRecDepth 100000
set_option maxHeartbeats 4000000
namespace Go.Vm.P4D
open Go Go.Vm Go.Vm.P4
theorem aEqB (a b c d : Int) : aEq (.agg [(0,.agg [(0,.int),(1,.int)])]) (.imm (.agg [.int .i64 a,.int .i64 b])) (.imm (.agg [.int .i64 c,.int .i64 d])) = some (decide (a = c ∧ b = d)):=by
  by_cases h1 : a = c
  · by_cases h2 : b = d
    · simp [aEq,eqL,eqE,intEq,h1,h2]
    · have z : (b == d) = false:=by simpa using h2
      simp [aEq,eqL,eqE,intEq,h1,h2,z]
  · have z : (a == c) = false:=by simpa using h1
    simp [aEq,eqL,eqE,intEq,h1,z]
noncomputable def lpAt' {γ : Type} {f : S → Option (AExit × S)} {h : S → S} {Φ : Option (AExit × S) → γ} (t : S) : γ:=Φ (rnd f h t)
theorem okBequal (n : Nat) (r s : Rg) : callP (level E (n+1)) 64 [.agg [.int .i64 r.lo,.int .i64 r.ex],.agg [.int .i64 s.lo,.int .i64 s.ex]] = some (.bool (decide (r = s))):=by
  have e : decide (r = s) = decide (r.lo = s.lo ∧ r.ex = s.ex):=by
    rcases r with ⟨a,b⟩; rcases s with ⟨c,d⟩; simp only [Rg.mk.injEq]
  rw [e,p64]
  simp only [go_sem,simprocAttr,aEqB]
def ckSm (m o : Im) : Int:=fnz [ckI m,ckI o]
abbrev bqF : AV:=.imm (.fn 64 [] [])
abbrev smV (m : Im) : AV:=.imm (.ptr [.int .i64 m.kd,enB m.bb m.bx,slD m.tb 1 (m.st.map ic),slD m.db 1 (m.dt.map ub)])
theorem okSameL (n : Nat) (m o : Im) (hl : m.bx.length = o.bx.length) (hx : m.bx.length < 1000000) :
    lpAt' (f:=aCode (level E (n+1)) ⟨0,false⟩ b14_0) (h:=head ⟨0,false⟩ [0,0,1,1,1,1,0,1,0,0,0,0,0,0,1,1,0,0,0,0,0,0]) (Φ:=outC ⟨0,false⟩ [0,0,1,1,1,1,0,0,0,0,0,0,0,0,0,0,0,0,0,0,0,0]) (⟨[.junk,.junk,.ptr 0 0,.ptr 1 0,smV m,smV o,.junk,bqF,.junk,.junk,.junk,.junk,.junk,.junk,.imm (.int .i64 o.bx.length),.imm (.int .i64 0),.junk,.junk,.junk,.junk,.junk,.junk],[.box [.imm (.bool false)],.box [.imm (.int .i64 0)]],none⟩) =
      if m.bx = o.bx then some (.exit 0,⟨[.junk,.junk,.ptr 0 0,.ptr 1 0,smV m,smV o,.junk,.junk,.junk,.junk,.junk,.junk,.junk,.junk,.junk,.junk,.junk,.junk,.junk,.junk,.junk,.junk],[.box [.imm (.bool false)],.box [.imm (.int .i64 0)]],none⟩) else some (.ret,⟨[.junk,.junk,.ptr 0 0,.ptr 1 0,smV m,smV o,.junk,.junk,.junk,.junk,.junk,.junk,.junk,.junk,.junk,.junk,.junk,.junk,.junk,.junk,.junk,.junk],[.box [.imm (.bool false)],.box [.imm (.int .i64 0)]],none⟩):=by
  have h:=loop_run (f:=aCode (level E (n+1)) ⟨0,false⟩ b14_0) (h:=head ⟨0,false⟩ [0,0,1,1,1,1,0,1,0,0,0,0,0,0,1,1,0,0,0,0,0,0]) (Φ:=outC ⟨0,false⟩ [0,0,1,1,1,1,0,0,0,0,0,0,0,0,0,0,0,0,0,0,0,0]) (List.zip m.bx o.bx) (fun (_ : Unit) i => ⟨[.junk,.junk,.ptr 0 0,.ptr 1 0,smV m,smV o,.junk,bqF,.junk,.junk,.junk,.junk,.junk,.junk,.imm (.int .i64 o.bx.length),.imm (.int .i64 i),.junk,.junk,.junk,.junk,.junk,.junk],[.box [.imm (.bool false)],.box [.imm (.int .i64 0)]],none⟩) (fun _ _ => True)
    (fun _ x => if x.1 = x.2 then .inl () else .inr (some (.ret,⟨[.junk,.junk,.ptr 0 0,.ptr 1 0,smV m,smV o,.junk,.junk,.junk,.junk,.junk,.junk,.junk,.junk,.junk,.junk,.junk,.junk,.junk,.junk,.junk,.junk],[.box [.imm (.bool false)],.box [.imm (.int .i64 0)]],none⟩))) (fun _ => some (.exit 0,⟨[.junk,.junk,.ptr 0 0,.ptr 1 0,smV m,smV o,.junk,.junk,.junk,.junk,.junk,.junk,.junk,.junk,.junk,.junk,.junk,.junk,.junk,.junk,.junk,.junk],[.box [.imm (.bool false)],.box [.imm (.int .i64 0)]],none⟩)) () trivial
    (fun _ i x _ h2 h1 => ⟨by
      rw [List.length_zip] at h2
      have hil : i < m.bx.length:=by omega
      have hio : i < o.bx.length:=by omega
      have hlt : (i : Int) < (o.bx.length : Int):=by omega
      have g1 : m.bx[i]? = some x.1:=by
        rw [List.getElem?_zip_eq_some] at h1; exact h1.1
      have g2 : o.bx[i]? = some x.2:=by
        rw [List.getElem?_zip_eq_some] at h1; exact h1.2
      have be:=okBequal n x.1 x.2
      rw [rnd_eq]
      by_cases q : x.1 = x.2
      · simp only [q,decide_true] at be g1
        simp only [go_sem,simprocAttr,enB,enR,hlt,g1,g2,be,q]
        rw [wrpS (by omega)]
      · simp only [q,decide_false] at be
        simp only [go_sem,simprocAttr,enB,enR,hlt,g1,g2,be,q],fun _ _ => trivial⟩)
    (fun _ _ => by
      rw [rnd_eq]
      have hlt : ¬ (o.bx.length : Int) < (o.bx.length : Int):=by omega
      rw [List.length_zip,hl,Nat.min_self]
      simp only [go_sem,simprocAttr,enB,hlt])
  rw [cast_0,zip_run _ _ _ _ hl] at h
  unfold lpAt'
  rw [h]
def SmV (m o : Im) : List AV:=[.junk,.junk,.ptr 0 0,.ptr 1 0,.imm (.ptr [.int .i64 o.kd,slD m.bb 2 (m.bx.map enR),slD m.tb 1 (m.st.map ic),slD m.db 1 (m.dt.map ub)]),.imm (.ptr [.int .i64 o.kd,slD o.bb 2 (o.bx.map enR),slD o.tb 1 (o.st.map ic),slD o.db 1 (o.dt.map ub)]),.junk,.junk,.junk,.ptr 2 0,.ptr 3 0,.junk,.junk,.junk,.junk,.junk,.junk,.junk,.imm (.fn 95 [] [.ptr [slD m.bb 2 (m.bx.map enR)]]),.junk,.junk,.junk]
def SmO (m o : Im) : List AO:=[.box [.imm (.bool false)],.box [.imm (.int .i64 0)],.box [.imm (.int .i64 o.kd),.imm (slD m.bb 2 (m.bx.map enR)),.imm (slD m.tb 1 (m.st.map ic)),.imm (slD m.db 1 (m.dt.map ub))],.box [.imm (.int .i64 o.kd),.imm (slD o.bb 2 (o.bx.map enR)),.imm (slD o.tb 1 (o.st.map ic)),.imm (slD o.db 1 (o.dt.map ub))]]
def SmSt (m o : Im) (_ : Unit) : Ext:=⟨[19,20],b14_1,b14_2,SmV m o,SmO m o,0,none⟩
def SmEnd (m o : Im) : Ext:=⟨[19,20],b14_1,b14_2,SmV m o,SmO m o,0,some .ret⟩
theorem okSameR (n : Nat) (m o : Im) (hk : m.kd = o.kd) (l : Bx) (i : Nat) (u v : Int) (h1 : callP (level E (n+2)) 62 [enIm m,enP (plc l i)] = some (.int .u64 u)) (h2 : callP (level E (n+2)) 62 [enIm o,enP (plc l i)] = some (.int .u64 v)) :
    (level E (n+3)).round (SmSt m o ()) [.int .i64 (i : Int),enP (plc l i)] = if u = v then some (SmSt m o (),true) else some (SmEnd m o,false):=by
  obtain ⟨x,y,z,hp⟩ : ∃ x y z,plc l i = [x,y,z]:=by
    match hh : plc l i,plc_len l i with
    | [x,y,z],_ => exact ⟨x,y,z,rfl⟩
  rw [hp] at h1 h2 ⊢
  simp only [enP,List.map_cons,List.map_nil,enIm,enB,hk] at h1 h2
  unfold SmSt SmEnd
  rw [round_go rfl]
  simp only [SmV,SmO,enP]
  by_cases q : u = v
  · simp only [go_sem,simprocAttr,h1,h2,q,ne_eq,not_true_eq_false]
  · simp only [go_sem,simprocAttr,h1,h2,q,ne_eq,not_false_eq_true]
theorem map_run {γ : Type} (a b : Nat → Int) (T : Unit → γ) (F : γ) : ∀ r : List Nat,runL (γ:=γ) (fun (_ : Unit) i => if a i = b i then .inl () else .inr F) T () r = if r.map a = r.map b then T () else F
  | [] => rfl
  | i :: r => by
    rw [runL_cons]
    by_cases q : a i = b i
    · simp only [q,if_true,map_run a b T F r,List.map_cons,List.cons.injEq,true_and]
    · simp only [q,if_false,List.map_cons,List.cons.injEq,false_and]
theorem okSame2 (n : Nat) (m o : Im) (hx : m.bx.length < 1000000) (hs : m.st.length < 1000000) (hd : m.dt.length < 1000000) (hv : Ok64 m.dt) (hx' : o.bx.length < 1000000) (hs' : o.st.length < 1000000) (hd' : o.dt.length < 1000000) (hv' : Ok64 o.dt) (M O : Nat) (G : Good m M) (H : Good o O) (h : ckSm m o = 0) (hk : m.kd = o.kd) (hl : m.bx.length = o.bx.length) :
    callP (level E (n+10)) 14 [enIm m,enIm o] = some (.tup [.bool (decide (m.bx = o.bx ∧ (List.range M).map (fun i => atI m (digits m.bx (i : Nat))) = (List.range O).map (fun i => atI o (digits o.bx (i : Nat))))),.int .i64 0]):=by
  have c1:=okCheckI n m hx hs hd hv
  have c2:=okCheckI n o hx' hs' hd' hv'
  have f1 : callP (level E (n+9)) 55 [.sl 1 [[.int .i64 (ckI m)],[.int .i64 (ckI o)]]] = some (.int .i64 (ckSm m o)):=okFirstL (n+8) _ [ckI m,ckI o] rfl (by simp)
  rw [h] at f1
  rw [p14]
  have hl' : (m.bx.length : Int) = o.bx.length:=by omega
  simp only [enIm,enB,hk] at c1 c2 ⊢
  simp only [go_sem,simprocAttr,c1,c2,f1,enB,hk,hl',ne_eq,not_true_eq_false]
  have hL:=okSameL (n+8) m o hl hx
  unfold lpAt' at hL
  simp only [smV,bqF,enB,hk] at hL
  rw [hL]
  by_cases q : m.bx = o.bx
  · have a1:=okAll (n+8) m.bb m.bx
    simp only [enB] at a1
    have eMO : M = O:=by have g1:=G.many; have g2:=H.many; rw [q] at g1; omega
    have hr:=okAll1 (n+7) m.bb m.bx G.len3 M G.many (by have:=G.small; omega) (SmSt m o) (fun _ _ => True) (fun _ i => if atI m (digits m.bx (i : Nat)) = atI o (digits o.bx (i : Nat)) then .inl () else .inr (SmEnd m o)) () trivial
      (fun _ i _ hi => ⟨by
        have hxx:=ex_pos G.okr (by have:=G.many; omega : many m.bx ≠ 0)
        have pt:=plc_take m.bx G.okr G.len3 hxx i
        have u1:=view_pts (n+5) m M G m.bx G.okr G.len3 rfl M G.many (fun _ h => h) i hi
        have v1:=view_pts (n+5) o O H m.bx G.okr G.len3 (by rw [q]) M G.many (fun _ h => by rw [q] at h; exact h) i hi
        rw [pt] at u1 v1
        rw [okSameR (n+5) m o hk m.bx i _ _ u1 v1,← q]
        by_cases z : atI m (digits m.bx (i : Nat)) = atI o (digits m.bx (i : Nat))
        · simp only [z,if_true]
        · simp only [z,if_false],fun _ _ => trivial⟩)
    rw [map_run (fun i => atI m (digits m.bx (i : Nat))) (fun i => atI o (digits o.bx (i : Nat)))] at hr
    rw [if_pos q,← eMO]
    simp only [go_sem,simprocAttr,a1]
    simp only [SmSt,SmV,SmO,enB] at hr
    rw [hr]
    by_cases z : (List.range M).map (fun i => atI m (digits m.bx (i : Nat))) = (List.range M).map (fun i => atI o (digits o.bx (i : Nat)))
    · rw [if_pos z]
      simp only [q] at z
      simp only [go_sem,simprocAttr,q,z,true_and,decide_true,SmSt,SmV,SmO]
    · rw [if_neg z]
      simp only [go_sem,simprocAttr,SmEnd,SmV,SmO,z,and_false]
  · rw [if_neg q]
    simp only [go_sem,simprocAttr,q,false_and]
end Go.Vm.P4D

/- Chapter 04,plain: an image comes back from its bytes. -/
set_option maxRecDepth 100000
set_option maxHeartbeats 1000000
namespace Go.Vm.P4D
open Go Go.Vm Go.Vm.P4
def backI (m : Im) (N : Nat) : Im:=dnI m.kd true m.bx N (atI m)
theorem decT_enc {m : Im} {N : Nat} (G : Good m N) (hv : Ok64 m.dt) (vs : List Int) (h : ∀ v ∈ vs,ValOk m.kd v) (rest : List Int) (j : Nat) (hj : vs.length + j = N) :
    decT m.kd m.bx.length (m.bx.flatMap rgB ++ (vs.flatMap (leB (szN m.kd)) ++ rest)) = match rdVs m.kd (szN m.kd) j rest with
      | .inl e => (im0,e)
      | .inr (a,r') => if r'.length > 0 then (im0,2) else (⟨m.kd,true,m.bx,true,strides 1 m.bx,true,vs ++ a⟩,0):=by
  have hm:=G.many
  have e : (many m.bx).toNat = N:=by omega
  unfold decT
  rw [rdRs_enc m.bx _ G.okr]
  show decV m.kd m.bx (vs.flatMap (leB (szN m.kd)) ++ rest) = _
  unfold decV
  rw [if_neg (by rw [G.bx]; simp),e,← hj,rdVs_enc m.kd vs rest j h]
  rcases rdVs m.kd (szN m.kd) j rest with e | ⟨a,r'⟩ <;> rfl
theorem decI_cons (k d : Int) (r : List Int) (hk : ckKind k = 0) (h1 : 1 ≤ d) (h3 : d ≤ 3) : decI (k :: d :: r) = decT k d.toNat r:=by
  have h : dcHd (k :: d :: r) = 0:=by simp [dcHd,hk,h1,h3]
  unfold decI
  rw [h]
  simp only [ne_eq,not_true_eq_false,if_false,List.getD_cons_succ,List.getD_cons_zero,List.drop_succ_cons,List.drop_zero]
theorem byI_eq {m : Im} {N : Nat} (G : Good m N) : byI m = m.kd :: (m.bx.length : Int) :: (m.bx.flatMap rgB ++ ((List.range N).map fun i => atI m (digits m.bx (i : Nat))).flatMap (leB (szN m.kd))):=by
  have hm:=G.many
  have e : (many m.bx).toNat = N:=by omega
  have hk:=kinds11 G.kd
  have l3:=G.len3
  have w1 : wrp .u8 m.kd = m.kd:=by rw [wrp_u8]; omega
  have w2 : wrp .u8 (m.bx.length : Int) = m.bx.length:=by rw [wrp_u8]; omega
  unfold byI
  rw [e,w1,w2,List.flatMap_map]
  rfl
theorem fl_len (k : Nat) : ∀ l : List Int,(l.flatMap (leB k)).length = k * l.length
  | [] => rfl
  | x :: l => by rw [List.flatMap_cons,List.length_append,leB_len,fl_len k l,List.length_cons,Nat.mul_add]; omega
theorem rg_len : ∀ l : Bx,(l.flatMap rgB).length = 6 * l.length
  | [] => rfl
  | x :: l => by rw [List.flatMap_cons,List.length_append,rgB_len,rg_len l,List.length_cons]; omega
theorem byI_len {m : Im} {N : Nat} (G : Good m N) : (byI m).length ≤ 20 + 8 * N ∧ 2 ≤ (byI m).length:=by
  rw [byI_eq G]
  have z:=(szN_in G.kd).2
  have l3:=G.len3
  simp only [List.length_cons,List.length_append,fl_len,rg_len,List.length_map,List.length_range]
  rcases z with z | z | z | z <;> rw [z] <;> omega
theorem byI_by {m : Im} {N : Nat} (G : Good m N) : By (byI m):=by
  rw [byI_eq G]
  have hk:=kinds11 G.kd
  have l3:=G.len3
  intro x hx
  rcases List.mem_cons.1 hx with rfl | hx
  · omega
  rcases List.mem_cons.1 hx with rfl | hx
  · omega
  rcases List.mem_append.1 hx with hx | hx
  · obtain ⟨r,_,hx⟩:=List.mem_flatMap.1 hx
    rcases List.mem_append.1 hx with hx | hx
    · exact leB_by _ _ x hx
    · exact leB_by _ _ x hx
  · obtain ⟨v,_,hx⟩:=List.mem_flatMap.1 hx
    exact leB_by _ _ x hx
theorem dec_enc {m : Im} {N : Nat} (G : Good m N) (hv : Ok64 m.dt) : decI (byI m) = (backI m N,0):=by
  have l3:=G.len3
  have l1:=G.len1
  have hvs : ∀ v ∈ (List.range N).map (fun i => atI m (digits m.bx (i : Nat))),ValOk m.kd v:=by
    intro v hv'
    obtain ⟨i,hi,rfl⟩:=List.mem_map.1 hv'
    rw [List.mem_range] at hi
    exact good_val G hv (has_dig G.bx N G.many i hi).1
  rw [byI_eq G,decI_cons _ _ _ G.kd (by omega) (by omega),Int.toNat_natCast]
  have:=decT_enc G hv _ hvs [] 0 (by simp)
  rw [List.append_nil] at this
  rw [this]
  simp only [rdVs,List.length_nil,List.append_nil]
  rfl
theorem dec_torn {m : Im} {N : Nat} (G : Good m N) (hv : Ok64 m.dt) (hN : N ≠ 0) : (decI ((byI m).take ((byI m).length - 1))).2 = 24:=by
  have l3:=G.len3
  have l1:=G.len1
  obtain ⟨M,rfl⟩ : ∃ M,N = M + 1:=⟨N - 1,by omega⟩
  have z:=(szN_in G.kd).2
  have hvs : ∀ v ∈ (List.range M).map (fun i => atI m (digits m.bx (i : Nat))),ValOk m.kd v:=by
    intro v hv'
    obtain ⟨i,hi,rfl⟩:=List.mem_map.1 hv'
    rw [List.mem_range] at hi
    exact good_val G hv (has_dig G.bx (M + 1) G.many i (by omega)).1
  have hl : (leB (szN m.kd) (atI m (digits m.bx (M : Nat)))).length = szN m.kd:=leB_len _ _
  have hne : leB (szN m.kd) (atI m (digits m.bx (M : Nat))) ≠ []:=by
    intro hc; rw [hc] at hl; simp at hl; omega
  rw [← List.dropLast_eq_take,byI_eq G,List.range_succ,List.map_append,List.flatMap_append]
  simp only [List.map_cons,List.map_nil,List.flatMap_cons,List.flatMap_nil,List.append_nil]
  have e : (m.kd :: (m.bx.length : Int) :: (m.bx.flatMap rgB ++ (((List.range M).map fun i => atI m (digits m.bx (i : Nat))).flatMap (leB (szN m.kd)) ++ leB (szN m.kd) (atI m (digits m.bx (M : Nat)))))).dropLast =
      m.kd :: (m.bx.length : Int) :: (m.bx.flatMap rgB ++ (((List.range M).map fun i => atI m (digits m.bx (i : Nat))).flatMap (leB (szN m.kd)) ++ (leB (szN m.kd) (atI m (digits m.bx (M : Nat)))).dropLast)):=by
    have e1 : ∀ (A : List Int) (B : List Int),B ≠ [] → (m.kd :: (m.bx.length : Int) :: (A ++ B)).dropLast = m.kd :: (m.bx.length : Int) :: (A ++ B.dropLast):=by
      intro A B hB
      rw [show m.kd :: (m.bx.length : Int) :: (A ++ B) = (m.kd :: (m.bx.length : Int) :: A) ++ B from rfl,List.dropLast_append_of_ne_nil hB]
      rfl
    rw [← List.append_assoc,e1 _ _ hne,List.append_assoc]
  rw [e,decI_cons _ _ _ G.kd (by omega) (by omega),Int.toNat_natCast,decT_enc G hv _ hvs _ 1 (by simp)]
  have ht : rdVs m.kd (szN m.kd) 1 (leB (szN m.kd) (atI m (digits m.bx (M : Nat)))).dropLast = .inl 24:=by
    rw [rdVs,if_pos (by rw [List.length_dropLast,hl]; omega)]
  rw [ht]
theorem dec_torn0 {m : Im} (G : Good m 0) (hv : Ok64 m.dt) : (decI ((byI m).take ((byI m).length - 1))).2 = 24:=by
  have l3:=G.len3
  have l1:=G.len1
  rw [← List.dropLast_eq_take,byI_eq G]
  simp only [List.range_zero,List.map_nil,List.flatMap_nil,List.append_nil]
  have hl:=rg_len m.bx
  have hne : m.bx.flatMap rgB ≠ []:=by
    intro hc; rw [hc] at hl; simp at hl; omega
  have e1 : ∀ (B : List Int),B ≠ [] → (m.kd :: (m.bx.length : Int) :: B).dropLast = m.kd :: (m.bx.length : Int) :: B.dropLast:=by
    intro B hB
    rw [show m.kd :: (m.bx.length : Int) :: B = [m.kd,(m.bx.length : Int)] ++ B from rfl,List.dropLast_append_of_ne_nil hB]
    rfl
  rw [e1 _ hne,decI_cons _ _ _ G.kd (by omega) (by omega),Int.toNat_natCast]
  unfold decT
  have hn : ∀ (d : Nat) (r : List Int),r.length < 6 * d → rdRs d r = none:=by
    intro d
    induction d with
    | zero => intro r h; omega
    | succ d ih =>
      intro r h
      rw [rdRs]
      by_cases h6 : r.length < 6
      · rw [if_pos h6]
      · rw [if_neg h6,ih _ (by rw [List.length_drop]; omega)]
  rw [hn _ _ (by rw [List.length_dropLast,hl]; omega)]
theorem dcErr_im {l : List Int} (h : (decI l).2 ≠ 0) : (decI l).1 = im0:=by
  unfold decI decT decV at h ⊢
  split
  · rfl
  · rename_i h1
    rw [if_neg h1] at h
    split
    · rfl
    · rename_i bx r hb
      rw [hb] at h
      simp only at h
      split
      · rfl
      · rename_i h2
        rw [if_neg h2] at h
        split
        · rfl
        · rename_i a r' hr
          rw [hr] at h
          simp only at h
          split
          · rfl
          · rename_i h3
            rw [if_neg h3] at h
            exact absurd rfl h
theorem dec_torn' {m : Im} {N : Nat} (G : Good m N) (hv : Ok64 m.dt) : decI ((byI m).take ((byI m).length - 1)) = (im0,24):=by
  have h : (decI ((byI m).take ((byI m).length - 1))).2 = 24:=by
    rcases N with _ | N
    · exact dec_torn0 G hv
    · exact dec_torn G hv (by omega)
  have h1:=dcErr_im (l:=(byI m).take ((byI m).length - 1)) (by rw [h]; decide)
  exact Prod.ext h1 h
theorem back_good {m : Im} {N : Nat} (G : Good m N) (hv : Ok64 m.dt) : ckI (backI m N) = 0 ∧ Ok64 (backI m N).dt ∧ (∀ q,InB m.bx q → atI (backI m N) q = atI m q) ∧ byI (backI m N) = byI m:=by
  obtain ⟨d1,d2,d3⟩:=dense_good G hv true
  refine ⟨d1,d2,d3,?_⟩
  obtain ⟨N',G'⟩:=good_of (m:=backI m N) d1
  have hN' : N' = N:=by
    have q1:=G'.many
    have q2:=G.many
    have : many (backI m N).bx = many m.bx:=rfl
    omega
  subst hN'
  have el : (List.range N').map (fun i => atI (backI m N') (digits (backI m N').bx (i : Nat))) = (List.range N').map (fun i => atI m (digits m.bx (i : Nat))) :=
    List.map_congr_left fun i hi => by rw [List.mem_range] at hi; exact d3 _ (has_dig G.bx N' G.many i hi).1
  rw [byI_eq G',byI_eq G,el]
  rfl
end Go.Vm.P4D

/- Chapter 04: the loops of the law ImageBack. -/
set_option maxRecDepth 100000
set_option maxHeartbeats 4000000
namespace Go.Vm.P4D
open Go Go.Vm Go.Vm.P4
theorem ipt {n : Nat} {x0 : D} : callI (level E (n + 1)) 23 [x0] = piC (fin [.v 1] (aCode (level E n) ⟨0,false⟩ c23 ⟨[.imm x0,.junk],[],none⟩)):=callI_go e23 rfl rfl rfl rfl
theorem okLPointI (n : Nat) (b : Bool) (l : List Int) (hl : l.length < 1000000) (hn : l ≠ []) : callI (level E (n+1)) 23 [slD b 1 (l.map ic)] = some (.ref 0 1 0 l.length,[.arr 1 (l.map ic)]):=by
  rw [ipt]
  rcases l with _ | ⟨x,t⟩
  · exact absurd rfl hn
  · have e : (t.length + 1) * 9 ≤ 70368744177664:=by simp at hl; omega
    simp only [go_sem,simprocAttr,List.map_cons,slD_c,e]
    done
theorem backL0 (n : Nat) (m dn : Im) (bD pD : D) (lx : m.bx.length < 1000) (ls : m.st.length < 1000000) (ld : m.dt.length < 1000000)
    (H : ∀ i : Nat,i < m.bx.length → ∃ t u : Im,callP (level E (n+60)) 18 [enIm m.own,.int .i64 0,.int .i64 i] = some (.tup [enIm t,.int .i64 0]) ∧ callP (level E (n+60)) 18 [enIm t,.int .i64 0,.int .i64 i] = some (.tup [enIm u,.int .i64 0]) ∧ callP (level E (n+60)) 16 [enIm u,enIm dn] = some (.bool true)) :
    outC ⟨0,false⟩ [0,1,1,1,1,0,0,0,0,0,0,0,0,0,0,0,0,0,0,0,0,0,0,0,0,0,0,0,0,0,0,0,0,0,0,0,0,0,0,0,0,0,0,0,0,0,0,0,0,0,0,0,0,0,0,0,0,0,0,0,0,0,0,0] (rnd (aCode (level E (n+60)) ⟨0,false⟩ b3_0) (head ⟨0,false⟩ [0,1,1,0,1,0,0,0,0,1,0,0,0,0,0,0,0,0,0,0,0,0,0,0,0,0,0,0,0,0,0,0,0,0,0,0,0,0,0,0,0,0,0,0,1,1,0,0,0,0,0,0,0,0,0,0,0,0,0,0,0,0,0,0])
      ⟨[.junk,.imm bD,.imm pD,.junk,.ptr 0 0,.junk,.junk,.junk,.junk,.ptr 1 0,.junk,.junk,.junk,.junk,.junk,.junk,.junk,.junk,.junk,.junk,.junk,.junk,.junk,.junk,.junk,.junk,.junk,.junk,.junk,.junk,.junk,.junk,.junk,.junk,.junk,.junk,.junk,.junk,.junk,.junk,.junk,.junk,.junk,.junk,.imm (.int .i64 m.bx.length),.imm (.int .i64 0),.junk,.junk,.junk,.junk,.junk,.junk,.junk,.junk,.junk,.junk,.junk,.junk,.junk,.junk,.junk,.junk,.junk,.junk],[boxI m,boxI dn],none⟩) =
    some (.exit 0,⟨[.junk,.imm bD,.imm pD,.junk,.ptr 0 0,.junk,.junk,.junk,.junk,.junk,.junk,.junk,.junk,.junk,.junk,.junk,.junk,.junk,.junk,.junk,.junk,.junk,.junk,.junk,.junk,.junk,.junk,.junk,.junk,.junk,.junk,.junk,.junk,.junk,.junk,.junk,.junk,.junk,.junk,.junk,.junk,.junk,.junk,.junk,.junk,.junk,.junk,.junk,.junk,.junk,.junk,.junk,.junk,.junk,.junk,.junk,.junk,.junk,.junk,.junk,.junk,.junk,.junk,.junk],[boxI m],none⟩):=by
  have om:=okOwnImage (n+58) m (by omega) ls ld
  have h:=loop_fold (f:=aCode (level E (n+60)) ⟨0,false⟩ b3_0) (h:=head ⟨0,false⟩ [0,1,1,0,1,0,0,0,0,1,0,0,0,0,0,0,0,0,0,0,0,0,0,0,0,0,0,0,0,0,0,0,0,0,0,0,0,0,0,0,0,0,0,0,1,1,0,0,0,0,0,0,0,0,0,0,0,0,0,0,0,0,0,0]) (Φ:=outC ⟨0,false⟩ [0,1,1,1,1,0,0,0,0,0,0,0,0,0,0,0,0,0,0,0,0,0,0,0,0,0,0,0,0,0,0,0,0,0,0,0,0,0,0,0,0,0,0,0,0,0,0,0,0,0,0,0,0,0,0,0,0,0,0,0,0,0,0,0]) (List.range m.bx.length) (fun (_ : Unit) i => ⟨[.junk,.imm bD,.imm pD,.junk,.ptr 0 0,.junk,.junk,.junk,.junk,.ptr 1 0,.junk,.junk,.junk,.junk,.junk,.junk,.junk,.junk,.junk,.junk,.junk,.junk,.junk,.junk,.junk,.junk,.junk,.junk,.junk,.junk,.junk,.junk,.junk,.junk,.junk,.junk,.junk,.junk,.junk,.junk,.junk,.junk,.junk,.junk,.imm (.int .i64 m.bx.length),.imm (.int .i64 i),.junk,.junk,.junk,.junk,.junk,.junk,.junk,.junk,.junk,.junk,.junk,.junk,.junk,.junk,.junk,.junk,.junk,.junk],[boxI m,boxI dn],none⟩) (fun _ _ => True)
    (fun _ _ => ()) (fun _ => some (.exit 0,⟨[.junk,.imm bD,.imm pD,.junk,.ptr 0 0,.junk,.junk,.junk,.junk,.junk,.junk,.junk,.junk,.junk,.junk,.junk,.junk,.junk,.junk,.junk,.junk,.junk,.junk,.junk,.junk,.junk,.junk,.junk,.junk,.junk,.junk,.junk,.junk,.junk,.junk,.junk,.junk,.junk,.junk,.junk,.junk,.junk,.junk,.junk,.junk,.junk,.junk,.junk,.junk,.junk,.junk,.junk,.junk,.junk,.junk,.junk,.junk,.junk,.junk,.junk,.junk,.junk,.junk,.junk],[boxI m],none⟩)) () trivial
    (fun _ i x _ h2 h1 => ⟨by
      have:=getRange h1
      subst this
      rw [List.length_range] at h2
      obtain ⟨t,u,q1,q2,q3⟩:=H x h2
      rw [rnd_eq]
      simp only [enIm,enB,Im.own] at om q1 q2 q3
      simp only [go_sem,simprocAttr,lt_t h2,om,q1,q2,q3,enB,boxI,ne_eq,not_true_eq_false,Bool.false_eq_true]
      rw [wrpS (by omega)],trivial⟩)
    (fun _ _ => by
      rw [rnd_eq,List.length_range]
      simp only [go_sem,simprocAttr,lt_f (Nat.le_refl _),enB,boxI])
  rw [cast_0] at h
  exact h
theorem any_run {α γ : Type} (P : α → Bool) (R T : γ) : ∀ l : List α,runL (γ:=γ) (fun (_ : Unit) x => if P x then .inr R else .inl ()) (fun _ => T) () l = if l.any P then R else T
  | [] => rfl
  | x :: l => by
    rw [runL_cons,List.any_cons]
    cases h : P x
    · simp only [Bool.false_eq_true,if_false,Bool.false_or,any_run P R T l]
    · simp only [if_true,Bool.true_or]
def bigB (x : Int) : Bool:=decide (x < -1000) || decide (x > 1000)
theorem backL1 (n : Nat) (hA : callP (level E (n+60)) 9 [] = some (.bool true)) (m : Im) (c : Bool) (p : List Int) (lp : p.length < 1000) :
    outC ⟨0,false⟩ [0,0,1,1,1,0,0,0,0,0,0,0,0,0,0,0,0,0,0,0,0,0,0,0,0,0,0,0,0,0,0,0,0,0,0,0,0,0,0,0,0,0,0,0,0,0,0,0,0,0,0,0,0,0,0,0,0,0,0,0,0,0,0,0] (rnd (aCode (level E (n+60)) ⟨0,false⟩ b3_1) (head ⟨0,false⟩ [0,0,1,0,1,0,0,0,0,0,0,0,0,0,0,0,0,0,0,0,0,0,0,0,0,0,0,0,0,0,0,0,0,0,0,0,0,0,0,0,0,0,0,0,0,0,0,0,0,0,0,1,1,0,0,0,0,0,0,0,0,0,0,0])
      ⟨[.junk,.junk,.imm (slD c 1 (p.map ic)),.junk,.ptr 0 0,.junk,.junk,.junk,.junk,.junk,.junk,.junk,.junk,.junk,.junk,.junk,.junk,.junk,.junk,.junk,.junk,.junk,.junk,.junk,.junk,.junk,.junk,.junk,.junk,.junk,.junk,.junk,.junk,.junk,.junk,.junk,.junk,.junk,.junk,.junk,.junk,.junk,.junk,.junk,.junk,.junk,.junk,.junk,.junk,.junk,.junk,.imm (.int .i64 p.length),.imm (.int .i64 0),.junk,.junk,.junk,.junk,.junk,.junk,.junk,.junk,.junk,.junk,.junk],[boxI m],none⟩) =
    if p.any bigB then some (.ret,⟨[.junk,.junk,.imm (slD c 1 (p.map ic)),.imm (.bool true),.ptr 0 0,.junk,.junk,.junk,.junk,.junk,.junk,.junk,.junk,.junk,.junk,.junk,.junk,.junk,.junk,.junk,.junk,.junk,.junk,.junk,.junk,.junk,.junk,.junk,.junk,.junk,.junk,.junk,.junk,.junk,.junk,.junk,.junk,.junk,.junk,.junk,.junk,.junk,.junk,.junk,.junk,.junk,.junk,.junk,.junk,.junk,.junk,.junk,.junk,.junk,.junk,.junk,.junk,.junk,.junk,.junk,.junk,.junk,.junk,.junk],[boxI m],none⟩) else some (.exit 2,⟨[.junk,.junk,.imm (slD c 1 (p.map ic)),.junk,.ptr 0 0,.junk,.junk,.junk,.junk,.junk,.junk,.junk,.junk,.junk,.junk,.junk,.junk,.junk,.junk,.junk,.junk,.junk,.junk,.junk,.junk,.junk,.junk,.junk,.junk,.junk,.junk,.junk,.junk,.junk,.junk,.junk,.junk,.junk,.junk,.junk,.junk,.junk,.junk,.junk,.junk,.junk,.junk,.junk,.junk,.junk,.junk,.junk,.junk,.junk,.junk,.junk,.junk,.junk,.junk,.junk,.junk,.junk,.junk,.junk],[boxI m],none⟩):=by
  have h:=loop_run (f:=aCode (level E (n+60)) ⟨0,false⟩ b3_1) (h:=head ⟨0,false⟩ [0,0,1,0,1,0,0,0,0,0,0,0,0,0,0,0,0,0,0,0,0,0,0,0,0,0,0,0,0,0,0,0,0,0,0,0,0,0,0,0,0,0,0,0,0,0,0,0,0,0,0,1,1,0,0,0,0,0,0,0,0,0,0,0]) (Φ:=outC ⟨0,false⟩ [0,0,1,1,1,0,0,0,0,0,0,0,0,0,0,0,0,0,0,0,0,0,0,0,0,0,0,0,0,0,0,0,0,0,0,0,0,0,0,0,0,0,0,0,0,0,0,0,0,0,0,0,0,0,0,0,0,0,0,0,0,0,0,0]) p (fun (_ : Unit) i => ⟨[.junk,.junk,.imm (slD c 1 (p.map ic)),.junk,.ptr 0 0,.junk,.junk,.junk,.junk,.junk,.junk,.junk,.junk,.junk,.junk,.junk,.junk,.junk,.junk,.junk,.junk,.junk,.junk,.junk,.junk,.junk,.junk,.junk,.junk,.junk,.junk,.junk,.junk,.junk,.junk,.junk,.junk,.junk,.junk,.junk,.junk,.junk,.junk,.junk,.junk,.junk,.junk,.junk,.junk,.junk,.junk,.imm (.int .i64 p.length),.imm (.int .i64 i),.junk,.junk,.junk,.junk,.junk,.junk,.junk,.junk,.junk,.junk,.junk],[boxI m],none⟩) (fun _ _ => True)
    (fun _ x => if bigB x then .inr (some (.ret,⟨[.junk,.junk,.imm (slD c 1 (p.map ic)),.imm (.bool true),.ptr 0 0,.junk,.junk,.junk,.junk,.junk,.junk,.junk,.junk,.junk,.junk,.junk,.junk,.junk,.junk,.junk,.junk,.junk,.junk,.junk,.junk,.junk,.junk,.junk,.junk,.junk,.junk,.junk,.junk,.junk,.junk,.junk,.junk,.junk,.junk,.junk,.junk,.junk,.junk,.junk,.junk,.junk,.junk,.junk,.junk,.junk,.junk,.junk,.junk,.junk,.junk,.junk,.junk,.junk,.junk,.junk,.junk,.junk,.junk,.junk],[boxI m],none⟩)) else .inl ()) (fun _ => some (.exit 2,⟨[.junk,.junk,.imm (slD c 1 (p.map ic)),.junk,.ptr 0 0,.junk,.junk,.junk,.junk,.junk,.junk,.junk,.junk,.junk,.junk,.junk,.junk,.junk,.junk,.junk,.junk,.junk,.junk,.junk,.junk,.junk,.junk,.junk,.junk,.junk,.junk,.junk,.junk,.junk,.junk,.junk,.junk,.junk,.junk,.junk,.junk,.junk,.junk,.junk,.junk,.junk,.junk,.junk,.junk,.junk,.junk,.junk,.junk,.junk,.junk,.junk,.junk,.junk,.junk,.junk,.junk,.junk,.junk,.junk],[boxI m],none⟩)) () trivial
    (fun _ i x _ h2 h1 => ⟨by
      rw [rnd_eq]
      by_cases q1 : x < -1000
      · have e : bigB x = true:=by simp [bigB,q1]
        simp only [go_sem,simprocAttr,lt_t h2,h1,q1,e,hA,enB,boxI]
      · by_cases q2 : x > 1000
        · have e : bigB x = true:=by simp [bigB,q2]
          simp only [go_sem,simprocAttr,lt_t h2,h1,q1,q2,e,hA,enB,boxI]
        · have e : bigB x = false:=by simp [bigB]; omega
          simp only [go_sem,simprocAttr,lt_t h2,h1,q1,q2,e,enB,boxI,Bool.false_eq_true]
          rw [wrpS (by omega)],fun _ _ => trivial⟩)
    (fun _ _ => by
      rw [rnd_eq]
      simp only [go_sem,simprocAttr,lt_f (Nat.le_refl _),enB,boxI])
  rw [cast_0,any_run] at h
  exact h
end Go.Vm.P4D

/- Chapter 04: the loops of the law ImageBack,continued. -/
set_option maxRecDepth 100000
set_option maxHeartbeats 4000000
namespace Go.Vm.P4D
open Go Go.Vm Go.Vm.P4
abbrev vBox (k v : Int) : AO:=.box [.imm (.int .i64 k),.imm (.int .u64 v)]
def farP (l : Bx) (p : List Int) (rule : Nat) (i : Nat) : List Int:=match l[i]?,p[i]? with | some r,some x => p.set i (x + r.ex * rule) | _,_ => p
theorem backL2 (n : Nat) (m : Im) (c ins : Bool) (p : List Int) (rule : Nat) (hr : rule < 3) (V : Int) (lx : m.bx.length ≤ 3) (hl : p.length = m.bx.length) (ho : Okr m.bx) (hp : p.any bigB = false) (ls : m.st.length < 1000000) (ld : m.dt.length < 1000000)
    (H : ∀ i : Nat,i < p.length → callP (level E (n+60)) 22 [enIm m.own,.int .i64 rule,slD false 1 ((farP m.bx p rule i).map ic),.agg [.int .i64 0,.int .u64 0]] = some (.tup [.agg [.int .i64 m.kd,.int .u64 V],.int .i64 0])) :
    outC ⟨0,false⟩ [0,0,1,1,1,0,0,0,0,0,0,0,0,0,0,0,0,0,0,0,0,0,0,0,0,0,0,0,0,0,1,1,0,0,0,0,0,0,0,0,0,0,0,0,0,0,0,0,0,0,0,0,0,0,0,0,0,0,0,0,0,0,0,0] (rnd (aCode (level E (n+60)) ⟨0,false⟩ b3_2) (head ⟨0,false⟩ [0,0,1,0,1,0,0,0,0,0,0,0,0,0,0,0,0,0,0,0,0,0,0,0,0,0,0,0,0,0,1,1,1,0,0,0,0,0,0,0,0,0,0,0,0,0,0,0,0,0,0,0,0,0,0,0,0,0,0,0,1,1,0,0])
      ⟨[.junk,.junk,.imm (slD c 1 (p.map ic)),.junk,.ptr 0 0,.junk,.junk,.junk,.junk,.junk,.junk,.junk,.junk,.junk,.junk,.junk,.junk,.junk,.junk,.junk,.junk,.junk,.junk,.junk,.junk,.junk,.junk,.junk,.junk,.junk,.imm (.bool ins),.imm (.int .i64 rule),.ptr 1 0,.junk,.junk,.junk,.junk,.junk,.junk,.junk,.junk,.junk,.junk,.junk,.junk,.junk,.junk,.junk,.junk,.junk,.junk,.junk,.junk,.junk,.junk,.junk,.junk,.junk,.junk,.junk,.imm (.int .i64 p.length),.imm (.int .i64 0),.junk,.junk],[boxI m,vBox m.kd V],none⟩) =
    some (.exit 6,⟨[.junk,.junk,.imm (slD c 1 (p.map ic)),.junk,.ptr 0 0,.junk,.junk,.junk,.junk,.junk,.junk,.junk,.junk,.junk,.junk,.junk,.junk,.junk,.junk,.junk,.junk,.junk,.junk,.junk,.junk,.junk,.junk,.junk,.junk,.junk,.imm (.bool ins),.imm (.int .i64 rule),.junk,.junk,.junk,.junk,.junk,.junk,.junk,.junk,.junk,.junk,.junk,.junk,.junk,.junk,.junk,.junk,.junk,.junk,.junk,.junk,.junk,.junk,.junk,.junk,.junk,.junk,.junk,.junk,.junk,.junk,.junk,.junk],[boxI m],none⟩):=by
  have om:=okOwnImage (n+58) m (by omega) ls ld
  have h:=loop_fold (f:=aCode (level E (n+60)) ⟨0,false⟩ b3_2) (h:=head ⟨0,false⟩ [0,0,1,0,1,0,0,0,0,0,0,0,0,0,0,0,0,0,0,0,0,0,0,0,0,0,0,0,0,0,1,1,1,0,0,0,0,0,0,0,0,0,0,0,0,0,0,0,0,0,0,0,0,0,0,0,0,0,0,0,1,1,0,0]) (Φ:=outC ⟨0,false⟩ [0,0,1,1,1,0,0,0,0,0,0,0,0,0,0,0,0,0,0,0,0,0,0,0,0,0,0,0,0,0,1,1,0,0,0,0,0,0,0,0,0,0,0,0,0,0,0,0,0,0,0,0,0,0,0,0,0,0,0,0,0,0,0,0]) (List.range p.length) (fun (_ : Unit) i => ⟨[.junk,.junk,.imm (slD c 1 (p.map ic)),.junk,.ptr 0 0,.junk,.junk,.junk,.junk,.junk,.junk,.junk,.junk,.junk,.junk,.junk,.junk,.junk,.junk,.junk,.junk,.junk,.junk,.junk,.junk,.junk,.junk,.junk,.junk,.junk,.imm (.bool ins),.imm (.int .i64 rule),.ptr 1 0,.junk,.junk,.junk,.junk,.junk,.junk,.junk,.junk,.junk,.junk,.junk,.junk,.junk,.junk,.junk,.junk,.junk,.junk,.junk,.junk,.junk,.junk,.junk,.junk,.junk,.junk,.junk,.imm (.int .i64 p.length),.imm (.int .i64 i),.junk,.junk],[boxI m,vBox m.kd V],none⟩) (fun _ _ => True)
    (fun _ _ => ()) (fun _ => some (.exit 6,⟨[.junk,.junk,.imm (slD c 1 (p.map ic)),.junk,.ptr 0 0,.junk,.junk,.junk,.junk,.junk,.junk,.junk,.junk,.junk,.junk,.junk,.junk,.junk,.junk,.junk,.junk,.junk,.junk,.junk,.junk,.junk,.junk,.junk,.junk,.junk,.imm (.bool ins),.imm (.int .i64 rule),.junk,.junk,.junk,.junk,.junk,.junk,.junk,.junk,.junk,.junk,.junk,.junk,.junk,.junk,.junk,.junk,.junk,.junk,.junk,.junk,.junk,.junk,.junk,.junk,.junk,.junk,.junk,.junk,.junk,.junk,.junk,.junk],[boxI m],none⟩)) () trivial
    (fun _ i x _ h2 h1 => ⟨by
      have:=getRange h1
      subst this
      rw [List.length_range] at h2
      have hn : p ≠ []:=fun hc => by rw [hc] at h2; simp at h2
      have pi:=okLPointI (n+59) c p (by omega) hn
      have g1:=List.getElem?_eq_getElem h2
      have g2:=List.getElem?_eq_getElem (show x < m.bx.length by omega)
      generalize p[x] = y at g1
      generalize m.bx[x]'(by omega) = r at g2
      have q:=H x h2
      have ef : farP m.bx p rule x = p.set x (y + r.ex * rule):=by unfold farP; rw [g1,g2]
      rw [ef,List.map_set] at q
      have kr:=ckRange0 (ho r (List.mem_of_getElem? g2))
      have kb : bigB y = false:=by
        rw [List.any_eq_false] at hp
        have:=hp y (List.mem_of_getElem? g1)
        simpa using this
      have ky : -1000 ≤ y ∧ y ≤ 1000:=by simp [bigB] at kb; omega
      have m0 : 0 ≤ r.ex * (rule : Int):=Int.mul_nonneg (by omega) (by omega)
      have m1 : r.ex * (rule : Int) ≤ 64 * (rule : Int):=Int.mul_le_mul_of_nonneg_right (by omega) (by omega)
      have w1 : wrp .i64 (r.ex * (rule : Int)) = r.ex * rule:=wrp_ok (by omega)
      have w2 : wrp .i64 (y + r.ex * (rule : Int)) = y + r.ex * rule:=wrp_ok (by omega)
      have w3 : y + r.ex * (rule : Int) ≤ 1048576:=by omega
      have ir : ∀ k : Nat,aIaddr none 1 (.ref k 1 0 p.length) (x : Int) = some (.ptr k x):=fun k => by rw [ia_refN h2]; simp
      have gm : (p.map ic)[x]? = some [.int .i64 y]:=by rw [List.getElem?_map,g1]; rfl
      have gs : ((p.map ic).set x [.int .i64 (y + r.ex * rule)])[x]? = some [.int .i64 (y + r.ex * rule)]:=by rw [List.getElem?_set_self (by simpa using h2)]
      have sr : srC 1 0 p.length (some (.arr 1 ((p.map ic).set x [.int .i64 (y + r.ex * rule)]))) = some (1,(p.map ic).set x [.int .i64 (y + r.ex * rule)]):=by
        rw [sr_arr (by simp)]
        rw [List.drop_zero,List.take_of_length_le (by simp)]
      rw [rnd_eq]
      simp only [enIm,enB,Im.own,ic,slD_f] at om q
      simp only [go_sem,simprocAttr,lt_t h2,om,pi,q,w1,w2,w3,ir,gm,gs,sr,g1,g2,aEqV,enB,boxI,vBox,Nat.div_one,Nat.mod_one,ne_eq,not_true_eq_false,Bool.false_eq_true]
      rw [wrpS (by omega)],trivial⟩)
    (fun _ _ => by
      rw [rnd_eq,List.length_range]
      simp only [go_sem,simprocAttr,lt_f (Nat.le_refl _),enB,boxI,vBox])
  rw [cast_0] at h
  exact h
theorem backL3 (n : Nat) (m : Im) (c ins : Bool) (p : List Int) (V : Nat → Int) (lx : m.bx.length ≤ 3) (l1 : 1 ≤ m.bx.length) (hl : p.length = m.bx.length) (ho : Okr m.bx) (hp : p.any bigB = false) (ls : m.st.length < 1000000) (ld : m.dt.length < 1000000)
    (HE : ∀ rule : Nat,rule < 3 → callP (level E (n+60)) 22 [enIm m.own,.int .i64 rule,slD false 1 (p.map ic),.agg [.int .i64 0,.int .u64 0]] = some (.tup [.agg [.int .i64 m.kd,.int .u64 (V rule)],.int .i64 0]))
    (HA : ins = true → ∀ rule : Nat,rule < 3 → callP (level E (n+60)) 24 [enIm m.own,slD false 1 (p.map ic)] = some (.tup [.agg [.int .i64 m.kd,.int .u64 (V rule)],.int .i64 0]))
    (HF : ∀ rule : Nat,1 ≤ rule → rule < 3 → ∀ i : Nat,i < p.length → callP (level E (n+60)) 22 [enIm m.own,.int .i64 rule,slD false 1 ((farP m.bx p rule i).map ic),.agg [.int .i64 0,.int .u64 0]] = some (.tup [.agg [.int .i64 m.kd,.int .u64 (V rule)],.int .i64 0])) :
    outC ⟨0,false⟩ [0,0,0,1,0,0,0,0,0,0,0,0,0,0,0,0,0,0,0,0,0,0,0,0,0,0,0,0,0,0,0,0,0,0,0,0,0,0,0,0,0,0,0,0,0,0,0,0,0,0,0,0,0,0,0,0,0,0,0,0,0,0,0,0] (rnd (aCode (level E (n+60)) ⟨0,false⟩ b3_3) (head ⟨0,false⟩ [0,0,1,0,1,0,0,0,0,0,0,0,0,0,0,0,0,0,0,0,0,0,0,0,0,0,0,0,0,0,1,1,0,0,0,0,0,0,0,0,0,0,0,0,0,0,0,0,0,0,0,0,0,0,0,0,0,0,0,0,0,0,0,0])
      ⟨[.junk,.junk,.imm (slD c 1 (p.map ic)),.junk,.ptr 0 0,.junk,.junk,.junk,.junk,.junk,.junk,.junk,.junk,.junk,.junk,.junk,.junk,.junk,.junk,.junk,.junk,.junk,.junk,.junk,.junk,.junk,.junk,.junk,.junk,.junk,.imm (.bool ins),.imm (.int .i64 0),.junk,.junk,.junk,.junk,.junk,.junk,.junk,.junk,.junk,.junk,.junk,.junk,.junk,.junk,.junk,.junk,.junk,.junk,.junk,.junk,.junk,.junk,.junk,.junk,.junk,.junk,.junk,.junk,.junk,.junk,.junk,.junk],[boxI m],none⟩) =
    some (.exit 4,⟨[.junk,.junk,.junk,.junk,.junk,.junk,.junk,.junk,.junk,.junk,.junk,.junk,.junk,.junk,.junk,.junk,.junk,.junk,.junk,.junk,.junk,.junk,.junk,.junk,.junk,.junk,.junk,.junk,.junk,.junk,.junk,.junk,.junk,.junk,.junk,.junk,.junk,.junk,.junk,.junk,.junk,.junk,.junk,.junk,.junk,.junk,.junk,.junk,.junk,.junk,.junk,.junk,.junk,.junk,.junk,.junk,.junk,.junk,.junk,.junk,.junk,.junk,.junk,.junk],[],none⟩):=by
  have om:=okOwnImage (n+58) m (by omega) ls ld
  have hn : p ≠ []:=fun hc => by rw [hc] at hl; simp at hl; omega
  have pi:=okLPointI (n+59) c p (by omega) hn
  have h:=loop_fold (f:=aCode (level E (n+60)) ⟨0,false⟩ b3_3) (h:=head ⟨0,false⟩ [0,0,1,0,1,0,0,0,0,0,0,0,0,0,0,0,0,0,0,0,0,0,0,0,0,0,0,0,0,0,1,1,0,0,0,0,0,0,0,0,0,0,0,0,0,0,0,0,0,0,0,0,0,0,0,0,0,0,0,0,0,0,0,0]) (Φ:=outC ⟨0,false⟩ [0,0,0,1,0,0,0,0,0,0,0,0,0,0,0,0,0,0,0,0,0,0,0,0,0,0,0,0,0,0,0,0,0,0,0,0,0,0,0,0,0,0,0,0,0,0,0,0,0,0,0,0,0,0,0,0,0,0,0,0,0,0,0,0]) (List.range 3) (fun (_ : Unit) i => ⟨[.junk,.junk,.imm (slD c 1 (p.map ic)),.junk,.ptr 0 0,.junk,.junk,.junk,.junk,.junk,.junk,.junk,.junk,.junk,.junk,.junk,.junk,.junk,.junk,.junk,.junk,.junk,.junk,.junk,.junk,.junk,.junk,.junk,.junk,.junk,.imm (.bool ins),.imm (.int .i64 i),.junk,.junk,.junk,.junk,.junk,.junk,.junk,.junk,.junk,.junk,.junk,.junk,.junk,.junk,.junk,.junk,.junk,.junk,.junk,.junk,.junk,.junk,.junk,.junk,.junk,.junk,.junk,.junk,.junk,.junk,.junk,.junk],[boxI m],none⟩) (fun _ _ => True)
    (fun _ _ => ()) (fun _ => some (.exit 4,⟨[.junk,.junk,.junk,.junk,.junk,.junk,.junk,.junk,.junk,.junk,.junk,.junk,.junk,.junk,.junk,.junk,.junk,.junk,.junk,.junk,.junk,.junk,.junk,.junk,.junk,.junk,.junk,.junk,.junk,.junk,.junk,.junk,.junk,.junk,.junk,.junk,.junk,.junk,.junk,.junk,.junk,.junk,.junk,.junk,.junk,.junk,.junk,.junk,.junk,.junk,.junk,.junk,.junk,.junk,.junk,.junk,.junk,.junk,.junk,.junk,.junk,.junk,.junk,.junk],[],none⟩)) () trivial
    (fun _ i x _ h2 h1 => ⟨by
      have:=getRange h1
      subst this
      rw [List.length_range] at h2
      have q:=HE x h2
      have hle : decide ((x : Int) ≤ 2) = true:=decide_eq_true (by omega)
      rw [rnd_eq]
      simp only [enIm,enB,Im.own,slD_f] at om q
      by_cases hx : x = 0
      · have h0 : decide ((x : Int) = 0) = true:=decide_eq_true (by omega)
        cases ins with
        | true =>
          have a:=HA rfl x h2
          simp only [enIm,enB,Im.own,slD_f] at a
          simp only [go_sem,simprocAttr,hle,om,pi,q,a,h0,aEqV,enB,boxI,ne_eq,not_true_eq_false,Bool.false_eq_true]
          rw [wrpS (by omega)]
        | false =>
          simp only [go_sem,simprocAttr,hle,om,pi,q,h0,aEqV,enB,boxI,ne_eq,not_true_eq_false,Bool.false_eq_true]
          rw [wrpS (by omega)]
      · have h0 : decide ((x : Int) = 0) = false:=decide_eq_false (by omega)
        have L2:=backL2 n m c ins p x h2 (V x) lx hl ho hp ls ld (HF x (by omega) h2)
        simp only [boxI,vBox,enB] at L2
        cases ins with
        | true =>
          have a:=HA rfl x h2
          simp only [enIm,enB,Im.own,slD_f] at a
          simp only [go_sem,simprocAttr,hle,om,pi,q,a,h0,aEqV,enB,boxI,ne_eq,not_true_eq_false,Bool.false_eq_true]
          rw [L2]
          simp only [go_sem,simprocAttr]
          rw [wrpS (by omega)]
        | false =>
          simp only [go_sem,simprocAttr,hle,om,pi,q,h0,aEqV,enB,boxI,ne_eq,not_true_eq_false,Bool.false_eq_true]
          rw [L2]
          simp only [go_sem,simprocAttr]
          rw [wrpS (by omega)],trivial⟩)
    (fun _ _ => by
      rw [rnd_eq,List.length_range]
      have hle : decide (((3 : Nat) : Int) ≤ 2) = false:=by decide
      simp only [go_sem,simprocAttr,hle,enB,boxI])
  rw [cast_0] at h
  exact h
end Go.Vm.P4D

/- Chapter 04: the law ImageBack,given the examples (printed by gen4k.py). -/
set_option maxRecDepth 100000
set_option maxHeartbeats 8000000
namespace Go.Vm.P4D
open Go Go.Vm Go.Vm.P4
def sq2 : IR → IR | .seq _ b => b | x => x
theorem farP_len (l : Bx) (p : List Int) (rule i : Nat) : (farP l p rule i).length = p.length:=by
  unfold farP; split <;> simp
theorem farP_bd {l : Bx} {p : List Int} (hl : p.length = l.length) (ho : Okr l) (hp : ∀ x ∈ p,-1000 ≤ x ∧ x ≤ 1000) {rule : Nat} (hr : rule < 3) (i : Nat) : ∀ x ∈ farP l p rule i,-1048576 ≤ x ∧ x ≤ 1048576:=by
  intro x hx
  unfold farP at hx
  split at hx
  · rename_i r y h1 h2
    rcases List.mem_or_eq_of_mem_set hx with hx | rfl
    · have:=hp x hx; omega
    · have k:=ckRange0 (ho r (List.mem_of_getElem? h1))
      have ky:=hp y (List.mem_of_getElem? h2)
      have m0 : 0 ≤ r.ex * (rule : Int):=Int.mul_nonneg (by omega) (by omega)
      have m1 : r.ex * (rule : Int) ≤ 64 * (rule : Int):=Int.mul_le_mul_of_nonneg_right (by omega) (by omega)
      omega
  · have:=hp x hx; omega
theorem farP_inn {l : Bx} {p : List Int} {rule : Nat} (h1 : 1 ≤ rule) (hr : rule < 3) (i : Nat) : List.zipWith (inn rule) l (farP l p rule i) = List.zipWith (inn rule) l p:=by
  unfold farP
  split
  · rename_i r y g1 g2
    refine zip_set _ _ _ _ _ (fun r' y' k1 k2 => ?_)
    rw [g1] at k1
    rw [g2] at k2
    injection k1 with k1
    injection k2 with k2
    subst k1 k2
    exact inn_far rule h1 hr r y
  · rfl
theorem backT1 (n : Nat) (hA : callP (level E (n+60)) 9 [] = some (.bool true)) (m : Im) (c : Bool) (p : List Int) (hv : Ok64 m.dt) (lx : m.bx.length < 1000000) (ls : m.st.length < 1000000) (ld : m.dt.length < 1000000) (lp : p.length < 1000) (hk : ckI m = 0) (N : Nat) (G : Good m N) (a1 : AO) (v0 v1 v3 v5 v6 v7 v8 v9 v10 v11 v12 v13 v14 v15 v16 v17 v18 v19 v20 v21 v22 v23 v24 v25 v26 v27 v28 v29 v30 v31 v32 v33 v34 v35 v36 v37 v38 v39 v40 v41 v42 v43 v44 v45 v46 v47 v48 v49 v50 v51 v52 v53 v54 v55 v56 v57 v58 v59 v60 v61 v62 v63 : AV) :
    pdC (fin [.v 3] (aCode (level E (n+60)) ⟨0,false⟩ (sq2 (sq2 (sq2 (sq2 (sq2 (sq2 (sq2 (sq2 (sq2 (sq2 (sq2 (sq2 (sq2 c3))))))))))))) (⟨[v0,v1,.imm (slD c 1 (p.map ic)),v3,.ptr 0 0,v5,v6,v7,v8,v9,v10,v11,v12,v13,v14,v15,v16,v17,v18,v19,v20,v21,v22,v23,v24,v25,v26,v27,v28,v29,v30,v31,v32,v33,v34,v35,v36,v37,v38,v39,v40,v41,v42,v43,v44,v45,v46,v47,v48,v49,v50,v51,v52,v53,v54,v55,v56,v57,v58,v59,v60,v61,v62,v63],[boxI m,a1],none⟩))) = some (.bool true):=by
  have l3:=G.len3
  have l1:=G.len1
  have pr:=okRProduct (n+59) m.bb m.bx (by omega)
  rw [G.many] at pr
  simp only [enB] at pr
  unfold sq2 c3
  dsimp only
  by_cases hl5 : p.length = m.bx.length
  · have h5 : decide (¬ (p.length : Int) = m.bx.length) = false:=decide_eq_false (by omega)
    by_cases hN : N = 0
    · have hN' : decide ((N : Int) = 0) = true:=decide_eq_true (by omega)
      simp only [go_sem,Nat.reduceAdd,Nat.reduceSub,Nat.reduceMul,Nat.reduceDiv,Nat.reduceMod,Nat.reduceLeDiff,Nat.reduceLT,Nat.reduceBEq,Int.reduceToNat,Int.reduceLT,Int.reduceLE,Int.reduceEq,enB,boxI,h5,pr,hN',hA,ne_eq,not_true_eq_false]
    have hN : decide ((N : Int) = 0) = false:=decide_eq_false (by omega)
    have L1:=backL1 n hA m c p lp
    rw [seq_step (s':=⟨[v0,v1,.imm (slD c 1 (p.map ic)),v3,.ptr 0 0,v5,v6,v7,v8,v9,v10,v11,v12,v13,v14,v15,v16,v17,v18,v19,v20,v21,v22,v23,v24,v25,v26,v27,v28,v29,v30,v31,v32,v33,v34,v35,v36,v37,v38,v39,v40,v41,v42,v43,v44,v45,v46,v47,v48,v49,.imm (.bool false),v51,v52,v53,v54,v55,v56,v57,v58,v59,v60,v61,v62,v63],[boxI m,a1],none⟩)]
    rotate_left
    · simp only [go_sem,Nat.reduceAdd,Nat.reduceSub,Nat.reduceMul,Nat.reduceDiv,Nat.reduceMod,Nat.reduceLeDiff,Nat.reduceLT,Nat.reduceBEq,Int.reduceToNat,Int.reduceLT,Int.reduceLE,Int.reduceEq,enB,boxI,h5,pr,hN]
    cases hb : p.any bigB with
    | true =>
      rw [if_pos hb] at L1
      simp only [boxI,enB] at L1
      simp only [go_sem,Nat.reduceAdd,Nat.reduceSub,Nat.reduceMul,Nat.reduceDiv,Nat.reduceMod,Nat.reduceLeDiff,Nat.reduceLT,Nat.reduceBEq,Int.reduceToNat,Int.reduceLT,Int.reduceLE,Int.reduceEq,boxI,enB]
      rw [L1]
      simp only [go_sem,Nat.reduceAdd,Nat.reduceSub,Nat.reduceMul,Nat.reduceDiv,Nat.reduceMod,Nat.reduceLeDiff,Nat.reduceLT,Nat.reduceBEq,Int.reduceToNat,Int.reduceLT,Int.reduceLE,Int.reduceEq]
    | false =>
      have hb' : ¬ (p.any bigB = true):=by rw [hb]; simp
      rw [if_neg hb'] at L1
      have hs:=okRHas (n+59) m.bb c m.bx p (by omega) (by omega)
      simp only [enB] at hs
      have hp : ∀ x ∈ p,-1000 ≤ x ∧ x ≤ 1000:=by
        intro x hx
        rw [List.any_eq_false] at hb
        have:=hb x hx
        simp [bigB] at this
        omega
      have hko : ckI m.own = 0:=by rw [ckI_own]; exact hk
      have Go : Good m.own N:=by
        obtain ⟨N',G'⟩:=good_of hko
        have : N' = N:=by have q1:=G'.many; have q2:=G.many; have : many m.own.bx = many m.bx:=rfl; omega
        subst this; exact G'
      have hN0 : N ≠ 0:=by intro hc; subst hc; simp at hN
      have L3:=backL3 n m c (hasB m.bx p) p (fun rule => atI m (List.zipWith (inn rule) m.bx p)) l3 l1 hl5 G.okr hb ls ld
        (fun rule hr => by
          have e:=okEdge (n+50) m.own false rule p 0 0 lx ls ld hv (by omega) (by decide) (by decide)
          rw [edge_ok hko N Go hN0 rule hr p hl5 (fun x hx => by have:=hp x hx; omega)] at e
          exact e)
        (fun hi rule hr => by
          have hin:=(hasB_in m.bx p G.okr hl5).1 hi
          have a:=okAtG (n+49) m.own false p lx ls ld hv
          have z:=at_in hko (q:=p) hin
          rw [if_pos z,z] at a
          rw [inn_in rule m.bx p hr G.okr hin]
          exact a)
        (fun rule h1 hr i hi => by
          have hl : p.length = m.bx.length:=hl5
          have e:=okEdge (n+50) m.own false rule (farP m.bx p rule i) 0 0 lx ls ld hv (by rw [farP_len]; omega) (by decide) (by decide)
          rw [edge_ok hko N Go hN0 rule hr (farP m.bx p rule i) (by rw [farP_len]; exact hl) (farP_bd hl G.okr hp hr i),show List.zipWith (inn rule) m.own.bx (farP m.bx p rule i) = List.zipWith (inn rule) m.bx p from farP_inn h1 hr i] at e
          exact e)
      rw [seq_step (s':=⟨[.junk,.junk,.imm (slD c 1 (p.map ic)),.junk,.ptr 0 0,.junk,.junk,.junk,.junk,.junk,.junk,.junk,.junk,.junk,.junk,.junk,.junk,.junk,.junk,.junk,.junk,.junk,.junk,.junk,.junk,.junk,.junk,.junk,.junk,.junk,.junk,.junk,.junk,.junk,.junk,.junk,.junk,.junk,.junk,.junk,.junk,.junk,.junk,.junk,.junk,.junk,.junk,.junk,.junk,.junk,.junk,.junk,.junk,.junk,.junk,.junk,.junk,.junk,.junk,.junk,.junk,.junk,.junk,.junk],[boxI m],none⟩)]
      rotate_left
      · simp only [boxI,enB] at L1
        simp only [go_sem,Nat.reduceAdd,Nat.reduceSub,Nat.reduceMul,Nat.reduceDiv,Nat.reduceMod,Nat.reduceLeDiff,Nat.reduceLT,Nat.reduceBEq,Int.reduceToNat,Int.reduceLT,Int.reduceLE,Int.reduceEq,boxI,enB]
        rw [L1]
        simp only [go_sem,Nat.reduceAdd,Nat.reduceSub,Nat.reduceMul,Nat.reduceDiv,Nat.reduceMod,Nat.reduceLeDiff,Nat.reduceLT,Nat.reduceBEq,Int.reduceToNat,Int.reduceLT,Int.reduceLE,Int.reduceEq]
      rw [seq_step (s':=⟨[.junk,.junk,.imm (slD c 1 (p.map ic)),.junk,.ptr 0 0,.junk,.junk,.junk,.junk,.junk,.junk,.junk,.junk,.junk,.junk,.junk,.junk,.junk,.junk,.junk,.junk,.junk,.junk,.junk,.junk,.junk,.junk,.junk,.junk,.junk,.imm (.bool (hasB m.bx p)),.junk,.junk,.junk,.junk,.junk,.junk,.junk,.junk,.junk,.junk,.junk,.junk,.junk,.junk,.junk,.junk,.junk,.junk,.junk,.junk,.junk,.junk,.junk,.junk,.junk,.junk,.junk,.junk,.junk,.junk,.junk,.junk,.junk],[boxI m],none⟩)]
      rotate_left
      · simp only [go_sem,Nat.reduceAdd,Nat.reduceSub,Nat.reduceMul,Nat.reduceDiv,Nat.reduceMod,Nat.reduceLeDiff,Nat.reduceLT,Nat.reduceBEq,Int.reduceToNat,Int.reduceLT,Int.reduceLE,Int.reduceEq,boxI,enB,hs]
      rw [seq_step (s':=⟨[.junk,.junk,.junk,.junk,.junk,.junk,.junk,.junk,.junk,.junk,.junk,.junk,.junk,.junk,.junk,.junk,.junk,.junk,.junk,.junk,.junk,.junk,.junk,.junk,.junk,.junk,.junk,.junk,.junk,.junk,.junk,.junk,.junk,.junk,.junk,.junk,.junk,.junk,.junk,.junk,.junk,.junk,.junk,.junk,.junk,.junk,.junk,.junk,.junk,.junk,.junk,.junk,.junk,.junk,.junk,.junk,.junk,.junk,.junk,.junk,.junk,.junk,.junk,.junk],[],none⟩)]
      rotate_left
      · simp only [boxI,enB] at L3
        simp only [go_sem,Nat.reduceAdd,Nat.reduceSub,Nat.reduceMul,Nat.reduceDiv,Nat.reduceMod,Nat.reduceLeDiff,Nat.reduceLT,Nat.reduceBEq,Int.reduceToNat,Int.reduceLT,Int.reduceLE,Int.reduceEq,boxI,enB]
        rw [L3]
        simp only [go_sem,Nat.reduceAdd,Nat.reduceSub,Nat.reduceMul,Nat.reduceDiv,Nat.reduceMod,Nat.reduceLeDiff,Nat.reduceLT,Nat.reduceBEq,Int.reduceToNat,Int.reduceLT,Int.reduceLE,Int.reduceEq]
      simp only [go_sem,Nat.reduceAdd,Nat.reduceSub,Nat.reduceMul,Nat.reduceDiv,Nat.reduceMod,Nat.reduceLeDiff,Nat.reduceLT,Nat.reduceBEq,Int.reduceToNat,Int.reduceLT,Int.reduceLE,Int.reduceEq,hA]
  · have h5 : decide (¬ (p.length : Int) = m.bx.length) = true:=decide_eq_true (by omega)
    simp only [go_sem,Nat.reduceAdd,Nat.reduceSub,Nat.reduceMul,Nat.reduceDiv,Nat.reduceMod,Nat.reduceLeDiff,Nat.reduceLT,Nat.reduceBEq,Int.reduceToNat,Int.reduceLT,Int.reduceLE,Int.reduceEq,enB,boxI,h5,hA,ne_eq]
theorem backT3 (n : Nat) (hA : callP (level E (n+60)) 9 [] = some (.bool true)) (m : Im) (c : Bool) (p : List Int) (hv : Ok64 m.dt) (lx : m.bx.length < 1000000) (ls : m.st.length < 1000000) (ld : m.dt.length < 1000000) (lp : p.length < 1000) (hk : ckI m = 0) (N : Nat) (G : Good m N) (a1 a2 a3 : AO) (v0 v1 v3 v5 v6 v7 v8 v9 v10 v11 v12 v13 v14 v15 v16 v17 v18 v19 v20 v21 v22 v23 v24 v25 v26 v27 v28 v29 v30 v31 v32 v33 v34 v35 v36 v37 v38 v39 v40 v41 v42 v43 v44 v45 v46 v47 v48 v49 v50 v51 v52 v53 v54 v55 v56 v57 v58 v59 v60 v61 v62 v63 : AV) :
    pdC (fin [.v 3] (aCode (level E (n+60)) ⟨0,false⟩ (sq2 (sq2 (sq2 (sq2 (sq2 (sq2 (sq2 (sq2 (sq2 (sq2 (sq2 (sq2 (sq2 c3))))))))))))) (⟨[v0,v1,.imm (slD c 1 (p.map ic)),v3,.ptr 0 0,v5,v6,v7,v8,v9,v10,v11,v12,v13,v14,v15,v16,v17,v18,v19,v20,v21,v22,v23,v24,v25,v26,v27,v28,v29,v30,v31,v32,v33,v34,v35,v36,v37,v38,v39,v40,v41,v42,v43,v44,v45,v46,v47,v48,v49,v50,v51,v52,v53,v54,v55,v56,v57,v58,v59,v60,v61,v62,v63],[boxI m,a1,a2,a3],none⟩))) = some (.bool true):=by
  have l3:=G.len3
  have l1:=G.len1
  have pr:=okRProduct (n+59) m.bb m.bx (by omega)
  rw [G.many] at pr
  simp only [enB] at pr
  unfold sq2 c3
  dsimp only
  by_cases hl5 : p.length = m.bx.length
  · have h5 : decide (¬ (p.length : Int) = m.bx.length) = false:=decide_eq_false (by omega)
    by_cases hN : N = 0
    · have hN' : decide ((N : Int) = 0) = true:=decide_eq_true (by omega)
      simp only [go_sem,Nat.reduceAdd,Nat.reduceSub,Nat.reduceMul,Nat.reduceDiv,Nat.reduceMod,Nat.reduceLeDiff,Nat.reduceLT,Nat.reduceBEq,Int.reduceToNat,Int.reduceLT,Int.reduceLE,Int.reduceEq,enB,boxI,h5,pr,hN',hA,ne_eq,not_true_eq_false]
    have hN : decide ((N : Int) = 0) = false:=decide_eq_false (by omega)
    have L1:=backL1 n hA m c p lp
    rw [seq_step (s':=⟨[v0,v1,.imm (slD c 1 (p.map ic)),v3,.ptr 0 0,v5,v6,v7,v8,v9,v10,v11,v12,v13,v14,v15,v16,v17,v18,v19,v20,v21,v22,v23,v24,v25,v26,v27,v28,v29,v30,v31,v32,v33,v34,v35,v36,v37,v38,v39,v40,v41,v42,v43,v44,v45,v46,v47,v48,v49,.imm (.bool false),v51,v52,v53,v54,v55,v56,v57,v58,v59,v60,v61,v62,v63],[boxI m,a1,a2,a3],none⟩)]
    rotate_left
    · simp only [go_sem,Nat.reduceAdd,Nat.reduceSub,Nat.reduceMul,Nat.reduceDiv,Nat.reduceMod,Nat.reduceLeDiff,Nat.reduceLT,Nat.reduceBEq,Int.reduceToNat,Int.reduceLT,Int.reduceLE,Int.reduceEq,enB,boxI,h5,pr,hN]
    cases hb : p.any bigB with
    | true =>
      rw [if_pos hb] at L1
      simp only [boxI,enB] at L1
      simp only [go_sem,Nat.reduceAdd,Nat.reduceSub,Nat.reduceMul,Nat.reduceDiv,Nat.reduceMod,Nat.reduceLeDiff,Nat.reduceLT,Nat.reduceBEq,Int.reduceToNat,Int.reduceLT,Int.reduceLE,Int.reduceEq,boxI,enB]
      rw [L1]
      simp only [go_sem,Nat.reduceAdd,Nat.reduceSub,Nat.reduceMul,Nat.reduceDiv,Nat.reduceMod,Nat.reduceLeDiff,Nat.reduceLT,Nat.reduceBEq,Int.reduceToNat,Int.reduceLT,Int.reduceLE,Int.reduceEq]
    | false =>
      have hb' : ¬ (p.any bigB = true):=by rw [hb]; simp
      rw [if_neg hb'] at L1
      have hs:=okRHas (n+59) m.bb c m.bx p (by omega) (by omega)
      simp only [enB] at hs
      have hp : ∀ x ∈ p,-1000 ≤ x ∧ x ≤ 1000:=by
        intro x hx
        rw [List.any_eq_false] at hb
        have:=hb x hx
        simp [bigB] at this
        omega
      have hko : ckI m.own = 0:=by rw [ckI_own]; exact hk
      have Go : Good m.own N:=by
        obtain ⟨N',G'⟩:=good_of hko
        have : N' = N:=by have q1:=G'.many; have q2:=G.many; have : many m.own.bx = many m.bx:=rfl; omega
        subst this; exact G'
      have hN0 : N ≠ 0:=by intro hc; subst hc; simp at hN
      have L3:=backL3 n m c (hasB m.bx p) p (fun rule => atI m (List.zipWith (inn rule) m.bx p)) l3 l1 hl5 G.okr hb ls ld
        (fun rule hr => by
          have e:=okEdge (n+50) m.own false rule p 0 0 lx ls ld hv (by omega) (by decide) (by decide)
          rw [edge_ok hko N Go hN0 rule hr p hl5 (fun x hx => by have:=hp x hx; omega)] at e
          exact e)
        (fun hi rule hr => by
          have hin:=(hasB_in m.bx p G.okr hl5).1 hi
          have a:=okAtG (n+49) m.own false p lx ls ld hv
          have z:=at_in hko (q:=p) hin
          rw [if_pos z,z] at a
          rw [inn_in rule m.bx p hr G.okr hin]
          exact a)
        (fun rule h1 hr i hi => by
          have hl : p.length = m.bx.length:=hl5
          have e:=okEdge (n+50) m.own false rule (farP m.bx p rule i) 0 0 lx ls ld hv (by rw [farP_len]; omega) (by decide) (by decide)
          rw [edge_ok hko N Go hN0 rule hr (farP m.bx p rule i) (by rw [farP_len]; exact hl) (farP_bd hl G.okr hp hr i),show List.zipWith (inn rule) m.own.bx (farP m.bx p rule i) = List.zipWith (inn rule) m.bx p from farP_inn h1 hr i] at e
          exact e)
      rw [seq_step (s':=⟨[.junk,.junk,.imm (slD c 1 (p.map ic)),.junk,.ptr 0 0,.junk,.junk,.junk,.junk,.junk,.junk,.junk,.junk,.junk,.junk,.junk,.junk,.junk,.junk,.junk,.junk,.junk,.junk,.junk,.junk,.junk,.junk,.junk,.junk,.junk,.junk,.junk,.junk,.junk,.junk,.junk,.junk,.junk,.junk,.junk,.junk,.junk,.junk,.junk,.junk,.junk,.junk,.junk,.junk,.junk,.junk,.junk,.junk,.junk,.junk,.junk,.junk,.junk,.junk,.junk,.junk,.junk,.junk,.junk],[boxI m],none⟩)]
      rotate_left
      · simp only [boxI,enB] at L1
        simp only [go_sem,Nat.reduceAdd,Nat.reduceSub,Nat.reduceMul,Nat.reduceDiv,Nat.reduceMod,Nat.reduceLeDiff,Nat.reduceLT,Nat.reduceBEq,Int.reduceToNat,Int.reduceLT,Int.reduceLE,Int.reduceEq,boxI,enB]
        rw [L1]
        simp only [go_sem,Nat.reduceAdd,Nat.reduceSub,Nat.reduceMul,Nat.reduceDiv,Nat.reduceMod,Nat.reduceLeDiff,Nat.reduceLT,Nat.reduceBEq,Int.reduceToNat,Int.reduceLT,Int.reduceLE,Int.reduceEq]
      rw [seq_step (s':=⟨[.junk,.junk,.imm (slD c 1 (p.map ic)),.junk,.ptr 0 0,.junk,.junk,.junk,.junk,.junk,.junk,.junk,.junk,.junk,.junk,.junk,.junk,.junk,.junk,.junk,.junk,.junk,.junk,.junk,.junk,.junk,.junk,.junk,.junk,.junk,.imm (.bool (hasB m.bx p)),.junk,.junk,.junk,.junk,.junk,.junk,.junk,.junk,.junk,.junk,.junk,.junk,.junk,.junk,.junk,.junk,.junk,.junk,.junk,.junk,.junk,.junk,.junk,.junk,.junk,.junk,.junk,.junk,.junk,.junk,.junk,.junk,.junk],[boxI m],none⟩)]
      rotate_left
      · simp only [go_sem,Nat.reduceAdd,Nat.reduceSub,Nat.reduceMul,Nat.reduceDiv,Nat.reduceMod,Nat.reduceLeDiff,Nat.reduceLT,Nat.reduceBEq,Int.reduceToNat,Int.reduceLT,Int.reduceLE,Int.reduceEq,boxI,enB,hs]
      rw [seq_step (s':=⟨[.junk,.junk,.junk,.junk,.junk,.junk,.junk,.junk,.junk,.junk,.junk,.junk,.junk,.junk,.junk,.junk,.junk,.junk,.junk,.junk,.junk,.junk,.junk,.junk,.junk,.junk,.junk,.junk,.junk,.junk,.junk,.junk,.junk,.junk,.junk,.junk,.junk,.junk,.junk,.junk,.junk,.junk,.junk,.junk,.junk,.junk,.junk,.junk,.junk,.junk,.junk,.junk,.junk,.junk,.junk,.junk,.junk,.junk,.junk,.junk,.junk,.junk,.junk,.junk],[],none⟩)]
      rotate_left
      · simp only [boxI,enB] at L3
        simp only [go_sem,Nat.reduceAdd,Nat.reduceSub,Nat.reduceMul,Nat.reduceDiv,Nat.reduceMod,Nat.reduceLeDiff,Nat.reduceLT,Nat.reduceBEq,Int.reduceToNat,Int.reduceLT,Int.reduceLE,Int.reduceEq,boxI,enB]
        rw [L3]
        simp only [go_sem,Nat.reduceAdd,Nat.reduceSub,Nat.reduceMul,Nat.reduceDiv,Nat.reduceMod,Nat.reduceLeDiff,Nat.reduceLT,Nat.reduceBEq,Int.reduceToNat,Int.reduceLT,Int.reduceLE,Int.reduceEq]
      simp only [go_sem,Nat.reduceAdd,Nat.reduceSub,Nat.reduceMul,Nat.reduceDiv,Nat.reduceMod,Nat.reduceLeDiff,Nat.reduceLT,Nat.reduceBEq,Int.reduceToNat,Int.reduceLT,Int.reduceLE,Int.reduceEq,hA]
  · have h5 : decide (¬ (p.length : Int) = m.bx.length) = true:=decide_eq_true (by omega)
    simp only [go_sem,Nat.reduceAdd,Nat.reduceSub,Nat.reduceMul,Nat.reduceDiv,Nat.reduceMod,Nat.reduceLeDiff,Nat.reduceLT,Nat.reduceBEq,Int.reduceToNat,Int.reduceLT,Int.reduceLE,Int.reduceEq,enB,boxI,h5,hA,ne_eq]
theorem okImageBack (n : Nat) (hA : callP (level E (n+60)) 9 [] = some (.bool true)) (m : Im) (b : Bool) (l : Bx) (c : Bool) (p : List Int) (hv : Ok64 m.dt) :
    callP (level E (n+61)) 3 [enIm m,enB b l,slD c 1 (p.map ic)] = some (.bool true):=by
  have s1:=okShortImage (n+59) m
  have x1:=okShortBox (n+59) b l
  cases hs1 : shortI m with
  | false =>
    rw [hs1] at s1
    rw [p3]
    simp only [enIm,enB] at s1 x1
    simp only [go_sem,Nat.reduceAdd,Nat.reduceSub,Nat.reduceMul,Nat.reduceDiv,Nat.reduceMod,Nat.reduceLeDiff,Nat.reduceLT,Nat.reduceBEq,Int.reduceToNat,Int.reduceLT,Int.reduceLE,Int.reduceEq,enIm,enB,s1,hA]
  | true =>
  rw [hs1] at s1
  cases hx1 : (decide (l.length ≤ 4) && decide (shortN l ≤ 64)) with
  | false =>
    rw [hx1] at x1
    rw [p3]
    simp only [enIm,enB] at s1 x1
    simp only [go_sem,Nat.reduceAdd,Nat.reduceSub,Nat.reduceMul,Nat.reduceDiv,Nat.reduceMod,Nat.reduceLeDiff,Nat.reduceLT,Nat.reduceBEq,Int.reduceToNat,Int.reduceLT,Int.reduceLE,Int.reduceEq,enIm,enB,s1,x1,hA]
  | true =>
  rw [hx1] at x1
  by_cases hp5 : (p.length : Int) > 5
  · rw [p3]
    simp only [enIm,enB] at s1 x1
    simp only [go_sem,Nat.reduceAdd,Nat.reduceSub,Nat.reduceMul,Nat.reduceDiv,Nat.reduceMod,Nat.reduceLeDiff,Nat.reduceLT,Nat.reduceBEq,Int.reduceToNat,Int.reduceLT,Int.reduceLE,Int.reduceEq,enIm,enB,s1,x1,hp5,hA]
  obtain ⟨m1,m2,m3⟩:=shortI_len hs1
  have ll : l.length < 1000:=by simp at hx1; omega
  have lx : m.bx.length < 1000000:=by omega
  have ls : m.st.length < 1000000:=by omega
  have ld : m.dt.length < 1000000:=by omega
  have lp : p.length < 1000:=by omega
  have om:=okOwnImage (n+58) m lx ls ld
  have en:=okEncodeG (n+50) m.own lx ls ld hv
  rw [ckI_own] at en
  by_cases hk : ckI m = 0
  · obtain ⟨N,G⟩:=good_of hk
    have hko : ckI m.own = 0:=by rw [ckI_own]; exact hk
    have Go : Good m.own N:=by
      obtain ⟨N',G'⟩:=good_of hko
      have : N' = N:=by have q1:=G'.many; have q2:=G.many; have : many m.own.bx = many m.bx:=rfl; omega
      subst this; exact G'
    have l3:=G.len3
    have l1:=G.len1
    have sN:=G.small
    obtain ⟨yl1,yl2⟩:=byI_len Go
    have yby:=byI_by Go
    obtain ⟨g1,g2,g3,g4⟩:=back_good Go hv
    have dcE:=dec_enc Go hv
    have dcT:=dec_torn' Go hv
    have dc:=okDecodeG (n+50) (byI m.own) yby (by omega)
    have dt:=okDecodeG (n+50) ((byI m.own).take ((byI m.own).length - 1)) (yby.take _) (by rw [List.length_take]; omega)
    rw [dcT] at dt
    dsimp only at dt
    rw [e_im0] at dt
    rw [dcE] at dc
    have de:=okDenseG (n+50) m.own lx ls ld hv
    have hNm : (many m.own.bx).toNat = N:=by have:=Go.many; omega
    rw [if_pos hko,hko,hNm] at de
    have dg1:=okDigestG (n+50) m.own lx ls ld hv
    rw [if_pos hko,hko] at dg1
    have bxl : (backI m.own N).bx.length < 1000000:=lx
    have bsl : (backI m.own N).st.length < 1000000:=by show (strides 1 m.bx).length < _; rw [strides_len]; exact lx
    have bdl : (backI m.own N).dt.length < 1000000:=by simp [backI,dnI]; omega
    have oB:=okOwnImage (n+58) (backI m.own N) bxl bsl bdl
    have g1o : ckI (backI m.own N).own = 0:=by rw [ckI_own]; exact g1
    have dg2:=okDigestG (n+50) (backI m.own N).own bxl bsl bdl g2
    rw [if_pos g1o,g1o,show byI (backI m.own N).own = byI m.own from g4] at dg2
    have GB : Good (backI m.own N).own N:=by
      obtain ⟨N',G'⟩:=good_of g1o
      have : N' = N:=by have q1:=G'.many; have q2:=G.many; have : many (backI m.own N).own.bx = many m.bx:=rfl; omega
      subst this; exact G'
    have sm:=okSame2 (n+50) (backI m.own N).own m.own bxl bsl bdl g2 lx ls ld hv N N GB Go (by unfold ckSm; rw [g1o,hko]; rfl) rfl rfl
    have el : (List.range N).map (fun i => atI (backI m.own N).own (digits (backI m.own N).own.bx (i : Nat))) = (List.range N).map (fun i => atI m.own (digits m.own.bx (i : Nat))) :=
      List.map_congr_left fun i hi => by rw [List.mem_range] at hi; exact g3 _ (has_dig G.bx N G.many i hi).1
    rw [el,decide_eq_true ⟨rfl,rfl⟩] at sm
    have hAl : Alike (backI m.own N) (dnI m.own.kd false m.own.bx N (atI m.own)):=⟨rfl,rfl,rfl,rfl,bxl,bsl,bdl⟩
    have al:=okAlike (n+58) hAl
    have hfb : flatD (.tup [enIm (backI m.own N),.int .i64 0]) = false:=by
      have hf : flatD (enB true m.bx) = false:=flatB true (fun hc => by rw [hc] at l1; simp at l1)
      simp only [flatD,flatDL,enIm,backI,dnI]
      rw [show flatD (enB true m.own.bx) = false from hf]
      rfl
    have L0:=backL0 n m (dnI m.own.kd false m.own.bx N (atI m.own)) (enB b l) (slD c 1 (p.map ic)) (by omega) ls ld (fun i hi => by
      obtain ⟨t1,t2,t3,t4,t5⟩:=trans_trans hko hv N Go i hi
      obtain ⟨_,_,_,_,a5,a6,a7⟩:=t3
      have q1:=okTransG (n+50) m.own 0 (i : Int) lx ls ld hv
      have q2:=okTransG (n+50) (transR m.own 0 (i : Int)).1 0 (i : Int) a5 a6 a7 t2
      rw [t1] at q1
      rw [t4] at q2
      exact ⟨_,_,q1,q2,okAlike (n+58) t5⟩)
    have cr:=okCropG (n+50) m.own true l lx ls ld hv (by omega)
    have ob:=okOwnBox (n+59) b l (by omega)
    have obm:=okOwnBox (n+59) m.bb m.bx lx
    have T1:=backT1 n hA m c p hv lx ls ld lp hk N G
    have T3:=backT3 n hA m c p hv lx ls ld lp hk N G
    unfold sq2 at T1 T3
    rw [p3]
    unfold c3 at T1 T3 ⊢
    dsimp only at T1 T3 ⊢
    obtain ⟨x0,bs,hB⟩ : ∃ x0 bs,byI m.own = x0 :: bs:=by
      rcases hq : byI m.own with _ | ⟨x0,bs⟩
      · rw [hq] at yl2; simp at yl2
      · exact ⟨x0,bs,rfl⟩
    obtain ⟨tb,hT⟩ : ∃ tb,(byI m.own).take ((byI m.own).length - 1) = x0 :: tb:=by
      rw [hB] at yl2 ⊢
      rcases bs with _ | ⟨y0,bs⟩
      · simp at yl2
      · exact ⟨(y0 :: bs).take bs.length,rfl⟩
    have e1 : (bs.length + 1) * 2 ≤ 70368744177664:=by rw [hB] at yl1; simp only [List.length_cons] at yl1; omega
    have e2 : (tb.length + 1) * 2 ≤ 70368744177664:=by
      have h:=congrArg List.length hT
      rw [List.length_take,hB] at h
      simp only [List.length_cons] at h
      omega
    have wl : wrp .i64 (((bs.length + 1 : Nat) : Int) - 1) = ((bs.length : Nat) : Int):=by rw [wrp_ok (by omega)]; omega
    have w00 : wrp .i64 (0 + 0) = 0:=by decide
    have sl : ∀ st : List AO,aSlice st none 1 (.imm (.sl 1 ([.int .u8 x0] :: bs.map u8))) none (some bs.length) none = some (.imm (.sl 1 ([.int .u8 x0] :: tb.map u8))):=by
      intro st
      rw [sl_shi (by simp)]
      have h:=congrArg (List.map u8) hT
      rw [hB,List.map_take] at h
      simp only [List.length_cons,Nat.add_sub_cancel,List.map_cons] at h
      rw [show ([D.int .u8 x0] :: bs.map u8) = u8 x0 :: bs.map u8 from rfl,h]
      rfl
    rw [hB] at en dc
    rw [hT] at dt
    rw [if_pos hk,hk] at en
    obtain ⟨B,hBB⟩ : ∃ B,backI m.own N = B:=⟨_,rfl⟩
    obtain ⟨Dn,hDn⟩ : ∃ Dn,dnI m.own.kd false m.own.bx N (atI m.own) = Dn:=⟨_,rfl⟩
    obtain ⟨dg,hdg⟩ : ∃ dg,dgI (byI m.own) = dg:=⟨_,rfl⟩
    rw [hBB] at dc oB dg2 sm al hfb
    rw [hDn] at de al L0
    rw [hdg] at dg1 dg2
    have hm1 : cropR m.own m.bx = (Dn,0):=by rw [← hDn]; exact crop_self Go hko
    simp only [enIm,enB,Im.own,List.map_cons,u8] at om en dc de oB sm dg1 dg2 al dt s1 x1
    simp only [go_sem,Nat.reduceAdd,Nat.reduceSub,Nat.reduceMul,Nat.reduceDiv,Nat.reduceMod,Nat.reduceLeDiff,Nat.reduceLT,Nat.reduceBEq,Int.reduceToNat,Int.reduceLT,Int.reduceLE,Int.reduceEq,enIm,enB] at hfb
    rw [seq_step (s':=⟨[.imm (enIm m),.imm (enB b l),.imm (slD c 1 (p.map ic)),.imm (.bool false),.ptr 0 0,.junk,.junk,.junk,.junk,.junk,.junk,.junk,.junk,.junk,.junk,.junk,.junk,.junk,.junk,.junk,.junk,.junk,.junk,.junk,.junk,.junk,.junk,.junk,.junk,.junk,.junk,.junk,.junk,.junk,.junk,.junk,.junk,.junk,.junk,.junk,.junk,.junk,.junk,.junk,.junk,.junk,.junk,.junk,.junk,.junk,.junk,.junk,.junk,.junk,.junk,.junk,.junk,.junk,.junk,.junk,.junk,.junk,.junk,.junk],[boxI m],none⟩)]
    rotate_left
    · simp only [go_sem,Nat.reduceAdd,Nat.reduceSub,Nat.reduceMul,Nat.reduceDiv,Nat.reduceMod,Nat.reduceLeDiff,Nat.reduceLT,Nat.reduceBEq,Int.reduceToNat,Int.reduceLT,Int.reduceLE,Int.reduceEq,enIm,enB,boxI]
    rw [seq_step (s':=⟨[.imm (enIm m),.imm (enB b l),.imm (slD c 1 (p.map ic)),.imm (.bool false),.ptr 0 0,.junk,.junk,.junk,.junk,.junk,.junk,.junk,.junk,.junk,.junk,.junk,.junk,.junk,.junk,.junk,.junk,.junk,.junk,.junk,.junk,.junk,.junk,.junk,.junk,.junk,.junk,.junk,.junk,.junk,.junk,.junk,.junk,.junk,.junk,.junk,.imm (.bool false),.junk,.junk,.junk,.junk,.junk,.junk,.junk,.junk,.junk,.junk,.junk,.junk,.junk,.junk,.junk,.junk,.junk,.junk,.junk,.junk,.junk,.junk,.junk],[boxI m],none⟩)]
    rotate_left
    · simp only [go_sem,Nat.reduceAdd,Nat.reduceSub,Nat.reduceMul,Nat.reduceDiv,Nat.reduceMod,Nat.reduceLeDiff,Nat.reduceLT,Nat.reduceBEq,Int.reduceToNat,Int.reduceLT,Int.reduceLE,Int.reduceEq,enIm,enB,boxI,s1,x1,hp5]
    rw [seq_step (s':=⟨[.imm (enIm m),.imm (enB b l),.imm (slD c 1 (p.map ic)),.imm (.bool false),.ptr 0 0,.imm (.sl 1 ([.int .u8 x0] :: bs.map u8)),.imm (.int .i64 0),.junk,.junk,.junk,.junk,.junk,.junk,.junk,.junk,.junk,.junk,.junk,.junk,.junk,.junk,.junk,.junk,.junk,.junk,.junk,.junk,.junk,.junk,.junk,.junk,.junk,.junk,.junk,.junk,.junk,.junk,.junk,.junk,.junk,.imm (.bool false),.junk,.junk,.junk,.junk,.junk,.junk,.junk,.junk,.junk,.junk,.junk,.junk,.junk,.junk,.junk,.junk,.junk,.junk,.junk,.junk,.junk,.junk,.junk],[boxI m],none⟩)]
    rotate_left
    · simp only [go_sem,Nat.reduceAdd,Nat.reduceSub,Nat.reduceMul,Nat.reduceDiv,Nat.reduceMod,Nat.reduceLeDiff,Nat.reduceLT,Nat.reduceBEq,Int.reduceToNat,Int.reduceLT,Int.reduceLE,Int.reduceEq,enIm,enB,boxI,om,en]
    rw [seq_step (s':=⟨[.imm (enIm m),.imm (enB b l),.imm (slD c 1 (p.map ic)),.imm (.bool false),.ptr 0 0,.imm (.sl 1 ([.int .u8 x0] :: bs.map u8)),.imm (.int .i64 0),.junk,.junk,.junk,.junk,.junk,.junk,.junk,.junk,.junk,.junk,.junk,.junk,.junk,.junk,.junk,.junk,.junk,.junk,.junk,.junk,.junk,.junk,.junk,.junk,.junk,.junk,.junk,.junk,.junk,.junk,.junk,.junk,.junk,.imm (.bool false),.imm (.bool false),.junk,.junk,.junk,.junk,.junk,.junk,.junk,.junk,.junk,.junk,.junk,.junk,.junk,.junk,.junk,.junk,.junk,.junk,.junk,.junk,.junk,.junk],[boxI m],none⟩)]
    rotate_left
    · simp only [go_sem,Nat.reduceAdd,Nat.reduceSub,Nat.reduceMul,Nat.reduceDiv,Nat.reduceMod,Nat.reduceLeDiff,Nat.reduceLT,Nat.reduceBEq,Int.reduceToNat,Int.reduceLT,Int.reduceLE,Int.reduceEq,ne_eq,not_true_eq_false]
    rw [seq_step (s':=⟨[.imm (enIm m),.imm (enB b l),.imm (slD c 1 (p.map ic)),.imm (.bool false),.ptr 0 0,.imm (.sl 1 ([.int .u8 x0] :: bs.map u8)),.imm (.int .i64 0),.ptr 2 0,.imm (.int .i64 0),.junk,.junk,.junk,.junk,.junk,.junk,.junk,.junk,.junk,.junk,.junk,.junk,.junk,.junk,.junk,.junk,.junk,.junk,.junk,.junk,.junk,.junk,.junk,.junk,.junk,.junk,.junk,.junk,.junk,.junk,.junk,.imm (.bool false),.imm (.bool false),.junk,.junk,.junk,.junk,.junk,.junk,.junk,.junk,.junk,.junk,.junk,.junk,.junk,.junk,.junk,.junk,.junk,.junk,.junk,.junk,.junk,.junk],[boxI m,.farr 1 ([.int .u8 x0] :: bs.map u8),boxI B],none⟩)]
    rotate_left
    · simp only [go_sem,Nat.reduceAdd,Nat.reduceSub,Nat.reduceMul,Nat.reduceDiv,Nat.reduceMod,Nat.reduceLeDiff,Nat.reduceLT,Nat.reduceBEq,Int.reduceToNat,Int.reduceLT,Int.reduceLE,Int.reduceEq,enIm,enB,boxI,dc,e1,hfb]
    rw [seq_step (s':=⟨[.imm (enIm m),.imm (enB b l),.imm (slD c 1 (p.map ic)),.imm (.bool false),.ptr 0 0,.imm (.sl 1 ([.int .u8 x0] :: bs.map u8)),.imm (.int .i64 0),.ptr 2 0,.imm (.int .i64 0),.ptr 3 0,.imm (.int .i64 0),.junk,.junk,.junk,.junk,.junk,.junk,.junk,.junk,.junk,.junk,.junk,.junk,.junk,.junk,.junk,.junk,.junk,.junk,.junk,.junk,.junk,.junk,.junk,.junk,.junk,.junk,.junk,.junk,.junk,.imm (.bool false),.imm (.bool false),.junk,.junk,.junk,.junk,.junk,.junk,.junk,.junk,.junk,.junk,.junk,.junk,.junk,.junk,.junk,.junk,.junk,.junk,.junk,.junk,.junk,.junk],[boxI m,.farr 1 ([.int .u8 x0] :: bs.map u8),boxI B,boxI Dn],none⟩)]
    rotate_left
    · simp only [go_sem,Nat.reduceAdd,Nat.reduceSub,Nat.reduceMul,Nat.reduceDiv,Nat.reduceMod,Nat.reduceLeDiff,Nat.reduceLT,Nat.reduceBEq,Int.reduceToNat,Int.reduceLT,Int.reduceLE,Int.reduceEq,enIm,enB,boxI,om,de]
    rw [seq_step (s':=⟨[.imm (enIm m),.imm (enB b l),.imm (slD c 1 (p.map ic)),.imm (.bool false),.ptr 0 0,.imm (.sl 1 ([.int .u8 x0] :: bs.map u8)),.imm (.int .i64 0),.ptr 2 0,.imm (.int .i64 0),.ptr 3 0,.imm (.int .i64 0),.imm (.bool true),.imm (.int .i64 0),.junk,.junk,.junk,.junk,.junk,.junk,.junk,.junk,.junk,.junk,.junk,.junk,.junk,.junk,.junk,.junk,.junk,.junk,.junk,.junk,.junk,.junk,.junk,.junk,.junk,.junk,.junk,.imm (.bool false),.imm (.bool false),.junk,.junk,.junk,.junk,.junk,.junk,.junk,.junk,.junk,.junk,.junk,.junk,.junk,.junk,.junk,.junk,.junk,.junk,.junk,.junk,.junk,.junk],[boxI m,.farr 1 ([.int .u8 x0] :: bs.map u8),boxI B,boxI Dn],none⟩)]
    rotate_left
    · simp only [go_sem,Nat.reduceAdd,Nat.reduceSub,Nat.reduceMul,Nat.reduceDiv,Nat.reduceMod,Nat.reduceLeDiff,Nat.reduceLT,Nat.reduceBEq,Int.reduceToNat,Int.reduceLT,Int.reduceLE,Int.reduceEq,enIm,enB,boxI,om,oB,sm]
    rw [seq_step (s':=⟨[.imm (enIm m),.imm (enB b l),.imm (slD c 1 (p.map ic)),.imm (.bool false),.ptr 0 0,.imm (.sl 1 ([.int .u8 x0] :: bs.map u8)),.imm (.int .i64 0),.ptr 2 0,.imm (.int .i64 0),.ptr 3 0,.imm (.int .i64 0),.imm (.bool true),.imm (.int .i64 0),.imm (.int .u64 dg),.imm (.int .i64 0),.junk,.junk,.junk,.junk,.junk,.junk,.junk,.junk,.junk,.junk,.junk,.junk,.junk,.junk,.junk,.junk,.junk,.junk,.junk,.junk,.junk,.junk,.junk,.junk,.junk,.imm (.bool false),.imm (.bool false),.junk,.junk,.junk,.junk,.junk,.junk,.junk,.junk,.junk,.junk,.junk,.junk,.junk,.junk,.junk,.junk,.junk,.junk,.junk,.junk,.junk,.junk],[boxI m,.farr 1 ([.int .u8 x0] :: bs.map u8),boxI B,boxI Dn],none⟩)]
    rotate_left
    · simp only [go_sem,Nat.reduceAdd,Nat.reduceSub,Nat.reduceMul,Nat.reduceDiv,Nat.reduceMod,Nat.reduceLeDiff,Nat.reduceLT,Nat.reduceBEq,Int.reduceToNat,Int.reduceLT,Int.reduceLE,Int.reduceEq,enIm,enB,boxI,om,dg1]
    rw [seq_step (s':=⟨[.imm (enIm m),.imm (enB b l),.imm (slD c 1 (p.map ic)),.imm (.bool false),.ptr 0 0,.imm (.sl 1 ([.int .u8 x0] :: bs.map u8)),.imm (.int .i64 0),.ptr 2 0,.imm (.int .i64 0),.ptr 3 0,.imm (.int .i64 0),.imm (.bool true),.imm (.int .i64 0),.imm (.int .u64 dg),.imm (.int .i64 0),.imm (.int .u64 dg),.imm (.int .i64 0),.junk,.junk,.junk,.junk,.junk,.junk,.junk,.junk,.junk,.junk,.junk,.junk,.junk,.junk,.junk,.junk,.junk,.junk,.junk,.junk,.junk,.junk,.junk,.imm (.bool false),.imm (.bool false),.junk,.junk,.junk,.junk,.junk,.junk,.junk,.junk,.junk,.junk,.junk,.junk,.junk,.junk,.junk,.junk,.junk,.junk,.junk,.junk,.junk,.junk],[boxI m,.farr 1 ([.int .u8 x0] :: bs.map u8),boxI B,boxI Dn],none⟩)]
    rotate_left
    · simp only [go_sem,Nat.reduceAdd,Nat.reduceSub,Nat.reduceMul,Nat.reduceDiv,Nat.reduceMod,Nat.reduceLeDiff,Nat.reduceLT,Nat.reduceBEq,Int.reduceToNat,Int.reduceLT,Int.reduceLE,Int.reduceEq,enIm,enB,boxI,oB,dg2]
    rw [seq_step (s':=⟨[.imm (enIm m),.imm (enB b l),.imm (slD c 1 (p.map ic)),.imm (.bool false),.ptr 0 0,.imm (.sl 1 ([.int .u8 x0] :: bs.map u8)),.imm (.int .i64 0),.ptr 2 0,.imm (.int .i64 0),.ptr 3 0,.imm (.int .i64 0),.imm (.bool true),.imm (.int .i64 0),.imm (.int .u64 dg),.imm (.int .i64 0),.imm (.int .u64 dg),.imm (.int .i64 0),.junk,.junk,.junk,.junk,.junk,.junk,.junk,.junk,.junk,.junk,.junk,.junk,.junk,.junk,.junk,.junk,.junk,.junk,.junk,.junk,.junk,.junk,.junk,.imm (.bool false),.imm (.bool false),.imm (.bool false),.junk,.junk,.junk,.junk,.junk,.junk,.junk,.junk,.junk,.junk,.junk,.junk,.junk,.junk,.junk,.junk,.junk,.junk,.junk,.junk,.junk],[boxI m,.farr 1 ([.int .u8 x0] :: bs.map u8),boxI B,boxI Dn],none⟩)]
    rotate_left
    · simp only [go_sem,Nat.reduceAdd,Nat.reduceSub,Nat.reduceMul,Nat.reduceDiv,Nat.reduceMod,Nat.reduceLeDiff,Nat.reduceLT,Nat.reduceBEq,Int.reduceToNat,Int.reduceLT,Int.reduceLE,Int.reduceEq,enIm,enB,boxI,al,w00,ne_eq,not_true_eq_false]
    rw [seq_step (s':=⟨[.imm (enIm m),.imm (enB b l),.imm (slD c 1 (p.map ic)),.imm (.bool false),.ptr 0 0,.imm (.sl 1 ([.int .u8 x0] :: bs.map u8)),.imm (.int .i64 0),.ptr 2 0,.imm (.int .i64 0),.ptr 3 0,.imm (.int .i64 0),.imm (.bool true),.imm (.int .i64 0),.imm (.int .u64 dg),.imm (.int .i64 0),.imm (.int .u64 dg),.imm (.int .i64 0),.imm (.int .i64 24),.junk,.junk,.junk,.junk,.junk,.junk,.junk,.junk,.junk,.junk,.junk,.junk,.junk,.junk,.junk,.junk,.junk,.junk,.junk,.junk,.junk,.junk,.imm (.bool false),.imm (.bool false),.imm (.bool false),.imm (.bool false),.junk,.junk,.junk,.junk,.junk,.junk,.junk,.junk,.junk,.junk,.junk,.junk,.junk,.junk,.junk,.junk,.junk,.junk,.junk,.junk],[boxI m,.farr 1 ([.int .u8 x0] :: bs.map u8),boxI B,boxI Dn,.arr 1 ([.int .u8 x0] :: tb.map u8),boxZ],none⟩)]
    rotate_left
    · simp only [go_sem,Nat.reduceAdd,Nat.reduceSub,Nat.reduceMul,Nat.reduceDiv,Nat.reduceMod,Nat.reduceLeDiff,Nat.reduceLT,Nat.reduceBEq,Int.reduceToNat,Int.reduceLT,Int.reduceLE,Int.reduceEq,enIm,enB,boxI,dt,wl,bd_nat,sl,e2,e_im0,ne_eq,not_true_eq_false,Bool.false_eq_true]
    rw [seq_step (s':=⟨[.junk,.imm (enB b l),.imm (slD c 1 (p.map ic)),.junk,.ptr 0 0,.junk,.junk,.junk,.junk,.junk,.junk,.junk,.junk,.junk,.junk,.junk,.junk,.junk,.junk,.junk,.junk,.junk,.junk,.junk,.junk,.junk,.junk,.junk,.junk,.junk,.junk,.junk,.junk,.junk,.junk,.junk,.junk,.junk,.junk,.junk,.junk,.junk,.junk,.junk,.junk,.junk,.junk,.junk,.junk,.junk,.junk,.junk,.junk,.junk,.junk,.junk,.junk,.junk,.junk,.junk,.junk,.junk,.junk,.junk],[boxI m],none⟩)]
    rotate_left
    · simp only [boxI,enB] at L0
      simp only [go_sem,Nat.reduceAdd,Nat.reduceSub,Nat.reduceMul,Nat.reduceDiv,Nat.reduceMod,Nat.reduceLeDiff,Nat.reduceLT,Nat.reduceBEq,Int.reduceToNat,Int.reduceLT,Int.reduceLE,Int.reduceEq,boxI,enB]
      rw [L0]
      simp only [go_sem,Nat.reduceAdd,Nat.reduceSub,Nat.reduceMul,Nat.reduceDiv,Nat.reduceMod,Nat.reduceLeDiff,Nat.reduceLT,Nat.reduceBEq,Int.reduceToNat,Int.reduceLT,Int.reduceLE,Int.reduceEq]
    by_cases hec : (cropR m.own l).2 = 0
    · obtain ⟨c1,c2⟩:=crop_crop Go hv hec
      rw [show dnI m.own.kd false m.own.bx N (atI m.own) = Dn from hDn] at c1 c2
      have cr2:=okCropG (n+50) m.own true m.bx lx ls ld hv lx
      rw [hm1] at cr2
      obtain ⟨d1,d2,d3⟩:=dense_good Go hv false
      have dxl : Dn.bx.length < 1000000:=by rw [← hDn]; exact lx
      have dsl : Dn.st.length < 1000000:=by rw [← hDn]; exact bsl
      have ddl : Dn.dt.length < 1000000:=by rw [← hDn]; exact bdl
      rw [hDn] at d2
      have cr3:=okCropG (n+50) Dn true l dxl dsl ddl d2 (by omega)
      rw [c1] at cr3
      rw [hec] at cr
      have alc:=okAlike (n+58) c2
      obtain ⟨C,hC⟩ : ∃ C,(cropR m.own l).1 = C:=⟨_,rfl⟩
      obtain ⟨F,hF⟩ : ∃ F,(cropR Dn l).1 = F:=⟨_,rfl⟩
      rw [hC] at cr alc
      rw [hF] at cr3 alc
      simp only [enIm,enB,Im.own] at cr cr2 cr3 alc ob obm
      rw [seq_step (s':=⟨[.junk,.imm (enB b l),.imm (slD c 1 (p.map ic)),.junk,.ptr 0 0,.junk,.junk,.junk,.junk,.junk,.junk,.junk,.junk,.junk,.junk,.junk,.junk,.junk,.junk,.junk,.junk,.junk,.junk,.ptr 1 0,.imm (.int .i64 0),.ptr 2 0,.imm (.int .i64 0),.ptr 3 0,.imm (.int .i64 0),.junk,.junk,.junk,.junk,.junk,.junk,.junk,.junk,.junk,.junk,.junk,.junk,.junk,.junk,.junk,.junk,.junk,.junk,.junk,.imm (.bool true),.imm (.bool false),.junk,.junk,.junk,.junk,.junk,.junk,.junk,.junk,.junk,.junk,.junk,.junk,.junk,.junk],[boxI m,boxI C,boxI Dn,boxI F],none⟩)]
      rotate_left
      · simp only [go_sem,Nat.reduceAdd,Nat.reduceSub,Nat.reduceMul,Nat.reduceDiv,Nat.reduceMod,Nat.reduceLeDiff,Nat.reduceLT,Nat.reduceBEq,Int.reduceToNat,Int.reduceLT,Int.reduceLE,Int.reduceEq,enIm,enB,boxI,om,ob,obm,cr,cr2,cr3,alc,ne_eq,not_true_eq_false,Bool.false_eq_true]
      exact T3 _ _ _ _ _ _ _ _ _ _ _ _ _ _ _ _ _ _ _ _ _ _ _ _ _ _ _ _ _ _ _ _ _ _ _ _ _ _ _ _ _ _ _ _ _ _ _ _ _ _ _ _ _ _ _ _ _ _ _ _ _ _ _ _ _
    · obtain ⟨C,hC⟩ : ∃ C,(cropR m.own l).1 = C:=⟨_,rfl⟩
      rw [hC] at cr
      simp only [enIm,enB,Im.own] at cr ob
      rw [seq_step (s':=⟨[.junk,.imm (enB b l),.imm (slD c 1 (p.map ic)),.junk,.ptr 0 0,.junk,.junk,.junk,.junk,.junk,.junk,.junk,.junk,.junk,.junk,.junk,.junk,.junk,.junk,.junk,.junk,.junk,.junk,.ptr 1 0,.imm (.int .i64 (cropR m.own l).2),.junk,.junk,.junk,.junk,.junk,.junk,.junk,.junk,.junk,.junk,.junk,.junk,.junk,.junk,.junk,.junk,.junk,.junk,.junk,.junk,.junk,.junk,.junk,.imm (.bool false),.junk,.junk,.junk,.junk,.junk,.junk,.junk,.junk,.junk,.junk,.junk,.junk,.junk,.junk,.junk],[boxI m,boxI C],none⟩)]
      rotate_left
      · simp only [Im.own] at hec
        simp only [go_sem,Nat.reduceAdd,Nat.reduceSub,Nat.reduceMul,Nat.reduceDiv,Nat.reduceMod,Nat.reduceLeDiff,Nat.reduceLT,Nat.reduceBEq,Int.reduceToNat,Int.reduceLT,Int.reduceLE,Int.reduceEq,enIm,enB,boxI,om,ob,cr,hec,Im.own]
      exact T1 _ _ _ _ _ _ _ _ _ _ _ _ _ _ _ _ _ _ _ _ _ _ _ _ _ _ _ _ _ _ _ _ _ _ _ _ _ _ _ _ _ _ _ _ _ _ _ _ _ _ _ _ _ _ _ _ _ _ _ _ _ _ _
  · rw [if_neg hk] at en
    rw [p3]
    simp only [enIm,enB,Im.own] at om en s1 x1
    simp only [go_sem,Nat.reduceAdd,Nat.reduceSub,Nat.reduceMul,Nat.reduceDiv,Nat.reduceMod,Nat.reduceLeDiff,Nat.reduceLT,Nat.reduceBEq,Int.reduceToNat,Int.reduceLT,Int.reduceLE,Int.reduceEq,enIm,enB,s1,x1,hp5,om,en,hk,hA,ne_eq,not_false_eq_true]
end Go.Vm.P4D

/- Chapter 04: ImageBack: the row and the card. -/
set_option maxRecDepth 100000
namespace Go.Proofs.YtgbmhofpndjdoaaDoor
open Go Go.Vm Go.Vm.P4 Go.Vm.P4D Go.ChangeShapes Go.WideShapes Go.ChangeAt Go.RowKit
theorem readImage : Tryd.prog.readableRec 27 = true:=by kernel_rfl
theorem rowImage : 27 < Tryd.prog.types.size:=of_decide_eq_true (by kernel_rfl)
theorem readBox : Tryd.prog.readableRec 23 = true:=by kernel_rfl
theorem rowBox : 23 < Tryd.prog.types.size:=of_decide_eq_true (by kernel_rfl)
theorem readInts : Tryd.prog.readableRec 24 = true:=by kernel_rfl
theorem rowInts : 24 < Tryd.prog.types.size:=of_decide_eq_true (by kernel_rfl)
theorem liftedImageBack (os : Os) (started : os.Started) (H : Type) (enc : TypeId × Value → H) :
    ReturnsInHanded {} Tryd.checked os 3 .any (fun w args => (Rows.imageBackSpec.pre enc Tryd.prog Tryd.f3 [] false w args ∧ laidMetH Tryd.prog laidW w) ∧ sizedMet enc Tryd.prog Tryd.f3 (OpenSpec.ofChange Rows.imageBackSpec) false w args)
      (Rows.imageBackSpec.post enc Tryd.prog Tryd.f3 false true false false):=by
  refine returnsInHanded_of_change_and (C:=Tryd.checked) (X:=fun w _ => laidMetH Tryd.prog laidW w) (fun _ _ _ hh h => h.of_heap hh) ownT started (by kernel_rfl) Tryd.func3
    (ChangeSpec.witness_shaped (enc:=enc) (C:=Tryd.checked) (os:=os) (X:=fun w _ => laidMetH Tryd.prog laidW w) false (World.doorLaid Tryd.prog 2000 os) #[.agg #[.int .i64 0,.slice none 0 0,.slice none 0 0,.slice none 0 0],.slice none 0 0,.slice none 0 0] 8 rfl (World.shaped_of_RefB (by kernel_rfl) (by kernel_rfl)) (by kernel_rfl) (by kernel_rfl) (by kernel_rfl) (door_met os _)) ?_
  intro W base args ds gs before hval0 hW _ _ hL _
  have hW':=hW
  have hlt:=hW.lt
  obtain ⟨p,q,hA0,hV,rfl,hfz,hnd⟩:=hW
  have hA : DataW.TrodAll enc Tryd.prog W 0 (fun _ => true) true Tryd.f3.params.toList args.toList ds p:=hA0
  rw [Tryd.params3] at hA
  obtain ⟨v0,v1,v2,d0,d1,d2,p0,p1,p2,rfl,rfl,rfl,h0,h1,h2⟩:=trodAll_three hA
  obtain ⟨rfl,rfl⟩:=trodVars_none hV
  have hval : ∀ (j : Nat) t v,Tryd.f3.params[j]? = some t → (#[v0,v1,v2] : Array Value)[j]? = some v → Value.okWide Tryd.prog W .any base t v:=hval0
  rw [Tryd.params3] at hval
  obtain ⟨m0,g0,r0⟩:=arg_image (hval 0 27 v0 rfl rfl) h0
  obtain ⟨b1,l1,r1⟩:=arg_box (hval 1 23 v1 rfl rfl) h1
  obtain ⟨b2,l2,r2⟩:=arg_ints (hval 2 24 v2 rfl rfl) h2
  refine (call_ok anyXP (okImageBack 0 (okAwake 0) m0 b1 l1 b2 l2 g0) hL rfl (fun j d hj => ?_)).mono fun e w ⟨r,F,he,htr,hr⟩ => ?_
  · match j,hj with
    | 0,hj => injection hj with hj; subst hj; exact r0
    | 1,hj => injection hj with hj; subst hj; exact r1
    | 2,hj => injection hj with hj; subst hj; exact r2
    | j + 3,hj => simp at hj
  · subst he
    have hb:=below_of htr
    obtain rfl:=bool_of hr
    refine ⟨_,rfl,[d0,d1,d2],[],p0 ++ p1 ++ p2 ++ [],[],p0 ++ (p1 ++ p2),[],hW',trodAll_mk1 (shut_bool Tryd.underlying4 _),?_,rfl,hb.frame _,nofun⟩
    exact trodAll_mk3 (Below.trod laidOutT readImage rowImage h0 hb fun x hx => hlt x (by simp [hx])) (Below.trod laidOutT readBox rowBox h1 hb fun x hx => hlt x (by simp [hx])) (Below.trod laidOutT readInts rowInts h2 hb fun x hx => hlt x (by simp [hx]))
theorem imageBack_said : Rows.ImageBackSaid :=
  OpenClaim.holds_of_wide 3 Tryd.f3 rfl rfl rfl rfl rfl rfl rfl ⟨rfl,rfl,rfl,rfl,rfl⟩ rfl rfl rfl rfl rfl (by kernel_rfl) Tryd.func3 (by kernel_rfl)
    (of_decide_eq_true (by kernel_rfl)) (by unfold Func.isWrapper; first | (rw [if_pos (by decide +kernel)]; kernel_rfl) | (rw [if_neg (by decide +kernel)]; exact ⟨rfl,rfl⟩))
    (fun os started H enc _ => liftedImageBack os started H enc)
theorem imageBack_holds : Rows.ImageBackCardSaid :=
  Claim7.holds_tied_plain_at .later [] [.data,.funcs] true (true, "359382384c43234c9f54482ff26339fbdcdd3930ee5da971ef51885eb1764899") false
    imageBack_said (fun _ h => by cases h) (by kernel_rfl) (fun _ h => by cases h) imageBack_row_tie rfl ⟨rfl,rfl⟩ (by kernel_rfl) rfl
    (fun f fn hf hfn => by
      obtain rfl : f = 3:=Option.some.inj ((show Tryd.prog.funcNamed "halation/halationlaw04.ImageBack" = some 3 by kernel_rfl).symm.trans hf) |>.symm
      obtain rfl : fn = Tryd.f3:=(Option.some.inj (Tryd.func3.symm.trans hfn)).symm
      exact ⟨by kernel_rfl,fun j t ht => by
        rw [Tryd.params3] at ht
        have hm : t ∈ [27,23,24]:=by simpa using Array.mem_of_getElem? ht
        have hall : ([27,23,24].all fun u => !Tryd.prog.wantsStandIn u) = true:=by kernel_rfl
        exact (show Tryd.prog.wantsStandIn t = false by simpa using List.all_eq_true.1 hall t hm)⟩)
    (by kernel_rfl)
#print axioms imageBack_holds
end Go.Proofs.YtgbmhofpndjdoaaDoor
