import PyProof.Rows.All
import Wide.All
import OpenK.AllK
import Wide.FinOn
import HandS.ForMost
import HandS.IsInst
import HandS.FStr
import HandS.Gcd
import HandS.Style
import HandS.Nested
import HandS.Walk
import KE.KSuper
import HandS.Star
import HandS.ExcInit
import HandS.TryMany
import HandS.ExcField
import HandS.ExcOwn
import HandS.WordsExc
import KE.KExcSuper
import HandS.Lambda
import KE.KCallOwn
import HandS.DeepEq
import HandS.Zip
import HandS.More
import HandS.Small
import HandS.Text
import HandS.Flow
import KE.KIntText
import HandS.EndTab
import PySem.Challenge.RW_surelet_k10_whole_ladder_beside_a_bucket
set_option Elab.async false
set_option linter.all false
set_option maxRecDepth 100000
set_option maxHeartbeats 4000000
/-! Kit: my own layer over the hand layer: names by one check each, operations by values, the steps of a reading, the bag of a law. -/
namespace Kit
open PySem PySem.Spec PyProof.Rows L2

/-! ### names -/
def visB (sc : Scope) (x : Str) : Bool :=
  (match sc.names.lookup x with | some .local => true | some .cell => true | some .free => true | _ => false) && (!(x == ("__debug__" : Str)) && !(x == ("__classdict__" : Str)))
theorem visB_ok {sc : Scope} {x : Str} (h : visB sc x = true) : Vis sc x ∧ (x == ("__debug__" : Str)) = false ∧ (x == ("__classdict__" : Str)) = false := by
  unfold visB at h
  simp only [Bool.and_eq_true, Bool.not_eq_true'] at h
  obtain ⟨h1, h2, h3⟩ := h
  refine ⟨?_, h2, h3⟩
  unfold Vis
  split at h1
  · exact .inl (by assumption)
  · exact .inr (.inl (by assumption))
  · exact .inr (.inr (by assumption))
  · cases h1
def locB (sc : Scope) (x : Str) : Bool := match sc.names.lookup x with | some .local => true | _ => false
def celB (sc : Scope) (x : Str) : Bool := match sc.names.lookup x with | some .cell => true | _ => false
theorem locB_ok {sc : Scope} {x : Str} (h : locB sc x = true) : sc.names.lookup x = some .local := by
  unfold locB at h
  split at h
  · assumption
  · cases h
theorem celB_ok {sc : Scope} {x : Str} (h : celB sc x = true) : sc.names.lookup x = some .cell := by
  unfold celB at h
  split at h
  · assumption
  · cases h
section
variable {X : Cx}
theorem kv {i : Nat} {x : Str} {pos : Pos} (h : visB X.env.scope x = true) (hN : X.N[i]? = some x := by rfl) : PE X (.Name x pos) (tVar i) :=
  let ⟨a, b, c⟩ := visB_ok h
  pe_var hN a b c
theorem kgL {i : Nat} {x : Str} {pos : Pos} (hN : X.N.Nodup) (h : locB X.env.scope x = true) (hi : X.N[i]? = some x := by rfl) : PG X (.Name x pos) (gName i) :=
  pg_name hN hi (.inl (locB_ok h)) (.inr (locB_ok h))
theorem kgC {i : Nat} {x : Str} {pos : Pos} (hN : X.N.Nodup) (h : celB X.env.scope x = true) (hi : X.N[i]? = some x := by rfl) (hf : X.fn x = true := by rfl) : PG X (.Name x pos) (gName i) :=
  pg_name hN hi (.inr (celB_ok h)) (.inl hf)
theorem ks_setL {i : Nat} {x : Str} {e : Expr} {te : TE} {p' pos : Pos} (hN : X.N.Nodup) (h : locB X.env.scope x = true) (he : PE X e te) (hi : X.N[i]? = some x := by rfl) (hs : swapsWith e (some (.Name x p')) pos.line X.env = pure false := by rfl) :
    PS X (.Assign [.Name x p'] e pos) (tAsg te (gName i)) := ps_set hN hi (.inl (locB_ok h)) he hs (.inr (locB_ok h))
theorem ks_setC {i : Nat} {x : Str} {e : Expr} {te : TE} {p' pos : Pos} (hN : X.N.Nodup) (h : celB X.env.scope x = true) (he : PE X e te) (hi : X.N[i]? = some x := by rfl) (hs : swapsWith e (some (.Name x p')) pos.line X.env = pure false := by rfl) (hf : X.fn x = true := by rfl) :
    PS X (.Assign [.Name x p'] e pos) (tAsg te (gName i)) := ps_set hN hi (.inr (celB_ok h)) he hs (.inl hf)

/-! ### built-in names -/
section
variable {e : Expr} {es : List Expr} {t : TA} {p pos : Pos}
theorem kty_int (hg : Gl X "int") (hm : X.mg "int" = none) : PE X (.Name "int" pos) (tC (.ty "int")) := pe_bltn hg hm (u := .type "int") (by decide +kernel) rfl
theorem kty_bool (hg : Gl X "bool") (hm : X.mg "bool" = none) : PE X (.Name "bool" pos) (tC (.ty "bool")) := pe_bltn hg hm (u := .type "bool") (by decide +kernel) rfl
theorem kty_str (hg : Gl X "str") (hm : X.mg "str" = none) : PE X (.Name "str" pos) (tC (.ty "str")) := pe_bltn hg hm (u := .type "str") (by decide +kernel) rfl
theorem kty_list (hg : Gl X "list") (hm : X.mg "list" = none) : PE X (.Name "list" pos) (tC (.ty "list")) := pe_bltn hg hm (u := .type "list") (by decide +kernel) rfl
theorem kty_tuple (hg : Gl X "tuple") (hm : X.mg "tuple" = none) : PE X (.Name "tuple" pos) (tC (.ty "tuple")) := pe_bltn hg hm (u := .type "tuple") (by decide +kernel) rfl
theorem kty_dict (hg : Gl X "dict") (hm : X.mg "dict" = none) : PE X (.Name "dict" pos) (tC (.ty "dict")) := pe_bltn hg hm (u := .type "dict") (by decide +kernel) rfl
theorem kcls {x : Str} {C : Addr} (hg : Gl X x) (hm : X.mg x = some (.ref C)) (hd : (x == ("__debug__" : Str)) = false := by decide) : PE X (.Name x pos) (tC (.ref C)) := pe_glob (v := .ref C) hg hm rfl hd
theorem kcB {x : Str} {id : String} {r : List V → Hp → VK → Prop} (hv : bootBuiltins x = some (.builtin id)) (hn : x ≠ "__name__") (hdb : (x == ("__debug__" : Str)) = false) (hc : CallR X (.builtin id) r) (hg : Gl X x) (hm : X.mg x = none) (ha : PA X (e :: es) t)
    (he : starEach (e :: es) X.env = (false, eval e X.env) :: starEach es X.env := by rfl) (hpl : (backTo pos (starEach es X.env)).any (·.1) = false := by rfl) : PE X (.Call (.Name x p) (e :: es) [] pos) (tCB r t) := pe_callB hc hg hm hv ha hn hdb he hpl
theorem kcT {x : Str} {T : String} {r : List V → Hp → VK → Prop} (hv : bootBuiltins x = some (.type T)) (hn : x ≠ "__name__") (hdb : (x == ("__debug__" : Str)) = false) (hc : CallR X (.type T) r) (hg : Gl X x) (hm : X.mg x = none) (ha : PA X (e :: es) t)
    (he : starEach (e :: es) X.env = (false, eval e X.env) :: starEach es X.env := by rfl) (hpl : (backTo pos (starEach es X.env)).any (·.1) = false := by rfl) : PE X (.Call (.Name x p) (e :: es) [] pos) (tCB r t) := pe_callTy hc hg hm hv ha hn hdb he hpl
theorem b_len : bootBuiltins "len" = some (.builtin "len") := by decide +kernel
theorem b_isinstance : bootBuiltins "isinstance" = some (.builtin "isinstance") := by decide +kernel
theorem b_max : bootBuiltins "max" = some (.builtin "max") := by decide +kernel
theorem b_min : bootBuiltins "min" = some (.builtin "min") := by decide +kernel
theorem b_abs : bootBuiltins "abs" = some (.builtin "abs") := by decide +kernel
theorem b_all : bootBuiltins "all" = some (.builtin "all") := by decide +kernel
theorem b_any : bootBuiltins "any" = some (.builtin "any") := by decide +kernel
theorem b_sum : bootBuiltins "sum" = some (.builtin "sum") := by decide +kernel
theorem b_ord : bootBuiltins "ord" = some (.builtin "ord") := by decide +kernel
theorem b_sorted : bootBuiltins "sorted" = some (.builtin "sorted") := by decide +kernel
theorem b_int : bootBuiltins "int" = some (.type "int") := by decide +kernel
theorem b_str : bootBuiltins "str" = some (.type "str") := by decide +kernel
theorem b_bool : bootBuiltins "bool" = some (.type "bool") := by decide +kernel
theorem b_list : bootBuiltins "list" = some (.type "list") := by decide +kernel
theorem b_tuple : bootBuiltins "tuple" = some (.type "tuple") := by decide +kernel
theorem b_dict : bootBuiltins "dict" = some (.type "dict") := by decide +kernel
end

/-! ### operations by values -/
def rAddU : R2 := fun x y H Q => match x, y with
  | .int i, .int j => Q (.int (i + j)) H
  | .str a, .str b => a.length + b.length ≤ sizeLine ∧ Q (.str (a ++ b)) H
  | .ref a, .ref b => ∃ xs ys, H a = some (.lst xs) ∧ H b = some (.lst ys) ∧ xs.length + ys.length ≤ sizeLine ∧ ∀ p, H p = none → Q (.ref p) (upd H p (.lst (xs ++ ys)))
  | _, _ => False
theorem kop_add : OpR X (binaryOp .Add) rAddU := by
  intro pins s σ H x y v u Q I rx ry h
  cases x <;> cases y <;> first
    | exact h.elim
    | exact op_add pins s σ H _ _ v u Q I rx ry ⟨_, _, rfl, rfl, h⟩
    | exact op_add_str pins s σ H _ _ v u Q I rx ry ⟨_, _, rfl, rfl, h.1, h.2⟩
    | (obtain ⟨xs, ys, h1, h2, h3, h4⟩ := h; exact op_cat pins s σ H _ _ v u Q I rx ry ⟨_, _, xs, ys, rfl, rfl, h1, h2, h3, h4⟩)
/-- math.lcm of two numbers from 0 on, below 2 ^ 32 -/
def rLcm : List V → Hp → VK → Prop := fun vs H Q => ∃ a b : Int, vs = [.int a, .int b] ∧ 0 ≤ a ∧ a < 2 ^ 32 ∧ 0 ≤ b ∧ b < 2 ^ 32 ∧ Q (.int ((Nat.lcm a.natAbs b.natAbs : Nat) : Int)) H
theorem kcr_lcm : CallR X (.builtin "math.lcm") rLcm := by
  intro pins s σ H vs us Q I r h
  obtain ⟨a, b, rfl, ha, ha2, hb, hb2, q⟩ := h
  obtain ⟨t, u, rfl⟩ := Vals.int2 r
  have e : (Nat.lcm 1 a.natAbs).lcm b.natAbs = Nat.lcm a.natAbs b.natAbs := by rw [Nat.lcm_one_left]
  have hle : Nat.lcm a.natAbs b.natAbs < 2 ^ 64 := by
    by_cases h0 : a.natAbs = 0
    · rw [h0, Nat.lcm_zero_left]; decide
    · by_cases h1 : b.natAbs = 0
      · rw [h1, Nat.lcm_zero_right]; decide
      · have q1 : Nat.lcm a.natAbs b.natAbs ≤ a.natAbs * b.natAbs := Nat.le_of_dvd (Nat.mul_pos (by omega) (by omega)) (Nat.lcm_dvd (Nat.dvd_mul_right _ _) (Nat.dvd_mul_left _ _))
        have q2 : a.natAbs * b.natAbs < 2 ^ 32 * 2 ^ 32 := Nat.mul_lt_mul'' (by omega) (by omega)
        omega
  refine PySem.W.mg_lcm (by omega) (by omega) ?_ ?_
  · rw [e, Int.natAbs_natCast]
    by_cases h0 : Nat.lcm a.natAbs b.natAbs = 0
    · rw [h0]; decide
    · have : (Nat.lcm a.natAbs b.natAbs).log2 < 64 := (Nat.log2_lt h0).mpr hle
      exact Nat.lt_of_lt_of_le this (by decide)
  · rw [e]
    exact ⟨.int _, H, I.tok _, ⟨_, rfl⟩, q⟩
end


/-! ### rules with the written part told -/
section
variable {X : Cx}
/-- a statement whose ways meet in W -/
def tMeet (t u : TS) : TS := fun D σ H => ∃ W : L2.St → Hp → Prop, t { D with nx := W } σ H ∧ ∀ σ' H', W σ' H' → u D σ' H'
theorem kss_meet {st : Stmt} {rest : List Stmt} {t u : TS} (h1 : PS X st t) (h2 : PSs X rest u) : PSs X (st :: rest) (tMeet t u) := by
  refine ⟨fun pins s σ H D I h => ?_⟩
  obtain ⟨W, hw, hu⟩ := h
  refine wpAny_execs_cons (thn (h1.run pins s σ H _ I hw) fun f s' hf => ?_)
  cases f with
  | next =>
    obtain ⟨σ', H', I', q⟩ := hf
    exact h2.run pins s' σ' H' D I' (hu σ' H' q)
  | ret u => exact hf
  | brk => exact hf
  | cont => exact hf
theorem kix (K : PySem.W.Frag) (hK : X.K = K := by rfl) : IxR X (rIx K) := by subst hK; exact ix_seq
def rLenU (K : PySem.W.Frag) : List V → Hp → VK → Prop := fun xs H Q => ∃ x n, xs = [x] ∧ LenV K x H n ∧ Q (.int (n : Nat)) H
theorem kc_len (K : PySem.W.Frag) (hK : X.K = K := by rfl) : CallR X (.builtin "len") (rLenU K) := by subst hK; exact call_len
def rInt1 : List V → Hp → VK → Prop := fun xs H Q => match xs with
  | [.int i] => Q (.int i) H
  | [.bl k] => Q (.int (if k then 1 else 0)) H
  | _ => False
theorem kc_int : CallR X (.type "int") rInt1 := by
  intro pins s σ H xs us Q I r h
  match xs, r, h with
  | [.int i], r, h => exact call_int1 pins s σ H _ us Q I r (.inl ⟨i, rfl, h⟩)
  | [.bl k], r, h => exact call_int1 pins s σ H _ us Q I r (.inr ⟨k, rfl, h⟩)
def rBool1 : List V → Hp → VK → Prop := fun xs H Q => match xs with
  | [.int i] => Q (.bl (i != 0)) H
  | [.bl k] => Q (.bl k) H
  | _ => False
theorem kc_bool : CallR X (.type "bool") rBool1 := by
  intro pins s σ H xs us Q I r h
  match xs, r, h with
  | [.int i], r, h => exact call_bool1 pins s σ H _ us Q I r (.inl ⟨i, rfl, h⟩)
  | [.bl k], r, h => exact call_bool1 pins s σ H _ us Q I r (.inr ⟨k, rfl, h⟩)
def rStr1 : List V → Hp → VK → Prop := fun xs H Q => ∃ i : Int, xs = [.int i] ∧ i.natAbs.log2 < 1920 ∧ Q (.str (toString i)) H
theorem kc_str : CallR X (.type "str") rStr1 := call_str_int
def rListU (K : PySem.W.Frag) : List V → Hp → VK → Prop := fun xs H Q => ∃ p ys, xs = [.ref p] ∧ (SqL K H p ys ∨ SqT K H p ys) ∧ ∀ l, H l = none → Q (.ref l) (upd H l (.lst ys))
theorem kc_list (K : PySem.W.Frag) (hK : X.K = K := by rfl) : CallR X (.type "list") (rListU K) := by subst hK; exact call_list_of
def rTupleU (K : PySem.W.Frag) : List V → Hp → VK → Prop := fun xs H Q => ∃ p ys, xs = [.ref p] ∧ ((SqL K H p ys ∧ ∀ l, H l = none → Q (.ref l) (upd H l (.tup ys))) ∨ (SqT K H p ys ∧ Q (.ref p) H))
theorem kc_tuple (K : PySem.W.Frag) (hK : X.K = K := by rfl) : CallR X (.type "tuple") (rTupleU K) := by subst hK; exact call_tuple_of
theorem kc_isi (K : PySem.W.Frag) (hK : X.K = K := by rfl) : CallR X (.builtin "isinstance") (rIsi K) := by subst hK; exact call_isi
theorem kc_isiT (K : PySem.W.Frag) (hK : X.K = K := by rfl) : CallR X (.builtin "isinstance") (rIsiT K) := by subst hK; exact call_isiT
def rMax2 : List V → Hp → VK → Prop := fun xs H Q => match xs with
  | [.int i, .int j] => Q (.int (if j > i then j else i)) H
  | _ => False
theorem kc_max2 (hc : X.calm = true) : CallR X (.builtin "max") rMax2 := by
  intro pins s σ H xs us Q I r h
  match xs, r, h with
  | [.int i, .int j], r, h => exact call_max2 hc pins s σ H _ us Q I r ⟨i, j, rfl, h⟩
def rMin2 : List V → Hp → VK → Prop := fun xs H Q => match xs with
  | [.int i, .int j] => Q (.int (if j < i then j else i)) H
  | _ => False
theorem kc_min2 (hc : X.calm = true) : CallR X (.builtin "min") rMin2 := by
  intro pins s σ H xs us Q I r h
  match xs, r, h with
  | [.int i, .int j], r, h => exact call_min2 hc pins s σ H _ us Q I r ⟨i, j, rfl, h⟩
theorem kc_sum (K : PySem.W.Frag) (hc : X.calm = true) (hK : X.K = K := by rfl) : CallR X (.builtin "sum") (rSum K) := by subst hK; exact cr_sum hc
theorem ksl_list (K : PySem.W.Frag) (hK : X.K = K := by rfl) : SlR X (rSlL K) := by subst hK; exact sl_list
theorem kpi_list (K : PySem.W.Frag) {tg l : Expr} {tl : TE} (hl : PE X l tl) (hK : X.K = K := by rfl) : PI X tg l (iList K tl) := by subst hK; exact pi_list hl
theorem kpi_tup (K : PySem.W.Frag) {tg l : Expr} {tl : TE} (hl : PE X l tl) (hK : X.K = K := by rfl) : PI X tg l (iTup K tl) := by subst hK; exact pi_tup hl
theorem kpe_fld (K : PySem.W.Frag) {e : Expr} {f : Str} {ta : TE} {pos : Pos} (he : PE X e ta) (hK : X.K = K := by rfl) (hb : attributeBase e f X.env (eval e X.env) = eval e X.env := by rfl) : PE X (.Attribute e f pos) (tFld K ta f) := by subst hK; exact pe_fld he hb
theorem kps_fld (K : PySem.W.Frag) {o value : Expr} {f : Str} {ta tv : TE} {pos pos' : Pos} (ha : PE X o ta) (hv : PE X value tv) (hK : X.K = K := by rfl) (hs : swapsWith value (some (.Attribute o f pos')) pos.line X.env = pure false := by rfl) : PS X (.Assign [.Attribute o f pos'] value pos) (sFld K ta tv f) := by subst hK; exact ps_fld ha hv hs
def tTruU (K : PySem.W.Frag) (ta : TE) : TT := fun σ H Q => ta σ H fun x H' => ∃ k, TruV K x H' k ∧ Q k H'
theorem kpt_truth (K : PySem.W.Frag) {a : Expr} {ta : TE} (ha : PE X a ta) (hK : X.K = K := by rfl) (he : ∀ whole, isTrue a X.env whole = (do let v ← whole; standAt a.pos; holding [v] (truthy v)) := by intro _; rfl) : PT X a (tTruU K ta) := by subst hK; exact pt_truth ha he
theorem kop_in (K : PySem.W.Frag) (hK : X.K = K := by rfl) : OpR X (compareOp .In) (rIn K false) := by subst hK; exact op_in_seq
theorem kop_nin (K : PySem.W.Frag) (hK : X.K = K := by rfl) : OpR X (compareOp .NotIn) (rIn K true) := by subst hK; exact op_notIn_seq
theorem kpg_tup (K : PySem.W.Frag) (n : Nat) {es : List Expr} {k : Nat} {t : TGs} {pos : Pos} (hc : X.calm = true) (h : PGs X es t) (hK : X.K = K := by rfl) (hn : (assignEach es X.env).length = n := by rfl) (hst : (assignEach es X.env).findIdx? (·.1) = none := by rfl) : PG X (.Tuple es k pos) (gTup K n t) := by subst hK; exact pg_tup hc h hn hst
end

theorem small_size' {n : Nat} (h : n ≤ 1000000) : n ≤ sizeLine := Nat.le_trans h (by rw [sizeLine_eq]; decide)
/-! ### the steps of a reading -/
section
variable {σ : L2.St} {H : Hp} {Q : VK} {D : Ends} {t u : TS} {te ta tb : TE} {tt tu : TT} {tA tr : TA} {g : TG} {i : Nat} {v x y : V} {r : R2}
theorem k_seq (h : t { D with nx := u D } σ H) : tSeq t u D σ H := h
theorem k_asg (h : te σ H fun x H1 => g x σ H1 D.nx) : tAsg te g D σ H := h
theorem k_gName {Q : L2.St → Hp → Prop} (h : Q (σ.set i (some v)) H) : gName i v σ H Q := h
theorem k_drop (h : te σ H fun _ H1 => D.nx σ H1) : tDrop te D σ H := h
theorem k_ret (h : te σ H D.rt) : tRet te D σ H := h
theorem k_retN (h : D.rt .non H) : tRetN D σ H := h
theorem k_next (h : D.nx σ H) : tNext D σ H := h
theorem k_break (h : D.bk σ H) : tBreak D σ H := h
theorem k_cont (h : D.ct σ H) : tCont D σ H := h
theorem k_ifS (h : tt σ H fun b H1 => if b = true then t D σ H1 else u D σ H1) : tIfS tt t u D σ H := h
theorem k_var (h : σ[i]? = some (some v)) (k : Q v H) : tVar i σ H Q := ⟨v, h, k⟩
theorem k_c (k : Q v H) : tC v σ H Q := k
theorem k_op (h : ta σ H fun x H1 => tb σ H1 fun y H2 => r x y H2 Q) : tOp r ta tb σ H Q := h
theorem k_un {r : V → Hp → VK → Prop} (h : ta σ H fun x H1 => r x H1 Q) : tUn r ta σ H Q := h
theorem k_test {Q : Bool → Hp → Prop} (h : te σ H fun x H' => ∃ k, x = .bl k ∧ Q k H') : tTest te σ H Q := h
theorem k_B {Q : Bool → Hp → Prop} (h : te σ H fun x H' => ∃ k, x = .bl k ∧ Q k H') : tB te σ H Q := h
theorem k_bl {b : Bool} {Q : Bool → Prop} (h : Q b) : ∃ k, V.bl b = .bl k ∧ Q k := ⟨b, rfl, h⟩
theorem k_and {Q : Bool → Hp → Prop} (h : tt σ H fun c H1 => if c = true then tu σ H1 Q else Q false H1) : tAnd tt tu σ H Q := h
theorem k_or {Q : Bool → Hp → Prop} (h : tt σ H fun c H1 => if c = true then Q true H1 else tu σ H1 Q) : tOr tt tu σ H Q := h
theorem k_not {Q : Bool → Hp → Prop} (h : tt σ H fun c H1 => Q (!c) H1) : tNot tt σ H Q := h
theorem k_andV (h : ta σ H fun x H1 => ∃ c, x = .bl c ∧ if c = true then tb σ H1 Q else Q (.bl false) H1) : tAndV ta tb σ H Q := h
theorem k_orV (h : ta σ H fun x H1 => ∃ c, x = .bl c ∧ if c = true then Q (.bl true) H1 else tb σ H1 Q) : tOrV ta tb σ H Q := h
theorem k_notV (h : ta σ H fun x H1 => ∃ c, x = .bl c ∧ Q (.bl (!c)) H1) : tNotV ta σ H Q := h
theorem k_if (h : tt σ H fun c H1 => if c = true then ta σ H1 Q else tb σ H1 Q) : tIf tt ta tb σ H Q := h
theorem k_nil {Q : List V → Hp → Prop} (h : Q [] H) : tNil σ H Q := h
theorem k_cons {Q : List V → Hp → Prop} (h : ta σ H fun x H1 => tr σ H1 fun xs H2 => Q (x :: xs) H2) : tCons ta tr σ H Q := h
theorem k_CB {r : List V → Hp → VK → Prop} (h : tA σ H fun vs H1 => r vs H1 Q) : tCB r tA σ H Q := h
theorem k_call {sp : Sp} {dvs : List V} {E : XK} (h : tA σ H fun vs H1 => sp (vs ++ dvs) H1 Q E) : tCall sp dvs E tA σ H Q := h
theorem k_tup (h : tA σ H fun xs H1 => xs.length ≤ sizeLine ∧ ∀ p, H1 p = none → Q (.ref p) (upd H1 p (.tup xs))) : tTup tA σ H Q := h
theorem k_lst (h : tA σ H fun xs H1 => xs.length ≤ sizeLine ∧ ∀ p, H1 p = none → Q (.ref p) (upd H1 p (.lst xs))) : tLst tA σ H Q := h
theorem k_tru {K : PySem.W.Frag} {Q : Bool → Hp → Prop} (h : ta σ H fun x H' => ∃ k, TruV K x H' k ∧ Q k H') : (fun (σ : L2.St) (H : Hp) (Q : Bool → Hp → Prop) => ta σ H fun x H' => ∃ k, TruV K x H' k ∧ Q k H') σ H Q := h
theorem k_gSub {to ti : TE} {t : TSet} {Q : L2.St → Hp → Prop} (h : to σ H fun o H1 => ti σ H1 fun i H2 => t o i v H2 fun H3 => Q σ H3) : gSub to ti t v σ H Q := h
theorem k_par {i j : Nat} (h : tA σ H fun vs H1 => ∃ v w, vs = [v, w] ∧ D.nx ((σ.set i (some v)).set j (some w)) H1) : tPar i j tA D σ H := h
theorem k_pair {v w : V} {P : V → V → Prop} (h : P v w) : ∃ a b, [v, w] = [a, b] ∧ P a b := ⟨v, w, rfl, h⟩
theorem k_sl {r : V → Option Int → Option Int → Hp → VK → Prop} {tl th : TO} (h : te σ H fun x H1 => tl σ H1 fun l H2 => th σ H2 fun u H3 => r x l u H3 Q) : tSl r te tl th σ H Q := h
theorem k_noPart {Q : Option Int → Hp → Prop} (h : Q none H) : tNoPart σ H Q := h
theorem k_part {Q : Option Int → Hp → Prop} (h : te σ H fun x H1 => ∃ i, x = .int i ∧ Q (some i) H1) : tPart te σ H Q := h
theorem k_int {i : Int} {P : Int → Prop} (h : P i) : ∃ j, V.int i = .int j ∧ P j := ⟨i, rfl, h⟩

/-- values -/
theorem k_addI {i j : Int} (k : Q (.int (i + j)) H) : rAddU (.int i) (.int j) H Q := k
theorem k_I0 {f : Int → Int → V} {i j : Int} (k : Q (f i j) H) : rI0 f (.int i) (.int j) H Q := ⟨i, j, rfl, rfl, k⟩
theorem k_I {C : Int → Int → Prop} {f : Int → Int → V} {i j : Int} (c : C i j) (k : Q (f i j) H) : rI C f (.int i) (.int j) H Q := ⟨i, j, rfl, rfl, c, k⟩
theorem k_U {f : Int → V} {i : Int} (k : Q (f i) H) : rU f (.int i) H Q := ⟨i, rfl, k⟩
theorem k_eq {x y : V} (s : scal x y = true) (k : Q (.bl (decide (x = y))) H) : rEq x y H Q := ⟨s, k⟩
theorem k_ne {x y : V} (s : scal x y = true) (k : Q (.bl (!decide (x = y))) H) : rNe x y H Q := ⟨s, k⟩
theorem k_eqI {i j : Int} (k : Q (.bl (decide (i = j))) H) : rEq (.int i) (.int j) H Q := ⟨rfl, by
  have e : decide (V.int i = V.int j) = decide (i = j) := by simp
  rw [e]; exact k⟩
theorem k_neI {i j : Int} (k : Q (.bl (!decide (i = j))) H) : rNe (.int i) (.int j) H Q := ⟨rfl, by
  have e : decide (V.int i = V.int j) = decide (i = j) := by simp
  rw [e]; exact k⟩
theorem k_ixL {K : PySem.W.Frag} {p : Addr} {xs : List V} {i : Int} (h : SqL K H p xs) (a : atI xs i = some v) (k : Q v H) : rIx K (.ref p) (.int i) H Q := .inl ⟨p, xs, i, v, rfl, rfl, h, a, k⟩
theorem k_ixT {K : PySem.W.Frag} {p : Addr} {xs : List V} {i : Int} (h : SqT K H p xs) (a : atI xs i = some v) (k : Q v H) : rIx K (.ref p) (.int i) H Q := .inr (.inl ⟨p, xs, i, v, rfl, rfl, h, a, k⟩)
theorem k_ixS {K : PySem.W.Frag} {z : Str} {i : Int} {c : Nat} (h : z.length ≤ sizeLine) (a : atI z.cps.toList i = some c) (k : Q (.str ⟨#[c]⟩) H) : rIx K (.str z) (.int i) H Q := .inr (.inr ⟨z, i, c, rfl, rfl, h, a, k⟩)
theorem k_meet {σ : L2.St} {H : Hp} {D : Ends} {t u : TS} (W : L2.St → Hp → Prop) (h : t { D with nx := W } σ H) (k : ∀ σ' H', W σ' H' → u D σ' H') : tMeet t u D σ H := ⟨W, h, k⟩
theorem k_addL {p q : Addr} {xs ys : List V} {H : Hp} {Q : VK} (h1 : H p = some (.lst xs)) (h2 : H q = some (.lst ys)) (hz : xs.length + ys.length ≤ 1000000) (k : ∀ l, H l = none → Q (.ref l) (upd H l (.lst (xs ++ ys)))) : rAddU (.ref p) (.ref q) H Q := ⟨xs, ys, h1, h2, small_size' hz, k⟩
theorem k_addS {a b : Str} {H : Hp} {Q : VK} (hz : a.length + b.length ≤ 1000000) (k : Q (.str (a ++ b)) H) : rAddU (.str a) (.str b) H Q := ⟨small_size' hz, k⟩
theorem k_int1 {i : Int} (k : Q (.int i) H) : rInt1 [.int i] H Q := k
theorem k_lenL {K : PySem.W.Frag} {p : Addr} {xs : List V} (h : SqL K H p xs) (k : Q (.int (xs.length : Nat)) H) : rLenU K [.ref p] H Q := ⟨_, _, rfl, .inl ⟨xs, h, rfl⟩, k⟩
theorem k_lenT {K : PySem.W.Frag} {p : Addr} {xs : List V} (h : SqT K H p xs) (k : Q (.int (xs.length : Nat)) H) : rLenU K [.ref p] H Q := ⟨_, _, rfl, .inr ⟨xs, h, rfl⟩, k⟩
theorem k_lenS {K : PySem.W.Frag} {z : Str} (h : z.length ≤ sizeLine) (k : Q (.int (z.length : Nat)) H) : rLenU K [.str z] H Q := ⟨_, _, rfl, ⟨h, rfl⟩, k⟩
theorem k_max2 {i j : Int} (k : Q (.int (if j > i then j else i)) H) : rMax2 [.int i, .int j] H Q := k
theorem k_min2 {i j : Int} (k : Q (.int (if j < i then j else i)) H) : rMin2 [.int i, .int j] H Q := k
theorem k_setL {p : Addr} {xs : List V} {k : Int} {j : Nat} {w : V} {Q : Hp → Prop} (h : H p = some (.lst xs)) (e : ixN xs.length k = some j) (q : Q (upd H p (.lst (xs.set j w)))) : rSetL (.ref p) (.int k) w H Q := ⟨p, xs, k, j, rfl, rfl, h, e, q⟩
/-- tests whose answer is known, or open -/
theorem k_t {A B : Prop} (h : A) : if true = true then A else B := by rw [if_pos rfl]; exact h
theorem k_f {A B : Prop} (h : B) : if false = true then A else B := by rw [if_neg Bool.false_ne_true]; exact h
theorem k_t' {A B : Prop} (h : A) : if (!false) = true then A else B := k_t (B := B) h
theorem k_f' {A B : Prop} (h : B) : if (!true) = true then A else B := k_f (A := A) h
theorem k_o1 {b : Bool} {A B : Prop} (h : A) : if (true || b) = true then A else B := k_t (B := B) h
theorem k_o2 {A B : Prop} (h : A) : if (false || true) = true then A else B := k_t (B := B) h
theorem k_o3 {A B : Prop} (h : B) : if (false || false) = true then A else B := k_f (A := A) h
theorem k_o4 {b : Bool} {A B : Prop} (h : B) : if (!(true || b)) = true then A else B := k_f (A := A) h
theorem k_o5 {A B : Prop} (h : B) : if (!(false || true)) = true then A else B := k_f (A := A) h
theorem k_o6 {A B : Prop} (h : A) : if (!(false || false)) = true then A else B := k_t (B := B) h
theorem k_chain {r r' : R2} {tc : TE} (h : ta σ H fun x H1 => tb σ H1 fun y H2 => r x y H2 fun z H3 => ∃ k, z = .bl k ∧ (if k = true then tc σ H3 fun w' H4 => r' y w' H4 Q else Q (.bl false) H3)) : tChain r r' ta tb tc σ H Q := h
theorem k_dt {c : Prop} [Decidable c] {A B : Prop} (hc : c) (h : A) : if decide c = true then A else B := by rw [decide_eq_true hc]; exact k_t h
theorem k_df {c : Prop} [Decidable c] {A B : Prop} (hc : ¬ c) (h : B) : if decide c = true then A else B := by rw [decide_eq_false hc]; exact k_f h
theorem k_d {c : Prop} [Decidable c] {A B : Prop} (h1 : c → A) (h2 : ¬ c → B) : if decide c = true then A else B := by
  by_cases hc : c
  · exact k_dt hc (h1 hc)
  · exact k_df hc (h2 hc)
theorem k_nt {c : Prop} [Decidable c] {A B : Prop} (hc : c) (h : B) : if (!decide c) = true then A else B := by rw [decide_eq_true hc]; exact k_f h
theorem k_nf {c : Prop} [Decidable c] {A B : Prop} (hc : ¬ c) (h : A) : if (!decide c) = true then A else B := by rw [decide_eq_false hc]; exact k_t h
theorem k_n {c : Prop} [Decidable c] {A B : Prop} (h1 : c → B) (h2 : ¬ c → A) : if (!decide c) = true then A else B := by
  by_cases hc : c
  · exact k_nt hc (h1 hc)
  · exact k_nf hc (h2 hc)
theorem k_b {b : Bool} {A B : Prop} (h1 : b = true → A) (h2 : b = false → B) : if b = true then A else B := by
  cases b with
  | true => exact k_t (h1 rfl)
  | false => exact k_f (h2 rfl)
end

/-! ### heaps -/
theorem same_new {H : Hp} {p : Addr} {o : HO} (h : H p = none) : Same H (upd H p o) := fun a u e => by
  rw [upd_ne (ne_of_none e h)]
  exact e
theorem same_t {K : PySem.W.Frag} {H H' : Hp} {a : Addr} {xs : List V} (e : Same H H') (h : SqT K H a xs) : SqT K H' a xs := by
  rcases h with (h | ⟨o, h⟩) | h
  · exact .inl (.inl (e _ _ h))
  · exact .inl (.inr ⟨o, e _ _ h⟩)
  · exact .inr h
/-- over a heap G that does not know b, b's object put on top -/
theorem up_same {G : Hp} {b : Addr} {β : HO} (hb : G b = none) : Same G (upd G b β) := same_new hb
theorem up_get {G : Hp} {a b : Addr} {o β : HO} (hb : G b = none) (h : G a = some o) : upd G b β a = some o := same_new hb _ _ h
theorem up_none {G : Hp} {p b : Addr} {β : HO} (h : upd G b β p = none) : G p = none ∧ p ≠ b := by
  by_cases e : p = b
  · rw [e, upd_same] at h; cases h
  · rw [upd_ne e] at h; exact ⟨h, e⟩
theorem upd_swap {G : Hp} {a b : Addr} {o β : HO} (h : a ≠ b) : upd (upd G b β) a o = upd (upd G a o) b β := by
  funext c
  unfold upd
  by_cases h1 : c = a
  · subst h1
    simp [h]
  · simp [h1]
theorem up_new {G : Hp} {b : Addr} {β o : HO} {P : Addr → Hp → Prop} (hb : G b = none) (k : ∀ p G', G p = none → p ≠ b → G' = upd G p o → G' b = none → Same G G' → G' p = some o → P p (upd G' b β)) :
    ∀ p, upd G b β p = none → P p (upd (upd G b β) p o) := fun p hp => by
  obtain ⟨h1, h2⟩ := up_none hp
  rw [upd_swap h2]
  exact k p _ h1 h2 rfl (by rw [upd_ne (Ne.symm h2)]; exact hb) (same_new h1) upd_same
theorem k_setLu {G : Hp} {b : Addr} {xs ys : List V} {k : Int} {j : Nat} {w : V} {Q : Hp → Prop} (e : ixN xs.length k = some j) (ey : xs.set j w = ys) (q : Q (upd G b (.lst ys))) : rSetL (.ref b) (.int k) w (upd G b (.lst xs)) Q := by
  subst ey
  exact k_setL upd_same e (by rw [upd_upd]; exact q)
theorem upd_at {H H' : Hp} {p : Addr} {o : HO} (e : upd H p o = H') : H' p = some o := by rw [← e]; exact upd_same
theorem upd_sm {H H' : Hp} {p : Addr} {o : HO} (e : upd H p o = H') (n : H p = none) : Same H H' := by rw [← e]; exact same_new n
theorem split_up {G H' : Hp} {b : Addr} {β : HO} (hb : G b = none) (e : Same (upd G b β) H') : ∃ G', G' b = none ∧ Same G G' ∧ H' = upd G' b β := by
  refine ⟨fun a => if a = b then none else H' a, if_pos rfl, fun a o h => ?_, ?_⟩
  · show (if a = b then none else H' a) = some o
    have hne : a ≠ b := ne_of_none h hb
    rw [if_neg hne]
    exact e _ _ (up_get hb h)
  · funext a
    unfold upd
    by_cases h : a = b
    · rw [if_pos h, h]
      exact e _ _ upd_same
    · rw [if_neg h]
      show H' a = if a = b then none else H' a
      rw [if_neg h]
theorem kb_int_int : kitB "int" "int" = some true := by decide +kernel
theorem kb_int_bool : kitB "int" "bool" = some false := by decide +kernel
theorem kb_int_str : kitB "int" "str" = some false := by decide +kernel
theorem kb_int_list : kitB "int" "list" = some false := by decide +kernel
theorem kb_int_tuple : kitB "int" "tuple" = some false := by decide +kernel
theorem kb_int_dict : kitB "int" "dict" = some false := by decide +kernel
theorem kb_bool_int : kitB "bool" "int" = some true := by decide +kernel
theorem kb_bool_bool : kitB "bool" "bool" = some true := by decide +kernel
theorem kb_bool_str : kitB "bool" "str" = some false := by decide +kernel
theorem kb_bool_list : kitB "bool" "list" = some false := by decide +kernel
theorem kb_bool_tuple : kitB "bool" "tuple" = some false := by decide +kernel
theorem kb_bool_dict : kitB "bool" "dict" = some false := by decide +kernel
theorem kb_str_int : kitB "str" "int" = some false := by decide +kernel
theorem kb_str_bool : kitB "str" "bool" = some false := by decide +kernel
theorem kb_str_str : kitB "str" "str" = some true := by decide +kernel
theorem kb_str_list : kitB "str" "list" = some false := by decide +kernel
theorem kb_str_tuple : kitB "str" "tuple" = some false := by decide +kernel
theorem kb_str_dict : kitB "str" "dict" = some false := by decide +kernel
theorem kb_NoneType_int : kitB "NoneType" "int" = some false := by decide +kernel
theorem kb_NoneType_bool : kitB "NoneType" "bool" = some false := by decide +kernel
theorem kb_NoneType_str : kitB "NoneType" "str" = some false := by decide +kernel
theorem kb_NoneType_list : kitB "NoneType" "list" = some false := by decide +kernel
theorem kb_NoneType_tuple : kitB "NoneType" "tuple" = some false := by decide +kernel
theorem kb_NoneType_dict : kitB "NoneType" "dict" = some false := by decide +kernel
theorem kb_list_int : kitB "list" "int" = some false := by decide +kernel
theorem kb_list_bool : kitB "list" "bool" = some false := by decide +kernel
theorem kb_list_str : kitB "list" "str" = some false := by decide +kernel
theorem kb_list_list : kitB "list" "list" = some true := by decide +kernel
theorem kb_list_tuple : kitB "list" "tuple" = some false := by decide +kernel
theorem kb_list_dict : kitB "list" "dict" = some false := by decide +kernel
theorem kb_tuple_int : kitB "tuple" "int" = some false := by decide +kernel
theorem kb_tuple_bool : kitB "tuple" "bool" = some false := by decide +kernel
theorem kb_tuple_str : kitB "tuple" "str" = some false := by decide +kernel
theorem kb_tuple_list : kitB "tuple" "list" = some false := by decide +kernel
theorem kb_tuple_tuple : kitB "tuple" "tuple" = some true := by decide +kernel
theorem kb_tuple_dict : kitB "tuple" "dict" = some false := by decide +kernel
theorem kb_dict_int : kitB "dict" "int" = some false := by decide +kernel
theorem kb_dict_bool : kitB "dict" "bool" = some false := by decide +kernel
theorem kb_dict_str : kitB "dict" "str" = some false := by decide +kernel
theorem kb_dict_list : kitB "dict" "list" = some false := by decide +kernel
theorem kb_dict_tuple : kitB "dict" "tuple" = some false := by decide +kernel
theorem kb_dict_dict : kitB "dict" "dict" = some true := by decide +kernel
/-- isinstance of built-in types -/
theorem k_isi {K : PySem.W.Frag} {H : Hp} {v : V} {a T : String} {b : Bool} {Q : VK} (ty : TyX K H v (.type a)) (hk : kitB a T = some b) (k : Q (.bl b) H) : rIsi K [v, .ty T] H Q := ⟨v, .ty T, _, _, b, rfl, .ty T, ty, kit_ty hk, k⟩
theorem k_isiT {K : PySem.W.Frag} {H : Hp} {v : V} {p : Addr} {a T1 T2 : String} {b1 b2 : Bool} {Q : VK} (hp : H p = some (.tup [.ty T1, .ty T2])) (ty : TyX K H v (.type a)) (h1 : kitB a T1 = some b1) (h2 : kitB a T2 = some b2) (k : Q (.bl (b1 || b2)) H) : rIsiT K [v, .ref p] H Q :=
  ⟨v, p, _, _, _, b1 || b2, rfl, hp, .cons (.ty T1) (.cons (.ty T2) .nil), ty, kitAny_cons (kit_ty h1) (fun e => by subst e; exact kitAny_cons (kit_ty h2) (fun e => by subst e; exact kitAny_nil) (fun e => by subst e; rfl)) (fun e => by subst e; rfl), k⟩
/-- isinstance of an own instance -/
theorem k_isiO {K : PySem.W.Frag} {H : Hp} {v : V} {t : Value} {C : Addr} {b : Bool} {Q : VK} (ty : TyX K H v t) (hk : PySem.W.kitOne K t (.ref C) = some b) (k : Q (.bl b) H) : rIsi K [v, .ref C] H Q := ⟨v, .ref C, _, _, b, rfl, .own C, ty, hk, k⟩
theorem one_new {G : Hp} {o : HO} {P : Addr → Hp → Prop} (k : ∀ p G', G p = none → G' = upd G p o → Same G G' → G' p = some o → P p G') : ∀ p, G p = none → P p (upd G p o) := fun p hp => k p _ hp rfl (same_new hp) upd_same
theorem small_size {n : Nat} (h : n ≤ 1000000) : n ≤ sizeLine := Nat.le_trans h (by rw [sizeLine_eq]; decide)
theorem small_lt {n : Nat} (h : n ≤ 1000000) : n < sizeLine := Nat.lt_of_le_of_lt h (by rw [sizeLine_eq]; decide)

/-! ### fields by place: the names written, the values by place -/
def nin (x : Str) : List Str → Bool
  | [] => true
  | n :: r => !(n == x) && nin x r
def pos? (x : Str) : List Str → Option Nat
  | [] => none
  | n :: r => if n == x then some 0 else (pos? x r).map (· + 1)
abbrev FL (ns : List Str) (vs : List V) : List (Str × V) := ns.zip vs
theorem fl_get {x : Str} : ∀ {ns : List Str} {vs : List V} {i : Nat} {v : V}, pos? x ns = some i → vs[i]? = some v → (FL ns vs).lookup x = some v
  | [], _, _, _, h, _ => by cases h
  | n :: r, [], i, v, h, hv => by simp at hv
  | n :: r, w :: ws, i, v, h, hv => by
    unfold pos? at h
    show List.lookup x ((n, w) :: FL r ws) = some v
    rw [List.lookup_cons]
    by_cases e : n == x
    · rw [if_pos e] at h
      cases h
      have e' : (x == n) = true := by rw [beq_iff_eq] at e ⊢; exact e.symm
      rw [e']
      exact hv
    · rw [if_neg e] at h
      have e' : (x == n) = false := by
        rw [Bool.eq_false_iff]
        intro q
        rw [beq_iff_eq] at q
        exact e (by rw [q]; simp)
      rw [e']
      cases hp : pos? x r with
      | none => rw [hp] at h; cases h
      | some j =>
        rw [hp] at h
        cases h
        exact fl_get (ns := r) hp (by simpa using hv)
theorem fl_no {x : Str} : ∀ {ns : List Str} {vs : List V}, nin x ns = true → (FL ns vs).lookup x = none
  | [], _, _ => rfl
  | n :: r, [], _ => rfl
  | n :: r, w :: ws, h => by
    unfold nin at h
    simp only [Bool.and_eq_true, Bool.not_eq_true'] at h
    show List.lookup x ((n, w) :: FL r ws) = none
    have e' : (x == n) = false := by
      rw [Bool.eq_false_iff]
      intro q
      rw [beq_iff_eq] at q
      rw [q] at h
      simp at h
    rw [List.lookup_cons, e']
    exact fl_no h.2
theorem fl_put {x : Str} {v : V} : ∀ {ns : List Str} {vs : List V}, ns.length = vs.length → nin x ns = true → putF x v (FL ns vs) = FL (ns ++ [x]) (vs ++ [v])
  | [], [], _, _ => rfl
  | n :: r, w :: ws, hl, h => by
    unfold nin at h
    simp only [Bool.and_eq_true, Bool.not_eq_true'] at h
    have e' : ¬ n = x := fun q => by
      rw [q] at h
      simp at h
    show (if n = x then _ else (n, w) :: putF x v (FL r ws)) = _
    rw [if_neg e', fl_put (by simpa using hl) h.2]
    rfl
theorem fl_len {ns : List Str} {vs : List V} : (FL ns vs).length ≤ ns.length := by
  rw [List.length_zip]
  omega
section
variable {K : PySem.W.Frag} {σ : L2.St} {H : Hp} {Q : VK} {D : Ends} {ta tv : TE} {f : Str} {a C dx : Addr} {ns : List Str} {vs : List V} {v y : V}
def rFld (K : PySem.W.Frag) (f : Str) (x : V) (H : Hp) (Q : VK) : Prop := ∃ a C dx fs v, x = .ref a ∧ H a = some (.ins C dx fs) ∧ Cls K C ∧ NoAttr K C f ∧ fs.lookup f = some v ∧ Q v H
theorem k_fld (h : ta σ H fun x H1 => rFld K f x H1 Q) : tFld K ta f σ H Q := h
theorem k_fldAt {i : Nat} (h : H a = some (.ins C dx (FL ns vs))) (c : Cls K C) (n : NoAttr K C f) (hi : pos? f ns = some i) (hv : vs[i]? = some v) (q : Q v H) : rFld K f (.ref a) H Q := ⟨a, C, dx, _, v, rfl, h, c, n, fl_get hi hv, q⟩
def rPutF (K : PySem.W.Frag) (f : Str) (y x : V) (H : Hp) (Q : Hp → Prop) : Prop := ∃ a C dx fs, x = .ref a ∧ H a = some (.ins C dx fs) ∧ Cls K C ∧ NoAttr K C f ∧ fs.length < 1000 ∧ Q (upd H a (.ins C dx (putF f y fs)))
theorem k_putF (h : tv σ H fun y H1 => ta σ H1 fun x H2 => rPutF K f y x H2 fun H3 => D.nx σ H3) : sFld K ta tv f D σ H := h
theorem k_putAt {Q : Hp → Prop} (h : H a = some (.ins C dx (FL ns vs))) (c : Cls K C) (n : NoAttr K C f) (hl : ns.length = vs.length) (hn : nin f ns = true) (hs : ns.length < 1000) (q : Q (upd H a (.ins C dx (FL (ns ++ [f]) (vs ++ [y]))))) : rPutF K f y (.ref a) H Q :=
  ⟨a, C, dx, _, rfl, h, c, n, Nat.lt_of_le_of_lt fl_len hs, by rw [fl_put hl hn]; exact q⟩
/-- the same, the instance just laid on top -/
theorem k_putTop {Q : Hp → Prop} (c : Cls K C) (n : NoAttr K C f) (hl : ns.length = vs.length) (hn : nin f ns = true) (hs : ns.length < 1000) (q : Q (upd H a (.ins C dx (FL (ns ++ [f]) (vs ++ [y]))))) : rPutF K f y (.ref a) (upd H a (.ins C dx (FL ns vs))) Q :=
  k_putAt upd_same c n hl hn hs (by rw [upd_upd]; exact q)
end
theorem len_text {i : Int} {k : Nat} (hk : 0 < k) (h : i.natAbs < 10 ^ k) : (Str.ofString (toString i)).length ≤ k + 1 := by
  have e := PySem.int_text_length_le10 hk h
  rw [PySem.ofString_length]
  exact e
theorem log_text {i : Int} {k : Nat} (hk : k ≤ 1000) (h : i.natAbs < 2 ^ k) : i.natAbs.log2 < 1920 := by
  by_cases h0 : i.natAbs = 0
  · rw [h0]; decide
  · exact Nat.lt_of_lt_of_le ((Nat.log2_lt h0).mpr h) (by omega)

theorem k_disp {n : Nat} {P : Prop} (h : n ≤ 1000000) (k : P) : n ≤ sizeLine ∧ P := ⟨small_size h, k⟩
/-! ### loops -/
section
variable {K : PySem.W.Frag} {σ : L2.St} {H : Hp} {D : Ends} {wi : TI} {g : TG} {tb : TS} {tl : TE} {ta : TA} {a : Addr} {xs : List V}
def ForW (J : It) (g : TG) (tb : TS) (D : Ends) (σ : L2.St) (H1 : Hp) : Prop := ∃ W : Nat → Nat → L2.St → Hp → Prop, (∃ m, W 0 m σ H1) ∧ ∀ i m σ H, W i m σ H →
  (J.stop i H ∧ D.nx σ H) ∨ (J.go i H ∧ ∃ N : L2.St → Hp → Prop, (∀ σ' H', N σ' H' → ∃ m', m' < m ∧ W (i + 1) m' σ' H') ∧ ∀ x H', J.yld i H x H' → g x σ H' fun σ2 H2 => tb { D with nx := N, ct := N, bk := D.nx } σ2 H2)
theorem k_for (h : wi σ H fun J H1 => ForW J g tb D σ H1) : tFor wi g tb D σ H := h
def rIL (K : PySem.W.Frag) (R : It → Hp → Prop) (x : V) (H : Hp) : Prop := ∃ a, x = .ref a ∧ (∃ xs, SqL K H a xs) ∧ R (Itl K a) H
def rIT (K : PySem.W.Frag) (R : It → Hp → Prop) (x : V) (H : Hp) : Prop := ∃ a, x = .ref a ∧ (∃ xs, SqT K H a xs) ∧ R (Itt K a) H
theorem k_iList {R : It → Hp → Prop} (h : tl σ H fun x H1 => rIL K R x H1) : iList K tl σ H R := h
theorem k_iTup {R : It → Hp → Prop} (h : tl σ H fun x H1 => rIT K R x H1) : iTup K tl σ H R := h
theorem k_iL {R : It → Hp → Prop} (h : SqL K H a xs) (k : R (Itl K a) H) : rIL K R (.ref a) H := ⟨a, rfl, ⟨xs, h⟩, k⟩
theorem k_iT {R : It → Hp → Prop} (h : SqT K H a xs) (k : R (Itt K a) H) : rIT K R (.ref a) H := ⟨a, rfl, ⟨xs, h⟩, k⟩
theorem k_forList (xs : List V) (Pv : Nat → L2.St → Hp → Prop) (h0 : Pv 0 σ H) (hl : ∀ i σ H, i ≤ xs.length → Pv i σ H → SqL K H a xs)
    (hs : ∀ i x σ H, xs[i]? = some x → Pv i σ H → g x σ H fun σ2 H2 => tb { D with nx := Pv (i + 1), ct := Pv (i + 1), bk := D.nx } σ2 H2) (hd : ∀ σ H, Pv xs.length σ H → D.nx σ H) : ForW (Itl K a) g tb D σ H := for_list Pv h0 hl hs hd
theorem k_forTup (xs : List V) (Pv : Nat → L2.St → Hp → Prop) (h0 : Pv 0 σ H) (hl : ∀ i σ H, i ≤ xs.length → Pv i σ H → SqT K H a xs)
    (hs : ∀ i x σ H, xs[i]? = some x → Pv i σ H → g x σ H fun σ2 H2 => tb { D with nx := Pv (i + 1), ct := Pv (i + 1), bk := D.nx } σ2 H2) (hd : ∀ σ H, Pv xs.length σ H → D.nx σ H) : ForW (Itt K a) g tb D σ H := for_tup Pv h0 hl hs hd
def rR1 (R : It → Hp → Prop) (vs : List V) (H : Hp) : Prop := ∃ j : Int, vs = [.int j] ∧ -(2 ^ 62) ≤ j ∧ j < 2 ^ 62 ∧ R (Itr 0 j.toNat) H
def rR2 (R : It → Hp → Prop) (vs : List V) (H : Hp) : Prop := ∃ i j : Int, vs = [.int i, .int j] ∧ (-(2 ^ 62) ≤ i ∧ i < 2 ^ 62 ∧ -(2 ^ 62) ≤ j ∧ j < 2 ^ 62) ∧ R (Itr i (j - i).toNat) H
theorem k_rng1 {R : It → Hp → Prop} (h : ta σ H fun vs H1 => rR1 R vs H1) : iRng1 ta σ H R := h
theorem k_rng2 {R : It → Hp → Prop} (h : ta σ H fun vs H1 => rR2 R vs H1) : iRng2 ta σ H R := h
theorem k_r1 {R : It → Hp → Prop} {j : Int} (h : -(2 ^ 62) ≤ j ∧ j < 2 ^ 62) (k : R (Itr 0 j.toNat) H) : rR1 R [.int j] H := ⟨j, rfl, h.1, h.2, k⟩
theorem k_r2 {R : It → Hp → Prop} {i j : Int} (h : -(2 ^ 62) ≤ i ∧ i < 2 ^ 62 ∧ -(2 ^ 62) ≤ j ∧ j < 2 ^ 62) (k : R (Itr i (j - i).toNat) H) : rR2 R [.int i, .int j] H := ⟨i, j, rfl, h, k⟩
theorem k_forRange {lo : Int} {n : Nat} (Pv : Nat → L2.St → Hp → Prop) (h0 : Pv 0 σ H)
    (hs : ∀ i σ H, i < n → Pv i σ H → g (.int (lo + i)) σ H fun σ2 H2 => tb { D with nx := Pv (i + 1), ct := Pv (i + 1), bk := D.nx } σ2 H2) (hd : ∀ σ H, Pv n σ H → D.nx σ H) : ForW (Itr lo n) g tb D σ H := for_range Pv h0 hs hd
/-- comprehensions -/
def LcW (J : It) (g : TG) (tt : TT) (te : TE) (vs : List Nat) (σ : L2.St) (H1 : Hp) (D : Addr) (Qd : Hp → Prop) : Prop := ∃ W : Nat → Nat → Hp → Prop, (∃ m, W 0 m (upd H1 D (.lst []))) ∧ ∀ i m H, W i m H →
  (J.stop i H ∧ Qd H) ∨ (J.go i H ∧ ∃ Nx : Hp → Prop, (∀ H', Nx H' → ∃ m', m' < m ∧ W (i + 1) m' H') ∧ ∀ x H', J.yld i H x H' → g x (wipe σ vs) H' fun σ2 H2 => wipe σ2 vs = wipe σ vs ∧ tt σ2 H2 fun b H3 =>
    if b = true then te σ2 H3 fun y H4 => ∃ acc, H4 D = some (.lst acc) ∧ acc.length < sizeLine ∧ Nx (upd H4 D (.lst (acc ++ [y]))) else Nx H3)
theorem k_lc {tt : TT} {te : TE} {vs : List Nat} {Q : VK} (h : wi σ H fun J H1 => ∀ D, H1 D = none → LcW J g tt te vs σ H1 D (fun H2 => Q (.ref D) H2)) : tLc wi g tt te vs σ H Q := h
theorem k_lcList {tt : TT} {te : TE} {vs : List Nat} {D : Addr} {Qd : Hp → Prop} (xs : List V) (Pv : Nat → Hp → Prop) (h0 : Pv 0 (upd H D (.lst []))) (hl : ∀ i H, i ≤ xs.length → Pv i H → SqL K H a xs)
    (hs : ∀ i x H, xs[i]? = some x → Pv i H → g x (wipe σ vs) H fun σ2 H2 => wipe σ2 vs = wipe σ vs ∧ tt σ2 H2 fun b H3 =>
      if b = true then te σ2 H3 fun y H4 => ∃ acc, H4 D = some (.lst acc) ∧ acc.length < sizeLine ∧ Pv (i + 1) (upd H4 D (.lst (acc ++ [y]))) else Pv (i + 1) H3) (hd : ∀ H, Pv xs.length H → Qd H) : LcW (Itl K a) g tt te vs σ H D Qd := lc_list Pv h0 hl hs hd
theorem k_lcTup {tt : TT} {te : TE} {vs : List Nat} {D : Addr} {Qd : Hp → Prop} (xs : List V) (Pv : Nat → Hp → Prop) (h0 : Pv 0 (upd H D (.lst []))) (hl : ∀ i H, i ≤ xs.length → Pv i H → SqT K H a xs)
    (hs : ∀ i x H, xs[i]? = some x → Pv i H → g x (wipe σ vs) H fun σ2 H2 => wipe σ2 vs = wipe σ vs ∧ tt σ2 H2 fun b H3 =>
      if b = true then te σ2 H3 fun y H4 => ∃ acc, H4 D = some (.lst acc) ∧ acc.length < sizeLine ∧ Pv (i + 1) (upd H4 D (.lst (acc ++ [y]))) else Pv (i + 1) H3) (hd : ∀ H, Pv xs.length H → Qd H) : LcW (Itt K a) g tt te vs σ H D Qd := lc_tup Pv h0 hl hs hd
theorem k_lcRange {tt : TT} {te : TE} {vs : List Nat} {D : Addr} {Qd : Hp → Prop} {lo : Int} {n : Nat} (Pv : Nat → Hp → Prop) (h0 : Pv 0 (upd H D (.lst [])))
    (hs : ∀ i H, i < n → Pv i H → g (.int (lo + i)) (wipe σ vs) H fun σ2 H2 => wipe σ2 vs = wipe σ vs ∧ tt σ2 H2 fun b H3 =>
      if b = true then te σ2 H3 fun y H4 => ∃ acc, H4 D = some (.lst acc) ∧ acc.length < sizeLine ∧ Pv (i + 1) (upd H4 D (.lst (acc ++ [y]))) else Pv (i + 1) H3) (hd : ∀ H, Pv n H → Qd H) : LcW (Itr lo n) g tt te vs σ H D Qd := lc_range Pv h0 hs hd
theorem k_yes {Q : Bool → Hp → Prop} (h : Q true H) : tYes σ H Q := h
/-- a while by an invariant and a measure, the test read at once -/
theorem k_while {c : TT} (W : Nat → L2.St → Hp → Prop) (m : Nat) (h0 : W m σ H)
    (hs : ∀ m σ H, W m σ H → c σ H fun b H1 => if b = true then ∃ N : L2.St → Hp → Prop, (∀ σ' H', N σ' H' → ∃ m', m' < m ∧ W m' σ' H') ∧ tb { D with nx := N, ct := N, bk := D.nx } σ H1 else D.nx σ H1) : tWhile c tb D σ H := ⟨W, ⟨m, h0⟩, hs⟩
/-- list(..), tuple(..) of what is read -/
theorem k_listL {p : Addr} {ys : List V} {Q : VK} (h : SqL K H p ys) (k : ∀ l, H l = none → Q (.ref l) (upd H l (.lst ys))) : rListU K [.ref p] H Q := ⟨p, ys, rfl, .inl h, k⟩
theorem k_listT {p : Addr} {ys : List V} {Q : VK} (h : SqT K H p ys) (k : ∀ l, H l = none → Q (.ref l) (upd H l (.lst ys))) : rListU K [.ref p] H Q := ⟨p, ys, rfl, .inr h, k⟩
theorem k_tupleL {p : Addr} {ys : List V} {Q : VK} (h : SqL K H p ys) (k : ∀ l, H l = none → Q (.ref l) (upd H l (.tup ys))) : rTupleU K [.ref p] H Q := ⟨p, ys, rfl, .inl ⟨h, k⟩⟩
theorem k_slL {p : Addr} {ys : List V} {lo hi : Option Int} {Q : VK} (h : SqL K H p ys) (k : ∀ l, H l = none → Q (.ref l) (upd H l (.lst (cutV ys lo hi)))) : rSlL K (.ref p) lo hi H Q := ⟨p, ys, rfl, h, k⟩
end
theorem cut_ints {ns : List Int} {lo hi : Option Int} : ∃ ms : List Int, cutV (ns.map V.int) lo hi = ms.map V.int := by
  unfold cutV
  exact ⟨_, by rw [List.length_map, ← List.map_drop, ← List.map_take]⟩

/-! ### targets that are tuples; walks of any kind -/
section
variable {K : PySem.W.Frag} {σ : L2.St} {H : Hp} {D : Ends} {g : TG} {tb : TS} {n : Nat} {J : It} {G : Hp → Prop} {Y : Nat → Hp → V → Hp → Prop}
theorem k_gTup {p : Addr} {xs : List V} {t : TGs} {Q : L2.St → Hp → Prop} (h : SqT K H p xs) (hl : xs.length = n) (k : t xs σ H Q) : gTup K n t (.ref p) σ H Q := ⟨p, xs, rfl, h, hl, k⟩
theorem k_gCons {v : V} {r : List V} {t : TG} {u : TGs} {Q : L2.St → Hp → Prop} (k : t v σ H fun σ' H' => u r σ' H' Q) : gCons t u (v :: r) σ H Q := ⟨v, r, rfl, k⟩
theorem k_gNil {Q : L2.St → Hp → Prop} (k : Q σ H) : gNil [] σ H Q := ⟨rfl, k⟩
theorem k_forIt (w : Walk J n G Y) (Pv : Nat → L2.St → Hp → Prop) (h0 : Pv 0 σ H) (hG : ∀ i σ H, i ≤ n → Pv i σ H → G H)
    (hs : ∀ i x σ H H', i < n → Pv i σ H → Y i H x H' → g x σ H' fun σ2 H2 => tb { D with nx := Pv (i + 1), ct := Pv (i + 1), bk := D.nx } σ2 H2) (hd : ∀ σ H, Pv n σ H → D.nx σ H) : ForW J g tb D σ H := for_it w Pv h0 hG hs hd
theorem k_lcIt (w : Walk J n G Y) {tt : TT} {te : TE} {vs : List Nat} {D : Addr} {Qd : Hp → Prop} (Pv : Nat → Hp → Prop) (h0 : Pv 0 (upd H D (.lst []))) (hG : ∀ i H, i ≤ n → Pv i H → G H)
    (hs : ∀ i x H H', i < n → Pv i H → Y i H x H' → g x (wipe σ vs) H' fun σ2 H2 => wipe σ2 vs = wipe σ vs ∧ tt σ2 H2 fun b H3 =>
      if b = true then te σ2 H3 fun y H4 => ∃ acc, H4 D = some (.lst acc) ∧ acc.length < sizeLine ∧ Pv (i + 1) (upd H4 D (.lst (acc ++ [y]))) else Pv (i + 1) H3) (hd : ∀ H, Pv n H → Qd H) : LcW J g tt te vs σ H D Qd := lc_it w Pv h0 hG hs hd
theorem k_iEnum {ta : TA} {R : It → Hp → Prop} (h : ta σ H fun vs H1 => ∃ a xs, vs = [.ref a] ∧ SqL K H1 a xs ∧ R (Ite K a) H1) : iEnum K ta σ H R := h
theorem k_iZip {ta : TA} {R : It → Hp → Prop} (h : ta σ H fun vs H1 => ∃ a b xs ys, vs = [.ref a, .ref b] ∧ SqL K H1 a xs ∧ SqL K H1 b ys ∧ R (Itz K a b) H1) : iZip K ta σ H R := h
theorem kpi_enum {X : Cx} (K : PySem.W.Frag) {e : Expr} {ta : TA} {p pos tpos : Pos} {elts : List Expr} {kk : Nat} (hg : Gl X "enumerate") (hm : X.mg "enumerate" = none) (ha : PA X [e] ta) (hK : X.K = K := by rfl) (hs : starEach [e] X.env = [(false, eval e X.env)] := by rfl) :
    PI X (.Tuple elts kk tpos) (.Call (.Name "enumerate" p) [e] [] pos) (iEnum K ta) := by subst hK; exact pi_enum hg hm ha hs
end
def rJoin (K : PySem.W.Frag) (x : V) (y : V) (H : Hp) (Q : VK) : Prop := ∃ a p, ∃ ys : List Str, x = .str a ∧ [y] = [V.ref p] ∧ (SqL K H p (ys.map V.str) ∨ SqT K H p (ys.map V.str)) ∧ (ys.map (·.length)).sum + ys.length * a.length ≤ 16777216 ∧ Q (.str (Txt.join a ys)) H
def tJoinU (K : PySem.W.Frag) (to te : TE) : TE := fun σ H Q => to σ H fun x H1 => (∃ a, x = .str a) ∧ te σ H1 fun y H2 => rJoin K x y H2 Q
theorem kpe_join {X : Cx} (K : PySem.W.Frag) {o e : Expr} {to te : TE} {apos pos : Pos} (ho : PE X o to) (he : PE X e te) (hK : X.K = K := by rfl) (hs : starEach [e] X.env = [(false, eval e X.env)] := by rfl) (hbase : attributeBase o "join" X.env (eval o X.env) = eval o X.env := by rfl) (hline : (apos.endLine == pos.line) = true := by rfl) :
    PE X (.Call (.Attribute o "join" apos) [e] [] pos) (tJoinU K to te) := by subst hK; exact pe_join ho he hs hbase hline
theorem k_joinC {K : PySem.W.Frag} {σ : L2.St} {H : Hp} {Q : VK} {z : Str} {te : TE} (h : te σ H fun y H2 => rJoin K (.str z) y H2 Q) : tJoinU K (tC (.str z)) te σ H Q := ⟨⟨z, rfl⟩, h⟩
theorem k_joinL {K : PySem.W.Frag} {H : Hp} {Q : VK} {z : Str} {p : Addr} {ys : List Str} (h : SqL K H p (ys.map V.str)) (hz : (ys.map (·.length)).sum + ys.length * z.length ≤ 16777216) (k : ∀ out : Str, out = Txt.join z ys → Q (.str out) H) : rJoin K (.str z) (.ref p) H Q := ⟨z, p, ys, rfl, rfl, .inl h, hz, k _ rfl⟩
/-! ### f-strings, join -/
section
variable {σ : L2.St} {H : Hp} {te : TE}
theorem k_js {ts : List TE} {Q : VK} (h : tJs ts Str.empty σ H fun out H1 => Q (.str out) H1) : (fun (σ : L2.St) (H : Hp) (Q : VK) => tJs ts Str.empty σ H fun out H1 => Q (.str out) H1) σ H Q := h
theorem k_jsNil {acc : Str} {Q : Str → Hp → Prop} (h : Q acc H) : tJs [] acc σ H Q := h
theorem k_jsCons {ts : List TE} {acc : Str} {Q : Str → Hp → Prop} (h : te σ H fun x H1 => ∃ y : Str, x = .str y ∧ (acc ++ y).length ≤ sizeLine ∧ tJs ts (acc ++ y) σ H1 Q) : tJs (te :: ts) acc σ H Q := h
theorem k_jsV {acc z : Str} {P : Str → Prop} (h : (acc ++ z).length ≤ 1000000) (k : P z) : ∃ y : Str, V.str z = .str y ∧ (acc ++ y).length ≤ sizeLine ∧ P y := ⟨z, rfl, small_size h, k⟩
def rFmt (x : V) (H : Hp) (Q : VK) : Prop := (∃ y : Str, x = .str y ∧ y.length ≤ sizeLine ∧ Q (.str y) H) ∨ ∃ i : Int, x = .int i ∧ i.natAbs.log2 < 1920 ∧ Q (.str (toString i)) H
theorem k_fmt {Q : VK} (h : te σ H fun x H1 => rFmt x H1 Q) : tFmt te σ H Q := h
theorem k_fmtS {z : Str} {Q : VK} (h : z.length ≤ 1000000) (k : Q (.str z) H) : rFmt (.str z) H Q := .inl ⟨z, rfl, small_size h, k⟩
theorem k_fmtI {i : Int} {Q : VK} (h : i.natAbs < 2 ^ 64) (k : Q (.str (toString i)) H) : rFmt (.int i) H Q := .inr ⟨i, rfl, log_text (k := 64) (by decide) h, k⟩
theorem k_str1 {i : Int} {Q : VK} (h : i.natAbs < 2 ^ 64) (k : Q (.str (toString i)) H) : rStr1 [.int i] H Q := ⟨i, rfl, log_text (k := 64) (by decide) h, k⟩
end
theorem len_empty : Str.empty.length = 0 := by decide +kernel

/-! ### what changes one object alone -/
def SameBut (a : Addr) (H H' : Hp) : Prop := ∀ b o, b ≠ a → H b = some o → H' b = some o
theorem SameBut.refl (a : Addr) (H : Hp) : SameBut a H H := fun _ _ _ h => h
theorem SameBut.trans {a : Addr} {H H1 H2 : Hp} (x : SameBut a H H1) (y : SameBut a H1 H2) : SameBut a H H2 := fun b o n h => y b o n (x b o n h)
theorem SameBut.of {a : Addr} {H H' : Hp} (x : Same H H') : SameBut a H H' := fun b o _ h => x b o h
theorem SameBut.put {a : Addr} {H H' : Hp} {o : HO} (x : SameBut a H H') : SameBut a H (upd H' a o) := fun b u n h => by
  rw [upd_ne n]
  exact x b u n h
/-- the object was new: all is as it was -/
theorem SameBut.made {x dx : Addr} {H H' : Hp} {C : Addr} {fs : List (Str × V)} (hx : H x = none) (hd : H dx = none) (ne : dx ≠ x) (s : SameBut x (upd (upd H dx (.own x)) x (.ins C dx fs)) H') : Same H H' := fun b o h => by
  have n1 : b ≠ x := ne_of_none h hx
  have n2 : b ≠ dx := ne_of_none h hd
  exact s b o n1 (by rw [upd_ne n1, upd_ne n2]; exact h)
theorem cc_look {cc : Addr} : List.lookup ("__class__" : Str) [(("__class__" : Str), cc)] = some cc := by
  rw [List.lookup_cons]
  simp
end Kit

/-! Sup: methods of the program's own classes that say super().m(..): the def closes over its class. -/
namespace Kit
open PySem PySem.Spec PyProof.Rows L2

structure SupAt (K : PySem.W.Frag) (C D f2 : Addr) (name : Str) : Prop where
  sub : PySem.W.mroIn K C (.ref D) = some true
  m : PySem.W.ks_superIn K C D name = some (some (.ref f2))
  fn : PySem.W.fnIn K f2 = true
  ty : PySem.W.typeIn K (.ref f2) = some (.type "function")
structure SupDef (P : Program) (K : PySem.W.Frag) (mg : Str → Option Value) (f D cc cda : Addr) (sf : Str) : Prop where
  fn : ∃ oc od fd osl ar, K.lookup f = some ⟨oc, od, .func fd, osl⟩ ∧ (fd.params.posonlyargs ++ fd.params.args).head? = some ar ∧ ar.arg = sf
  code : ∃ ccl cdd vs ccs file tf, K.lookup cda = some ⟨ccl, cdd, .fields vs, ccs⟩ ∧ vs[2]? = some (.str file tf) ∧ ((P.main.file : Str) == file) = true
  cell : ∃ cl cld csl, K.lookup cc = some ⟨cl, cld, .cell (some (.ref D)), csl⟩
  cls : ∃ cdD, PySem.W.clsIn K D = some cdD
  sup : mg "super" = none
  top : (P.main.scope.names.lookup ("super" : Str)).isSome = false
  st : PySem.W.nsIn K cStatics "thirdparty.any" = some none

/-- a block, a statement, in the activation of the def whose whole body is told -/
structure PSA (X : Cx) (body sts : List Stmt) (t : TS) : Prop where
  go : ∀ (pins : List (Addr × Obj)) (s : Shared) (σ : L2.St) (H : Hp) (D : Ends), Inv X pins σ H s → t D σ H → PySem.wpAt (model X.prog X.w) X.A (.func body X.env) (execs sts X.env) (SP X pins D) X.xe s
structure PSt (X : Cx) (body : List Stmt) (st : Stmt) (t : TS) : Prop where
  go : ∀ (pins : List (Addr × Obj)) (s : Shared) (σ : L2.St) (H : Hp) (D : Ends), Inv X pins σ H s → t D σ H → PySem.wpAt (model X.prog X.w) X.A (.func body X.env) (exec st X.env) (SP X pins D) X.xe s
section
variable {X : Cx} {body rest sts : List Stmt} {st : Stmt} {t u : TS}
theorem psa_of (h : PSs X sts t) : PSA X body sts t := ⟨fun pins s σ H D I q => wpAt_of_wpAny (h.run pins s σ H D I q)⟩
theorem pst_of (h : PS X st t) : PSt X body st t := ⟨fun pins s σ H D I q => wpAt_of_wpAny (h.run pins s σ H D I q)⟩
theorem psa_cons (h1 : PSt X body st t) (h2 : PSA X body rest u) : PSA X body (st :: rest) (tSeq t u) := by
  refine ⟨fun pins s σ H D I q => ks_wpAt_execs_cons (ks_wpAt_mono (h1.go pins s σ H _ I q) (fun fl s' hf => ?_) fun _ _ z => z)⟩
  cases fl with
  | next =>
    obtain ⟨σ', H', I', q'⟩ := hf
    exact h2.go pins s' σ' H' D I' q'
  | ret v => exact hf
  | brk => exact hf
  | cont => exact hf
theorem psa_one (h1 : PSt X body st t) : PSA X body [st] t := by
  refine ⟨fun pins s σ H D I q => ks_wpAt_execs_cons (ks_wpAt_mono (h1.go pins s σ H _ I q) (fun fl s' hf => ?_) fun _ _ z => z)⟩
  cases fl with
  | next => exact wpAt_of_wpAny (wpAny_execs_nil hf)
  | ret v => exact hf
  | brk => exact hf
  | cont => exact hf

/-- super().m(e, ..) as a statement; self in the first slot -/
def tSup (K : PySem.W.Frag) (D : Addr) (name : Str) (f2 : Addr) (sp : Sp) (dvs : List V) (E : XK) (ta : TA) : TS := fun B σ H => ∃ a C dx fs, σ[0]? = some (some (V.ref a)) ∧ H a = some (.ins C dx fs) ∧ SupAt K C D f2 name ∧
  ∀ q, H q = none → ta σ (upd H q (.met f2 a)) fun vs H1 => H1 q = some (.met f2 a) ∧ sp (.ref a :: (vs ++ dvs)) H1 (fun _ H2 => B.nx σ H2) E
theorem pst_super {f D cc cda f2 : Addr} {self name : Str} {e : Expr} {es : List Expr} {ta : TA} {sp : Sp} {dvs : List V} {ds : List Value} {E : XK} {CX : CXT} {k : Nat} {fd2 : FuncData} {ps : List Str} {p0 p1 apos pos spos : Pos} {pl : Sem Bool}
    (S : SupDef X.prog X.K X.mg f D cc cda self) (hfu : X.env.func = some f) (hco : X.env.code = .ref cda) (hks : X.env.kindOf "super" = some .globalImplicit) (hkc : X.env.kindOf "__class__" = some .free) (hcc : X.env.cells.lookup ("__class__" : Str) = some cc)
    (hN : X.N[0]? = some self) (hv : X.env.scope.names.lookup self = some .local) (hn : (name == ("__class__" : Str)) = false)
    (F : FnOk X.prog X.w X.K X.mg X.base CX k f2 fd2 ps sp) (hr : Room k X.A) (hb : Binds X.K fd2 ps ds) (hd : Vals dvs ds) (hx : Passes CX X E) (ha : PA X (e :: es) ta)
    (hs : swapsWith (.Call (.Attribute (.Call (.Name "super" p0) [] [] p1) name apos) (e :: es) [] pos) none spos.line X.env = pure false := by rfl)
    (he0 : eval (.Call (.Attribute (.Call (.Name "super" p0) [] [] p1) name apos) (e :: es) [] pos) X.env = (do
      let ov ← attributeBase (.Call (.Name "super" p0) [] [] p1) name X.env (eval (.Call (.Name "super" p0) [] [] p1) X.env)
      standAt apos.atName
      let (f, first) ← holding [ov] (getMethod ov name pl)
      callWith pos f first (backTo pos (starEach (e :: es) X.env)) []) := by rfl)
    (he : starEach (e :: es) X.env = (false, eval e X.env) :: starEach es X.env := by rfl) (hpl : (backTo pos (starEach es X.env)).any (·.1) = false := by rfl) :
    PSt X body (.Expr (.Call (.Attribute (.Call (.Name "super" p0) [] [] p1) name apos) (e :: es) [] pos) spos) (tSup X.K D name f2 sp dvs E ta) := by
  refine ⟨fun pins s σ H B I h => ?_⟩
  obtain ⟨a, C, dx, fs, hσ, hH, SA, q⟩ := h
  obtain ⟨oc, od, fd, osl, ar, lkf, hhead, har⟩ := S.fn
  obtain ⟨ccl, cdd, vs, ccs, file, tf, lkc, hvs, hfile⟩ := S.code
  obtain ⟨cl, cld, csl, lkcell⟩ := S.cell
  obtain ⟨cdD, hD⟩ := S.cls
  have KI := I.kIn
  obtain ⟨mA, OM, _⟩ := ins_get I.hok hH
  obtain ⟨odx, IA, _⟩ := OM.look
  obtain ⟨oD, hD1, hD2⟩ : ∃ oD, s.heap.get? D = some oD ∧ oD.data = .cls cdD := by
    unfold PySem.W.clsIn at hD
    split at hD
    · rename_i c d cd' sl ho
      cases hD
      exact ⟨_, KI _ _ ho, rfl⟩
    · cases hD
  obtain ⟨m, hns, hloc⟩ := I.loc
  obtain ⟨u, ru, lk⟩ := hloc 0 self (.ref a) hN hσ (.inl hv)
  cases ru
  have hself : m self = some (.ref a) := by
    rcases lk with ⟨_, z⟩ | ⟨z, _⟩
    · exact z
    · have z' : X.env.scope.names.lookup self = some .cell ∨ X.env.scope.names.lookup self = some .free := z
      rw [hv] at z'
      rcases z' with z' | z' <;> cases z'
  refine ks_wpAt_Expr_any ?_ I.quiet hs
  refine ks_wpAt_MethodCall ?_ he0
  refine ks_wpAt_super_base (env := X.env) hks hkc hn hfu (KI _ _ lkf) rfl hhead hco (KI _ _ lkc) rfl hvs hfile S.top ?_
  obtain ⟨mb, hb1, hb2⟩ := I.mod.blt
  refine PySem.W.ks_loadName_global I.ok.kind hks (Calls.loadGlobal_builtin (by rw [I.ok.glob]; exact I.mod.glob.keeps I.bk) S.sup (by rw [I.ok.blt]; exact hb1.keeps I.bk) ((hb2 "super" (by decide)).trans (show bootBuiltins "super" = some (.type "super") by decide +kernel)) ⟨rfl, ?_⟩)
  refine wpAny_loadName_free I.ok.kind hkc hcc ⟨_, KI _ _ lkcell, rfl⟩ ?_
  rw [har]
  refine wpAny_loadName_local I.ok.kind hv hns hself ?_
  refine ks_wpAny_isType_cls hD1 hD2 ⟨rfl, ?_⟩
  obtain ⟨hp, g, dr, tk, os⟩ := s
  refine ks_wpAny_call_super hD1 hD2 IA.at_ IA.cls (fun c e => ?_) (PySem.W.looks_mroIn KI SA.sub) (fun h' e k => ?_)
  · have z := IA.no
    unfold PySem.W.notCls at z
    rw [e] at z
    exact Bool.noConfusion z
  have I1 : Inv X pins σ H ⟨h', g, dr, tk, os⟩ := I.kept (t' := tk) k
  have KI1 := I1.kIn
  have hm := SA.m
  unfold PySem.W.ks_superIn at hm
  obtain ⟨cd, hc⟩ : ∃ cd, PySem.W.clsIn X.K C = some cd := by
    cases hc : PySem.W.clsIn X.K C with
    | none => rw [hc] at hm; cases hm
    | some cd => exact ⟨cd, rfl⟩
  rw [hc] at hm
  obtain ⟨of, lof, hofc⟩ : ∃ of, X.K.lookup f2 = some of ∧ of.cls = .type "function" := by
    have ht' : (X.K.lookup f2).map (·.cls) = some (.type "function") := SA.ty
    cases z : X.K.lookup f2 with
    | none => rw [z] at ht'; cases ht'
    | some of => rw [z] at ht'; exact ⟨of, rfl, Option.some.inj ht'⟩
  refine ks_wpAny_getMethod_super e (PySem.W.looks_opaque KI1 S.st) (l₀ := cd.mro) ?_ rfl KI1 hm (KI1 _ _ lof) hofc (PySem.W.ks_ne KI IA hc) hn ?_
  · exact fun A Q E s k q => wpAny_bind ((PySem.W.looks_clsIn KI1 hc) A _ E s k (wpAny_pure q))
  have nq : H h'.objs.size = none := I1.hok.fresh (Nat.le_refl _)
  have hq0 : (h'.push { cls := .type "method", data := .fields #[.ref f2, .ref a] }).get? h'.objs.size = some (PySem.W.methodObj (.ref f2) (.ref a)) := Heap.get?_push_at rfl rfl
  have I2 : Inv X pins σ (upd H h'.objs.size (.met f2 a)) ⟨h'.push { cls := .type "method", data := .fields #[.ref f2, .ref a] }, g, dr, tk + 1, os⟩ :=
    I1.laid (t' := tk + 1) (a := h'.objs.size) (o := .met f2 a) (h' := h'.push { cls := .type "method", data := .fields #[.ref f2, .ref a] }) (fun b o e => Heap.get?_push_of_some _ e) (Nat.le_refl _) hq0
  have hq := q h'.objs.size nq
  generalize h'.objs.size = qa at *
  refine PySem.W.callWith_of (P := fun h => PySem.W.MethP X.K qa f2 (.ref a) h) (by rw [he]; show ((false || (backTo pos (starEach es X.env)).any (·.1)) || false) = false; rw [hpl]; rfl) (PySem.W.keeps_M SA.fn) ?_
  rw [he]
  refine PySem.Calls.evalArgs_plain ?_
  have hrun := ha.run pos pins _ σ _ _ I2 hq
  rw [he] at hrun
  refine thn hrun fun us s1 ⟨ws, H1, I3, r1, hqm, hsp⟩ => ?_
  have hmo : s1.heap.get? qa = some (PySem.W.methodObj (.ref f2) (.ref a)) := I3.hok qa _ hqm
  refine ⟨⟨hmo, I3.kIn⟩, wpAny_call (ks_codeAny_call_bound hmo ?_)⟩
  have r2 : Vals (V.ref a :: (ws ++ dvs)) (Value.ref a :: (us ++ ds)) := .cons rfl (r1.append hd)
  have hl : (Value.ref a :: us ++ ds).length = ps.length := by
    have e := r2.length
    rw [F.len _ _ _ _ hsp] at e
    exact e.symm
  refine codeAny_mono (F.run X.A X.stack s1 H1 ⟨Value.ref a :: us, []⟩ (Value.ref a :: (us ++ ds)) _ _ E hr I3.env0 (hb _ (Value.ref a :: us) I3.kIn hl) r2 hsp) fun r s' hq' => ?_
  cases r with
  | error er => exact hx pins σ H1 s1 er s' I3 hq'
  | ok fl =>
    cases fl with
    | ret v =>
      obtain ⟨x, H2, I4, rx, q4⟩ := I3.after hq'
      exact ⟨σ, H2, I4, q4⟩
    | next => exact False.elim hq'
    | brk => exact False.elim hq'
    | cont => exact False.elim hq'
end

theorem kpst_super (K : PySem.W.Frag) {f D cc cda f2 : Addr} {self name : Str} {e : Expr} {es : List Expr} {ta : TA} {sp : Sp} {dvs : List V} {ds : List Value} {E : XK} {CX : CXT} {k : Nat} {fd2 : FuncData} {ps : List Str} {p0 p1 apos pos spos : Pos} {pl : Sem Bool}
    (S : SupDef X.prog X.K X.mg f D cc cda self) (hfu : X.env.func = some f) (hco : X.env.code = .ref cda) (hks : X.env.kindOf "super" = some .globalImplicit) (hkc : X.env.kindOf "__class__" = some .free) (hcc : X.env.cells.lookup ("__class__" : Str) = some cc)
    (hN : X.N[0]? = some self) (hv : X.env.scope.names.lookup self = some .local) (hn : (name == ("__class__" : Str)) = false)
    (F : FnOk X.prog X.w X.K X.mg X.base CX k f2 fd2 ps sp) (hr : Room k X.A) (hb : Binds X.K fd2 ps ds) (hd : Vals dvs ds) (hx : Passes CX X E) (ha : PA X (e :: es) ta) (hK : X.K = K := by rfl)
    (hs : swapsWith (.Call (.Attribute (.Call (.Name "super" p0) [] [] p1) name apos) (e :: es) [] pos) none spos.line X.env = pure false := by rfl)
    (he0 : eval (.Call (.Attribute (.Call (.Name "super" p0) [] [] p1) name apos) (e :: es) [] pos) X.env = (do
      let ov ← attributeBase (.Call (.Name "super" p0) [] [] p1) name X.env (eval (.Call (.Name "super" p0) [] [] p1) X.env)
      standAt apos.atName
      let (f, first) ← holding [ov] (getMethod ov name pl)
      callWith pos f first (backTo pos (starEach (e :: es) X.env)) []) := by rfl)
    (he : starEach (e :: es) X.env = (false, eval e X.env) :: starEach es X.env := by rfl) (hpl : (backTo pos (starEach es X.env)).any (·.1) = false := by rfl) :
    PSt X body (.Expr (.Call (.Attribute (.Call (.Name "super" p0) [] [] p1) name apos) (e :: es) [] pos) spos) (tSup K D name f2 sp dvs E ta) := by
  subst hK
  exact pst_super S hfu hco hks hkc hcc hN hv hn F hr hb hd hx ha hs he0 he hpl
theorem k_sup {K : PySem.W.Frag} {D0 f2 a C dx : Addr} {name : Str} {sp : Sp} {dvs : List V} {E : XK} {ta : TA} {B : Ends} {σ : L2.St} {H : Hp} {fs : List (Str × V)} (h0 : σ[0]? = some (some (V.ref a))) (h1 : H a = some (.ins C dx fs)) (h2 : SupAt K C D0 f2 name)
    (k : ∀ q H', H q = none → H' = upd H q (.met f2 a) → Same H H' → H' q = some (.met f2 a) → ta σ H' fun vs H1 => H1 q = some (.met f2 a) ∧ sp (.ref a :: (vs ++ dvs)) H1 (fun _ H2 => B.nx σ H2) E) : tSup K D0 name f2 sp dvs E ta B σ H :=
  ⟨a, C, dx, fs, h0, h1, h2, fun q nq => k q _ nq rfl (same_new nq) upd_same⟩
theorem PSA.nox {X : Cx} {body sts : List Stmt} {t : TS} (h : PSA X.nox body sts t) : PSA X body sts t := ⟨fun pins s σ H D I hw =>
  ks_wpAt_mono (h.go pins s σ H D (I.wish _) hw) (fun _ _ q => q.unwish) fun _ _ z => False.elim z⟩

/-- a method that closes over its class, as it stands behind the top -/
structure FunS (K : PySem.W.Frag) (x qual : Str) (st : Stmt) (f : Addr) (fd : FuncData) (cc cda : Addr) : Prop where
  ex : ∃ (oc : Value) (od : Option Addr) (kV doc pm : Value) (an : Option Addr) (ct : Value) (osl : Array (Option Value)),
    fd = PySem.W.fnX x qual (defArgs st) (defBody st) (defScope st) [("__class__", cc)] .none kV doc pm an (.ref cda) ct ∧ K.lookup f = some ⟨oc, od, .func fd, osl⟩ ∧ PySem.W.codeIn K (.ref cda) qual = true
  kp : PySem.W.keepIn K (.ref f) = true
section
variable {P : Program} {w : World} {K : PySem.W.Frag} {mg : Str → Option Value} {base : Heap}
theorem funS_mk {x qual : Str} {st : Stmt} {f cc cda : Addr} {oc : Value} {od an : Option Addr} {osl : Array (Option Value)} {kV doc pm ct : Value} (l : K.lookup f = some ⟨oc, od, .func (PySem.W.fnX x qual (defArgs st) (defBody st) (defScope st) [("__class__", cc)] .none kV doc pm an (.ref cda) ct), osl⟩)
    (c : PySem.W.codeIn K (.ref cda) qual = true) (k : PySem.W.keepIn K (.ref f) = true) : FunS K x qual st f (PySem.W.fnX x qual (defArgs st) (defBody st) (defScope st) [("__class__", cc)] .none kV doc pm an (.ref cda) ct) cc cda := ⟨⟨oc, od, kV, doc, pm, an, ct, osl, rfl, l, c⟩, k⟩
theorem FunS.binds {x qual : Str} {st : Stmt} {f cc cda : Addr} {fd : FuncData} {ps : List Str} (F : FunS K x qual st f fd cc cda)
    (h : ∀ (kV doc pm : Value) (an : Option Addr) (ct : Value) (us : List Value), us.length = ps.length → bindArgs (PySem.W.fnX x qual (defArgs st) (defBody st) (defScope st) [("__class__", cc)] .none kV doc pm an (.ref cda) ct) ⟨us, []⟩ = pure (ps.zip us)) : Binds K fd ps [] := by
  obtain ⟨oc, od, kV, doc, pm, an, ct, osl, rfl, lk, hcd⟩ := F.ex
  exact .all (h kV doc pm an ct)
abbrev nfS (x qual : Str) (st : Stmt) (cc cda : Addr) : NdefX.NF := ⟨x, qual, defArgs st, defBody st, defScope st, [("__class__", cc)], cda⟩
theorem FunS.ok {x qual : Str} {st : Stmt} {f cc cda D0 : Addr} {fd : FuncData} {N ps : List Str} {k : Nat} {sp : Sp} {cl : Value} {cld : Option Addr} {csl : Array (Option Value)} (F : FunS K x qual st f fd cc cda) (S : NdefX.NScope N ps ["__class__"] (defScope st))
    (hcell : K.lookup cc = some ⟨cl, cld, .cell (some (.ref D0)), csl⟩) (hbn : Binds K fd ps []) (len : ∀ vs H Q E, sp vs H Q E → vs.length = ps.length)
    (hbody : ∀ (A : Around) (outer : List Env) (s : Shared) (H : Hp) (vs : List V) (Q : VK) (E : XK), Room k (A.deeper (NdefX.envF (nfS x qual st cc cda) f s.heap.objs.size)) → sp vs H Q E →
      ∃ t, PSA (NdefX.ncx CX0 P w K mg base N (nfS x qual st cc cda) f A outer s H E).nox (defBody st) (defBody st) t ∧ t { nx := fun _ H' => Q .non H', rt := Q } (NdefX.startF N vs [some (.ref D0)]) H) :
    FnOk P w K mg base CX0 (k + 1) f fd ps sp := by
  obtain ⟨oc, od, kV, doc, pm, an, ct, osl, efd, lk, hcd⟩ := F.ex
  refine ⟨len, fun A outer s H args us vs Q E hr e0 hb r hsp => ?_⟩
  have hl := len _ _ _ _ hsp
  have KB := e0.mod.kin
  have KX : K.In s.heap := KB.keeps fun b o e => (e0.bs b o e).1
  have lim : s.heap.NoLimit := e0.mod.nolimit.keeps fun b o e => (e0.bs b o e).1
  have hc1 := e0.bs _ _ (KB _ _ hcell)
  have CA : NdefX.CellsAt [("__class__", cc)] ["__class__"] [some (.ref D0)] s.heap H := by
    have key : ∀ y c, List.lookup y [(("__class__" : Str), cc)] = some c → y = "__class__" ∧ c = cc := fun y c e => by
      rw [List.lookup_cons] at e
      by_cases hy : y = "__class__"
      · subst hy
        simp at e
        exact ⟨rfl, e.symm⟩
      · have : (y == ("__class__" : Str)) = false := by simpa using hy
        rw [this] at e
        cases e
    refine ⟨rfl, fun y c e => ?_, fun x y c e1 e2 => ((key x c e1).1).trans ((key y c e2).1).symm, fun i y e => ?_⟩
    · obtain ⟨rfl, rfl⟩ := key y c e
      exact ⟨hc1.2, _, _, hc1.1, rfl⟩
    · have hi : i = 0 := by
        have := (List.getElem?_eq_some_iff.mp e).1
        simp at this
        exact this
      subst hi
      have ey : ("__class__" : Str) = y := Option.some.inj e
      subst ey
      refine ⟨cc, by simp, fun v ev => ?_⟩
      have ev' : V.ref D0 = v := Option.some.inj (Option.some.inj ev)
      subst ev'
      exact ⟨.ref D0, rfl, _, hc1.1, rfl⟩
  subst efd
  refine codeAny_call_function hr.depth (KX _ _ lk) rfl S.co S.gen rfl (PySem.W.codeRec_of KX hcd) (hb _ _ _ _ ?_)
  refine wpAny_newFunctionEnv S.nocell (fun ⟨n, _⟩ hy => S.par n (List.of_mem_zip hy).1) (fun h₁ hns hsb => ⟨lim.fresh _ hsb, ?_⟩) S.kind
  show codeAny _ _ (.func (defBody st) (NdefX.envF (nfS x qual st cc cda) f s.heap.objs.size)) _ _
  have kp : ∀ b o, s.heap.get? b = some o → h₁.get? b = some o := fun b o e => hsb.extBut b o (Nat.ne_of_lt (Heap.lt_size e)) (Heap.get?_push_of_some _ e)
  obtain ⟨t, ht, hq⟩ := hbody A outer s H vs Q E (hr.deeper _) hsp
  have I : Inv (NdefX.ncx CX0 P w K mg base N (nfS x qual st cc cda) f A outer s H E) [] (NdefX.startF N vs [some (.ref D0)]) H { s with heap := h₁, toks := s.toks + (ps.zip us).length } :=
    NdefX.inv_startN (F := nfS x qual st cc cda) S hr.hd e0 hl r CA hns kp
  refine ks_codeAny_funcAt (ks_wpAt_mono (ht.nox.go [] _ _ H _ I hq) (fun fl s' hs => ?_) fun e s' hs => hs)
  have fin : ∀ {σ' : L2.St} {H' : Hp} {v : V} {u : Value}, Inv (NdefX.ncx CX0 P w K mg base N (nfS x qual st cc cda) f A outer s H E) [] σ' H' s' → L2.RelV v u → Q v H' → CE outer P w H s Q u s' :=
    fun {σ' H' v u} J rv q => ⟨v, H', J.os, J.bare, J.base, J.hok, rv, q⟩
  cases fl with
  | ret u =>
    obtain ⟨v, σ', H', J, rv, q⟩ := hs
    exact fin J rv q
  | next =>
    obtain ⟨σ', H', J, q⟩ := hs
    exact fin (v := V.non) (u := Value.none) J rfl q
  | brk =>
    obtain ⟨_, _, _, q⟩ := hs
    exact False.elim q
  | cont =>
    obtain ⟨_, _, _, q⟩ := hs
    exact False.elim q
end

/-! ### methods found by the instance's own class -/
/-- for an instance of C the method m keeps sp -/
def Disp (X : Cx) (CX : CXT) (k : Nat) (m : Str) (R : Addr → Sp → Prop) : Prop :=
  ∀ C sp, R C sp → ∃ g fd ps, Cls X.K C ∧ Meth X.K C m g ∧ FnOk X.prog X.w X.K X.mg X.base CX k g fd ps sp ∧ Binds X.K fd ps []
def tMethP (R : Addr → Sp → Prop) (m : Str) (E : XK) (ta : TE) (t : TA) : TE := fun σ H Q => ta σ H fun x H1 => ∃ a C dx fs sp, x = V.ref a ∧ H1 a = some (.ins C dx fs) ∧ R C sp ∧ fs.lookup m = none ∧ t σ H1 fun vs H2 => sp (x :: vs) H2 Q E
section
variable {X : Cx} {CX : CXT} {k : Nat} {m : Str} {R : Addr → Sp → Prop} {E : XK} {o e : Expr} {es : List Expr} {ta : TE} {t : TA} {apos pos : Pos} {pl : Sem Bool}
theorem kpe_methP (hR : Disp X CX k m R) (hr : Room k X.A) (hx : Passes CX X E) (he : PE X o ta) (ha : PA X (e :: es) t)
    (hst : starEach (e :: es) X.env = (false, eval e X.env) :: starEach es X.env := by rfl) (hpl : (backTo pos (starEach es X.env)).any (·.1) = false := by rfl)
    (ht : eval (.Call (.Attribute o m apos) (e :: es) [] pos) X.env = (do
      let ov ← eval o X.env
      standAt apos.atName
      let (f, first) ← holding [ov] (getMethod ov m pl)
      callWith pos f first (backTo pos (starEach (e :: es) X.env)) (backToKw pos (keywordEach [] X.env))) := by rfl) :
    PE X (.Call (.Attribute o m apos) (e :: es) [] pos) (tMethP R m E ta t) := by
  refine ⟨fun pins s σ H Q I h => PySem.W.methodCall_KW (pl := pl) (thn (he.run pins s σ H _ I h) fun u s1 hu => ?_) ht⟩
  obtain ⟨x, H1, I1, rx, a, C, dx, fs, sp, ex, ea, hRC, l, q⟩ := hu
  subst ex
  obtain rfl : u = Value.ref a := rx
  obtain ⟨g, fd, ps, c, hm, F, hb⟩ := hR C sp hRC
  refine getmeth_ok I1 ea c hm l (PySem.W.callWith_K (first := [.ref a]) (h₀ := X.base) I.ok.mod.kin hm.kp (thn (ha.run pos pins s1 σ H1 _ I1 q) fun us s2 hv => ?_) hst hpl)
  obtain ⟨vs, H2, I2, r, q2⟩ := hv
  exact ⟨I2.kIn, run_fn (us := .ref a :: us) (vs := .ref a :: vs) (dvs := []) (ds := []) F hr hb .nil hx I2 (.cons rfl r) (by rw [List.append_nil]; exact q2)⟩
theorem kpe_methP0 (hR : Disp X CX k m R) (hr : Room k X.A) (hx : Passes CX X E) (he : PE X o ta)
    (ht : eval (.Call (.Attribute o m apos) [] [] pos) X.env = (do
      let ov ← eval o X.env
      standAt apos.atName
      let (f, first) ← holding [ov] (getMethod ov m pl)
      callWith pos f first (backTo pos (starEach [] X.env)) (backToKw pos (keywordEach [] X.env))) := by rfl) :
    PE X (.Call (.Attribute o m apos) [] [] pos) (tMethP R m E ta tNil) := by
  refine ⟨fun pins s σ H Q I h => PySem.W.methodCall_KW (pl := pl) (thn (he.run pins s σ H _ I h) fun u s1 hu => ?_) ht⟩
  obtain ⟨x, H1, I1, rx, a, C, dx, fs, sp, ex, ea, hRC, l, q⟩ := hu
  subst ex
  obtain rfl : u = Value.ref a := rx
  obtain ⟨g, fd, ps, c, hm, F, hb⟩ := hR C sp hRC
  refine getmeth_ok I1 ea c hm l (PySem.W.callWith_K0 (first := [.ref a]) I1.kIn hm.kp ?_)
  exact run_fn (us := [.ref a]) (vs := [.ref a]) (dvs := []) (ds := []) F hr hb .nil hx I1 (.cons rfl .nil) q
/-- an instance called -/
def DispC (X : Cx) (CX : CXT) (k : Nat) (R : Addr → Sp → Prop) : Prop :=
  ∀ C sp, R C sp → ∃ g fd ps, StX.CallO X.K C g ∧ FnOk X.prog X.w X.K X.mg X.base CX k g fd ps sp ∧ Binds X.K fd ps []
def tCallP (R : Addr → Sp → Prop) (E : XK) (tf : TE) (t : TA) : TE := fun σ H Q => tf σ H fun y H1 => ∃ a C sp, y = V.ref a ∧ R C sp ∧ t σ H1 fun vs H2 => (∃ dx fs, H2 a = some (.ins C dx fs)) ∧ sp (V.ref a :: vs) H2 Q E
theorem kpe_callP {fe : Expr} {tf : TE} (hR : DispC X CX k R) (hr : Room k X.A) (hx : Passes CX X E) (hf : PE X fe tf) (ha : PA X (e :: es) t)
    (ht : eval (.Call fe (e :: es) [] pos) X.env = (do callWith pos (← eval fe X.env) [] (backTo pos (starEach (e :: es) X.env)) (backToKw pos (keywordEach [] X.env))) := by rfl)
    (he : starEach (e :: es) X.env = (false, eval e X.env) :: starEach es X.env := by rfl) (hpl : (backTo pos (starEach es X.env)).any (·.1) = false := by rfl) : PE X (.Call fe (e :: es) [] pos) (tCallP R E tf t) := by
  refine ⟨fun pins s σ H Q I h => Call_ (thn (hf.run pins s σ H _ I h) fun u s1 hu => ?_) ht⟩
  obtain ⟨y, H1, I1, ry, a, C, sp, ey, hRC, q⟩ := hu
  subst ey
  obtain rfl : u = Value.ref a := ry
  obtain ⟨g, fd, ps, c, F, hb⟩ := hR C sp hRC
  refine StX.callO_with (thn (ha.run pos pins s1 σ H1 _ I1 q) fun us s2 hv => ?_) he hpl
  obtain ⟨vs, H2, I2, r, hi, q2⟩ := hv
  obtain ⟨ox, od, J, hd⟩ := StX.insC_at I2 (.inr hi)
  refine ⟨⟨C, ox, od, J, hd⟩, ?_⟩
  have r2 : Vals (V.ref a :: vs) (Value.ref a :: us) := .cons rfl r
  have hl : (Value.ref a :: us).length = ps.length := by rw [← r2.length]; exact F.len _ _ _ _ q2
  refine wpAny_call (PySem.W.kco_code I2.kIn J hd c.at_ c.fn c.fi (codeAny_mono (F.run X.A X.stack s2 H2 ⟨Value.ref a :: us, []⟩ (Value.ref a :: us) (V.ref a :: vs) Q E hr I2.env0 ?_ r2 q2) fun res s' hq => ?_))
  · have z := hb s2 (Value.ref a :: us) I2.kIn (by rw [List.append_nil]; exact hl)
    rw [List.append_nil] at z
    exact z
  · cases res with
    | error er => exact hx pins σ H2 s2 er s' I2 hq
    | ok fl =>
      cases fl with
      | ret v => exact I2.after hq
      | next => exact False.elim hq
      | brk => exact False.elim hq
      | cont => exact False.elim hq
end

/-- what isinstance asks of an own class -/
structure ClsTy (K : PySem.W.Frag) (C : Addr) : Prop where
  cl : Cls K C
  ha : PySem.W.findIn K (.ref C) "__class__" = some (some (.builtin "object.__class__"))
  hn : PySem.W.specialIn K (.builtin "object.__class__") "__get__" = some (some (.builtin "getset_descriptor.__get__"))
  htk : PySem.W.takesIn K (.builtin "object.__class__") = some true
  hm : PySem.W.mroIn K C (.type "object") = some true
theorem ty_own {K : PySem.W.Frag} {H : Hp} {a C dx : Addr} {fs : List (Str × V)} (c : ClsTy K C) (e : H a = some (.ins C dx fs)) : TyX K H (.ref a) (.ref C) := .base (.ins e c.cl c.ha c.hn c.htk c.hm)
end Kit

namespace Kit
open PySem PySem.Spec PyProof.Rows L2
/-! ### super().__init__(..) in an own exception's __init__ -/
/-- a built-in __init__ bound to the object that is being made -/
def mwo (u a : Addr) : HO := .ext fun h => h.get? u = some (PySem.W.kxs_mw "ValueError.__init__" a)
structure SupAtE (K : PySem.W.Frag) (C D : Addr) : Prop where
  oex : OexC K C
  sub : PySem.W.mroIn K C (.ref D) = some true
  m : PySem.W.ks_superIn K C D "__init__" = some (some (.builtin "ValueError.__init__"))
  hB : PySem.W.subIn K (.ref C) (.type "ValueError") = some true
section
variable {prog : Program} {w : World} {A : Around} {E : Value → Shared → Prop} {h : Heap} {g : Array GenState} {dr : Drawn} {t : Nat} {os : OsState}
theorem call_mwE {K : PySem.W.Frag} {C a u t1 : Addr} {us : List Value} {Q : Value → Shared → Prop} (KX : K.In h) (T : OexC K C) (hu : h.get? u = some (PySem.W.kxs_mw "ValueError.__init__" a))
    (ha : h.get? a = some ({ cls := .ref C, dict := none, data := .fields #[.ref t1, .none, .none, .none, .bool false, .none] } : Obj)) (hl : us.length ≤ sizeLine)
    (hq : ∀ h' t2, (∀ b o, b ≠ a → h.get? b = some o → h'.get? b = some o) → h'.get? a = some (PySem.HandSPX.excO C t2) → Q .none ⟨h', g, dr, t, os⟩) : wpAny (model prog w) A (call (.ref u) us) Q E ⟨h, g, dr, t, os⟩ := by
  obtain ⟨nm, q, N, bs, bm, sn, sub, ab, col, dd, k0, k1, k2, k3, k5, hC, hbm⟩ := T.cls
  refine wpAny_call (codeAny_of_tree ?_)
  show wpAny (model prog w) A.in1 (callAny (.ref u) { pos := us, kw := [] }) _ _ _
  simp only [callAny]
  refine wpAny_bind (wpAny_load hu ?_)
  simp only [PySem.W.kxs_mw, show ((Value.type "method-wrapper" == Value.type "method") || (Value.type "method-wrapper" == Value.type "builtin_function_or_method") || (Value.type "method-wrapper" == Value.type "method-wrapper")) = true by decide, if_true]
  refine PySem.W.KFB.if_so (by decide) ?_
  refine wpAny_bind (PySem.W.check_bound_init F.excBase_ValueError.toExcCallFacts (KX _ _ hC) ha rfl ?_)
  refine wpAny_bind (wpAny_pure (wpAny_pure ?_))
  refine ⟨plainId_quiet F.excBase_ValueError.init.plain _, codeAny_builtin F.excBase_ValueError.initEntry ?_⟩
  wp_walk
  refine hq _ h.objs.size (fun c oc nc gc => ?_) ?_
  · rw [Heap.get?_update_other _ _ fun e => nc e.symm]; exact Heap.get?_push_of_some _ gc
  · rw [Heap.get?_update_self _ (Heap.get?_push_of_some _ ha) rfl]; rfl
end
section
variable {X : Cx} {body : List Stmt}
def tSupE (K : PySem.W.Frag) (D : Addr) (ta : TA) : TS := fun B σ H => ∃ a C, σ[0]? = some (some (V.ref a)) ∧ H a = some (exo a C none) ∧ SupAtE K C D ∧
  ∀ q, H q = none → ta σ (upd H q (mwo q a)) fun vs H1 => vs.length ≤ 1000 ∧ H1 q = some (mwo q a) ∧ H1 a = some (exo a C none) ∧ B.nx σ H1
theorem mwo_ok {P : Program} {w : World} {H : Hp} {h : Heap} {u a : Addr} (hu : h.get? u = some (PySem.W.kxs_mw "ValueError.__init__" a)) : ObjOk P w H h u (mwo u a) := ⟨hu, ⟨_, hu⟩, fun h1 h2 z k => k _ z⟩
theorem mwo_at {P : Program} {w : World} {H : Hp} {h : Heap} {u a : Addr} (hok : HOk P w H h) (e : H u = some (mwo u a)) : h.get? u = some (PySem.W.kxs_mw "ValueError.__init__" a) := by
  have z : ObjOk P w H h u (.ext fun h => h.get? u = some (PySem.W.kxs_mw "ValueError.__init__" a)) := hok u _ e
  exact z.1
theorem pst_supE {f D cc cda : Addr} {self : Str} {e : Expr} {es : List Expr} {ta : TA} {p0 p1 apos pos spos : Pos} {pl : Sem Bool}
    (S : SupDef X.prog X.K X.mg f D cc cda self) (hfu : X.env.func = some f) (hco : X.env.code = .ref cda) (hks : X.env.kindOf "super" = some .globalImplicit) (hkc : X.env.kindOf "__class__" = some .free) (hcc : X.env.cells.lookup ("__class__" : Str) = some cc)
    (hN : X.N[0]? = some self) (hv : X.env.scope.names.lookup self = some .local) (ha : PA X (e :: es) ta)
    (hs : swapsWith (.Call (.Attribute (.Call (.Name "super" p0) [] [] p1) "__init__" apos) (e :: es) [] pos) none spos.line X.env = pure false := by rfl)
    (he0 : eval (.Call (.Attribute (.Call (.Name "super" p0) [] [] p1) "__init__" apos) (e :: es) [] pos) X.env = (do
      let ov ← attributeBase (.Call (.Name "super" p0) [] [] p1) "__init__" X.env (eval (.Call (.Name "super" p0) [] [] p1) X.env)
      standAt apos.atName
      let (f, first) ← holding [ov] (getMethod ov "__init__" pl)
      callWith pos f first (backTo pos (starEach (e :: es) X.env)) []) := by rfl)
    (he : starEach (e :: es) X.env = (false, eval e X.env) :: starEach es X.env := by rfl) (hpl : (backTo pos (starEach es X.env)).any (·.1) = false := by rfl) :
    PSt X body (.Expr (.Call (.Attribute (.Call (.Name "super" p0) [] [] p1) "__init__" apos) (e :: es) [] pos) spos) (tSupE X.K D ta) := by
  refine ⟨fun pins s σ H B I h => ?_⟩
  obtain ⟨a, C, hσ, hH, SA, q⟩ := h
  obtain ⟨oc, od, fd, osl, ar, lkf, hhead, har⟩ := S.fn
  obtain ⟨ccl, cdd, vs, ccs, file, tf, lkc, hvs, hfile⟩ := S.code
  obtain ⟨cl, cld, csl, lkcell⟩ := S.cell
  obtain ⟨cdD, hD⟩ := S.cls
  have KI := I.kIn
  obtain ⟨t1, hget⟩ := exo_at I.hok hH
  have IA : PySem.W.InstAt s.heap a _ C none := ⟨hget, rfl, rfl, trivial⟩
  obtain ⟨oD, hD1, hD2⟩ : ∃ oD, s.heap.get? D = some oD ∧ oD.data = .cls cdD := by
    unfold PySem.W.clsIn at hD
    split at hD
    · rename_i c d cd' sl ho
      cases hD
      exact ⟨_, KI _ _ ho, rfl⟩
    · cases hD
  obtain ⟨m, hns, hloc⟩ := I.loc
  obtain ⟨u, ru, lk⟩ := hloc 0 self (.ref a) hN hσ (.inl hv)
  cases ru
  have hself : m self = some (.ref a) := by
    rcases lk with ⟨_, z⟩ | ⟨z, _⟩
    · exact z
    · have z' : X.env.scope.names.lookup self = some .cell ∨ X.env.scope.names.lookup self = some .free := z
      rw [hv] at z'
      rcases z' with z' | z' <;> cases z'
  refine ks_wpAt_Expr_any ?_ I.quiet hs
  refine ks_wpAt_MethodCall ?_ he0
  refine ks_wpAt_super_base (env := X.env) hks hkc (by decide) hfu (KI _ _ lkf) rfl hhead hco (KI _ _ lkc) rfl hvs hfile S.top ?_
  obtain ⟨mb, hb1, hb2⟩ := I.mod.blt
  refine PySem.W.ks_loadName_global I.ok.kind hks (Calls.loadGlobal_builtin (by rw [I.ok.glob]; exact I.mod.glob.keeps I.bk) S.sup (by rw [I.ok.blt]; exact hb1.keeps I.bk) ((hb2 "super" (by decide)).trans (show bootBuiltins "super" = some (.type "super") by decide +kernel)) ⟨rfl, ?_⟩)
  refine wpAny_loadName_free I.ok.kind hkc hcc ⟨_, KI _ _ lkcell, rfl⟩ ?_
  rw [har]
  refine wpAny_loadName_local I.ok.kind hv hns hself ?_
  refine ks_wpAny_isType_cls hD1 hD2 ⟨rfl, ?_⟩
  obtain ⟨hp, g, dr, tk, os⟩ := s
  refine ks_wpAny_call_super hD1 hD2 IA.at_ IA.cls (fun c e => ?_) (PySem.W.looks_mroIn KI SA.sub) (fun h' e k => ?_)
  · have z := IA.no
    unfold PySem.W.notCls at z
    rw [e] at z
    exact Bool.noConfusion z
  have I1 : Inv X pins σ H ⟨h', g, dr, tk, os⟩ := I.kept (t' := tk) k
  have KI1 := I1.kIn
  obtain ⟨t2, hget2⟩ := exo_at I1.hok hH
  have IB : PySem.W.InstAt h' a _ C none := ⟨hget2, rfl, rfl, trivial⟩
  have hm := SA.m
  unfold PySem.W.ks_superIn at hm
  obtain ⟨cd, hc⟩ : ∃ cd, PySem.W.clsIn X.K C = some cd := by
    cases hc : PySem.W.clsIn X.K C with
    | none => rw [hc] at hm; cases hm
    | some cd => exact ⟨cd, rfl⟩
  rw [hc] at hm
  refine PySem.W.kxs_getMethod PySem.W.kxs_ValueError e (PySem.W.looks_opaque KI1 S.st) (l₀ := cd.mro) ?_ rfl KI1 hm (IB.type.andThen (PySem.W.looks_subIn KI1 SA.hB)) (PySem.W.ks_ne KI IA hc) (by decide) ?_
  · exact fun A Q E s k q => wpAny_bind ((PySem.W.looks_clsIn KI1 hc) A _ E s k (wpAny_pure q))
  have nq : H h'.objs.size = none := I1.hok.fresh (Nat.le_refl _)
  have hq0 : (h'.push (PySem.W.kxs_mw "ValueError.__init__" a)).get? h'.objs.size = some (PySem.W.kxs_mw "ValueError.__init__" a) := Heap.get?_push_at rfl rfl
  have I2 : Inv X pins σ (upd H h'.objs.size (mwo h'.objs.size a)) ⟨h'.push (PySem.W.kxs_mw "ValueError.__init__" a), g, dr, tk + 1, os⟩ :=
    I1.laid (t' := tk + 1) (a := h'.objs.size) (o := mwo h'.objs.size a) (h' := h'.push (PySem.W.kxs_mw "ValueError.__init__" a)) (fun b o e => Heap.get?_push_of_some _ e) (Nat.le_refl _) (mwo_ok hq0)
  have hq := q h'.objs.size nq
  generalize h'.objs.size = qa at *
  rw [he]
  refine PySem.W.kxs_callWith (i := "ValueError.__init__") (x := a) (by show (false || (backTo pos (starEach es X.env)).any (·.1)) = false; rw [hpl]; rfl) ?_
  refine PySem.Calls.evalArgs_plain ?_
  have hrun := ha.run pos pins _ σ _ _ I2 hq
  rw [he] at hrun
  refine thn hrun fun us s1 ⟨ws, H1, I3, r1, hlen, hqm, hqa, hsp⟩ => ?_
  have hmo := mwo_at I3.hok hqm
  refine ⟨hmo, ?_⟩
  obtain ⟨t3, hget3⟩ := exo_at I3.hok hqa
  have hus : us.length ≤ sizeLine := by
    rw [← Paired.length r1, sizeLine_eq]
    omega
  obtain ⟨hp3, g3, dr3, tk3, os3⟩ := s1
  refine call_mwE I3.kIn SA.oex hmo hget3 hus fun h4 t4 k4 e4 => ?_
  have J := I3.write (t' := tk3) (x := a) (e := a) (o := exo a C none) (by rw [hqa]; exact True.intro) (.inl rfl) k4 ⟨_, e4⟩ (exo_ok e4)
  have eu : upd H1 a (exo a C none) = H1 := by
    funext b
    by_cases hb : b = a
    · rw [hb, upd_same, hqa]
    · rw [upd_ne hb]
  rw [eu] at J
  exact ⟨σ, H1, J, hsp⟩
end
/-! ### several except clauses, each with a name -/
abbrev endA (i : Nat) (D : Ends) : Ends := { nx := fun τ G => D.nx (τ.set i none) G, rt := D.rt, bk := fun τ G => D.bk (τ.set i none) G, ct := fun τ G => D.ct (τ.set i none) G }
abbrev ClA : Type := Value × Nat × (Addr → Value → Option Addr → TS)
def wManyA (K : PySem.W.Frag) (Wo : WX) (D : Ends) : List ClA → WX
  | [] => Wo
  | (c, i, ts) :: r => fun cls d τ G => ∃ hit, PySem.W.exmOne K cls c = some hit ∧ (hit = true → ∀ a, G a = none → ts a cls d (endA i D) (τ.set i (some (.ref a))) G) ∧ (hit = false → wManyA K Wo D r cls d τ G)
inductive HdsA (X : Cx) : List ExceptHandler → List ClA → Prop
  | nil : HdsA X [] []
  | cons {x n : Str} {c : Value} {i : Nat} {ts : Addr → Value → Option Addr → TS} {b0 : Stmt} {sts : List Stmt} {np ps : Pos} {hds : List ExceptHandler} {l : List ClA} (hi : X.N[i]? = some n) (hln : X.env.kindOf n = some .local) (hc : Names X x c)
      (hsu : ∀ (a : Addr) (oe : Obj) (cls : Value) (d : Option Addr) (pn : List (Addr × Obj)), Zc cls d oe → (∃ vs, oe.data = .fields vs) → PSs (X.suite a ((a, oe) :: pn)) (b0 :: sts) (ts a cls d)) (r : HdsA X hds l) :
      HdsA X (.ExceptHandler (some (.Name x np)) (some n) (b0 :: sts) ps :: hds) ((c, i, ts) :: l)
section
variable {X : Cx} {body : List Stmt} {h0 : ExceptHandler} {hds : List ExceptHandler} {l : List ClA} {pos : Pos} {tb : WX → TS} {Wo : WX}
theorem ps_try_manyA (est : X.stack = X.env :: X.outer) (efr : X.env.frame = some X.env.locals) (hN : X.N.Nodup) (tk : Takes X Wo)
    (hbd : ∀ (W : WX) (pn : List (Addr × Obj)) (xe : Value → Shared → Prop), Takes (X.tr pn xe) W → PassesOwn (model X.prog X.w) X.A X.env xe → PSs (X.tr pn xe) body (tb W))
    (hh : HdsA X (h0 :: hds) l) : PS X (.Try body (h0 :: hds) [] [] pos) (fun D σ H => tb (wManyA X.K Wo D l) D σ H) := by
  refine ⟨fun pins s0 σ H D I h => ?_⟩
  have okX := I.ok
  have frX : X.A.frames = some (X.env :: X.outer) := by rw [okX.frames, est]
  refine wpAny_Try_except ?_
  refine wpAny_mono ((hbd (wManyA X.K Wo D l) (X.pn ++ pins) (fun e s₁ => wpAny (model X.prog X.w) X.A (noteFrame e X.env) (fun _ s₂ => wpAny (model X.prog X.w) X.A (setFlight e none) (fun _ s₃ =>
    wpAny (model X.prog X.w) X.A (handleBy e X.env (h0 :: hds)) (SP X pins D) X.xe s₃) X.xe s₂) X.xe s₁) (fun u sE xx => ?_) PassesOwn.looking).run [] s0 σ H D (I.toTry _) h) (fun f s1 spf => ?_) (fun e s1 q => q)
  · obtain ⟨a, B, sJ, pin2, τ, G, cls, d, rfl, JT, nb, up, sky, na, os, ag, w⟩ := xx
    have J : Inv X pins τ G sJ := JT.ofTry okX
    have skyX : Sky B (X.env :: X.outer) a (Zc cls d) X.env.locals sE.heap := by rw [← est]; exact sky
    show wpAny (model X.prog X.w) X.A (noteFrame (.ref a) X.env) _ _ _
    refine Sky.land Zc.steady frX efr skyX fun h3 w3 up3 => ?_
    have J3 : Inv X pins τ G { sE with heap := h3 } := J.landed nb w3.1 (up.trans up3) os ag
    obtain ⟨o3, vs3, ge3, gz3, gd3⟩ := w3.there
    have far : ∀ {h : Heap} {o : Obj} {vs : Array Value}, h.FunFrames B (X.env :: X.outer) → h.get? a = some o → o.data = .fields vs → a ∉ frs (X.env :: X.outer) := fun {h o vs} ff e dd hm => by
      obtain ⟨_, o2, e2, hne⟩ := ff.mem hm
      rw [e] at e2; cases e2; exact hne _ dd
    have nfX := far w3.2.2.1 ge3 gd3
    have nLX : a ≠ X.env.locals := fun z => nfX (List.mem_filterMap.mpr ⟨X.env, List.mem_cons_self, by rw [efr, z]⟩)
    have nFX : a ∉ X.fs := fun hm => by
      obtain ⟨e, hem, q⟩ := List.mem_filterMap.mp hm
      exact nfX (List.mem_filterMap.mpr ⟨e, List.mem_cons_of_mem _ hem, q⟩)
    have S3 := J3.suite ge3 gd3 na nLX nFX
    have go : ∀ {hs : List ExceptHandler} {cl : List ClA}, HdsA X hs cl → wManyA X.K Wo D cl cls d τ G → wpAny (model X.prog X.w) X.A (handleBy (.ref a) X.env hs) (SP X pins D) X.xe { sE with heap := h3 } := by
      intro hs cl hk
      induction hk with
      | nil =>
        intro w
        refine wpAny_handleBy_nil ?_
        obtain ⟨k1, k2, k3, oe, vs, TT, oT, tsT, heT, hzT, hdT, h1T, hrT⟩ := id w3
        unfold PySem.passOn
        refine wpAny_bind (wpAny_field heT hdT h1T ?_)
        rw [if_neg (show ¬ ((Value.ref TT == Value.none) = true) from by simp)]
        have thrown : wpAny (model X.prog X.w) X.A (setFlight (.ref a) X.env.frame) (fun _ s4 => wpAny (model X.prog X.w) X.A (throw (.ref a) : Sem Flow) (SP X pins D) X.xe s4) X.xe { sE with heap := h3 } := by
          rw [efr]
          refine HandSPX.setFlight_upZ w3 fun h4 hh4 up4 => wpAny_throw (tk _ _ ?_)
          exact ⟨a, B, sJ, pins, τ, G, cls, d, rfl, J, nb, (up.trans up3).trans up4, .inr (.inr (by rw [est]; exact hh4)), na, os, ag, w⟩
        first | exact wpAny_bind (wpAny_pure (wpAny_bind thrown)) | exact wpAny_bind thrown
      | @cons x n c i ts b0 sts np ps hds2 l2 hi hln hc hsu r ih =>
        intro w
        obtain ⟨hit, hb1, hyes, hno⟩ := w
        refine wpAny_handleBy_cons (codeAny_handlers_test ?_) (by intro q; cases q)
        have LT : PySem.W.Looks (model X.prog X.w) h3 (typeOf (.ref a)) cls := fun A Q E s k q => wpAny_typeOf_ref (k _ _ ge3) (by rw [gz3.1]; exact q)
        have LM := PySem.W.exm_one (M := model X.prog X.w) (J3.kIn) LT hb1
        have tst : ∀ {Q : Value → Shared → Prop} {E : Value → Shared → Prop}, Q c { sE with heap := h3 } → wpAny (model X.prog X.w) (X.A.mark (some (.ref a))) (eval (.Name x np) X.env) Q E { sE with heap := h3 } := fun {Q E} q => by
          obtain ⟨hg, hdbg, hm | ⟨hm, hv, hnn⟩⟩ := hc
          · exact ld_glob (X := X.suite a ((a, o3) :: (X.pn ++ pins))) S3 hg hm q hdbg
          · exact ld_blt (X := X.suite a ((a, o3) :: (X.pn ++ pins))) S3 hg hm hv q hnn hdbg
        refine tst (LM.here ?_)
        cases hit with
        | false =>
          show wpAny (model X.prog X.w) X.A (handleBy (.ref a) X.env hds2) _ _ _
          exact ih (hno rfl)
        | true =>
          refine codeAny_handlers_suite_as ?_
          refine HandSPX.lands_againZ w3 fun h4 w4 up4 => ?_
          have J4 : Inv X pins τ G { sE with heap := h4 } := J.landed nb w4.1 ((up.trans up3).trans up4) os ag
          obtain ⟨o4, vs4, ge4, gz4, gd4⟩ := w4.there
          have S4 := J4.suite ge4 gd4 na nLX nFX
          refine store_ok (X := X.suite a ((a, o4) :: (X.pn ++ pins))) (v := .ref a) S4 hN hi (.inl hln) rfl (fun s5 S5 => ?_) (.inr hln)
          refine wpAny_mono ((hsu a o4 cls d (X.pn ++ pins) gz4 ⟨_, gd4⟩).run [] s5 _ G _ S5 (hyes rfl a na)) (fun f s6 sp6 => ?_) (fun _ _ z => False.elim z)
          have fin : ∀ {σ6 : L2.St} {H6 : Hp} {Q : Shared → Prop}, Inv (X.suite a ((a, o4) :: (X.pn ++ pins))) [] σ6 H6 s6 → (∀ s7, Inv X pins (σ6.set i none) H6 s7 → Q s7) →
              wpAny (model X.prog X.w) X.A (do bindName X.env n .none; unbindBehindTheSuite X.env n ps) (fun _ s7 => Q s7) X.xe s6 := fun {σ6 H6 Q} S6 hq => gone_ok (S6.unsuite okX) hN hi hln hq
          cases f with
          | ret u =>
            obtain ⟨v6, σ6, H6, S6, r6, q6⟩ := sp6
            exact fin S6 fun s7 J7 => ⟨_, _, _, J7, r6, q6⟩
          | next => obtain ⟨σ6, H6, S6, q6⟩ := sp6; exact fin S6 fun s7 J7 => ⟨_, _, J7, q6⟩
          | brk => obtain ⟨σ6, H6, S6, q6⟩ := sp6; exact fin S6 fun s7 J7 => ⟨_, _, J7, q6⟩
          | cont => obtain ⟨σ6, H6, S6, q6⟩ := sp6; exact fin S6 fun s7 J7 => ⟨_, _, J7, q6⟩
    exact go hh w
  · cases f with
    | ret u =>
      obtain ⟨v, τ, G, JT, r, q⟩ := spf
      exact ⟨v, τ, G, JT.ofTry okX, r, q⟩
    | next => obtain ⟨τ, G, JT, q⟩ := spf; exact wpAny_execs_nil ⟨τ, G, JT.ofTry okX, q⟩
    | brk => obtain ⟨τ, G, JT, q⟩ := spf; exact ⟨τ, G, JT.ofTry okX, q⟩
    | cont => obtain ⟨τ, G, JT, q⟩ := spf; exact ⟨τ, G, JT.ofTry okX, q⟩
end
/-! ### keywords alone; wishes at the caller's slots -/
section
variable {X : Cx} {CX : CXT} {k : Nat} {f : Addr} {fd : FuncData} {ps ks : List Str} {sp : Sp} {E : L2.St → XK} {x : Str} {p pos : Pos} {kws : List Keyword} {tk : TA}
def tCallKS (sp : Sp) (gV : List V → List V → List V) (E : L2.St → XK) (tk : TA) : TE := fun σ H Q => tk σ H fun zs H2 => sp (gV [] zs) H2 Q (E σ)
theorem pe_callKS {g : List Value → List Value → List Value} {gV : List V → List V → List V} (Fn : FnOk X.prog X.w X.K X.mg X.base CX k f fd ps sp) (hr : Room k X.A) (hg : Gl X x) (hm : X.mg x = some (.ref f)) (hk : PySem.W.keepIn X.K (.ref f) = true) (hb : KBinds X.K fd ps ks g gV) (hx : ∀ σ, PassesAt CX X σ (E σ))
    (hkw : PK X kws tk) (hall : (backToKw pos (keywordEach kws X.env)).all (·.1.isSome) = true := by rfl) (hks : (backToKw pos (keywordEach kws X.env)).filterMap (·.1) = ks := by rfl) (hdb : (x == ("__debug__" : Str)) = false := by decide)
    (hpl : ((backTo pos (starEach [] X.env)).any (·.1) || (backToKw pos (keywordEach kws X.env)).any (·.1.isNone)) = false := by rfl) : PE X (.Call (.Name x p) [] kws pos) (tCallKS sp gV E tk) := by
  refine ⟨fun pins s σ H Q I h => ?_⟩
  refine wpAny_Call_Name_kw (ld_glob I hg hm ?_ hdb)
  refine PySem.W.callWith_KW0 (h₀ := X.base) I.ok.mod.kin hk hall ?_ hpl
  refine thn (hkw.run pos pins s σ H _ I h) fun ws s2 ⟨zs, H2, I2, rz, q2⟩ => ⟨I2.kIn, ?_⟩
  rw [hks]
  have r2 := hb.rel (vs := []) (us := []) .nil rz
  have hl : (g [] ws).length = ps.length := by rw [← r2.length]; exact Fn.len _ _ _ _ q2
  refine wpAny_call (codeAny_mono (Fn.run X.A X.stack s2 H2 ⟨[], ks.zip ws⟩ (g [] ws) (gV [] zs) Q (E σ) hr I2.env0 (hb.to s2 [] ws I2.kIn hl) r2 q2) fun r s' q3 => ?_)
  cases r with
  | ok fl => cases fl with
    | ret u => exact I2.after q3
    | next => exact False.elim q3
    | brk => exact False.elim q3
    | cont => exact False.elim q3
  | error e => exact hx σ pins H2 s2 e s' I2 q3
theorem pass0At {X : Cx} {E : L2.St → XK} : ∀ σ, PassesAt CX0 X σ (E σ) := fun _ _ _ _ _ _ _ h => h.elim
theorem k_callKS {gV : List V → List V → List V} {σ : L2.St} {H : Hp} {Q : VK} (h : tk σ H fun zs H2 => sp (gV [] zs) H2 Q (E σ)) : tCallKS sp gV E tk σ H Q := h
end
theorem exm_selfE {K : PySem.W.Frag} {S D : Addr} {hit : Bool} (h1 : PySem.W.subIn K (.ref D) (.type "BaseException") = some true) (h2 : PySem.W.isClsIn K D = true) (h3 : PySem.W.typeIn K (.ref D) = some (.type "type")) (h4 : PySem.W.subIn K (.ref S) (.ref D) = some hit) : PySem.W.exmOne K (.ref S) (.ref D) = some hit := by
  have a1 : (PySem.W.subIn K (.ref D) (.type "BaseException") == some true) = true := by rw [h1] <;> rfl
  have a2 : ((PySem.W.clsIn K D).isSome && PySem.W.typeIn K (.ref D) == some (.type "type")) = true := by
    have b2 : (PySem.W.clsIn K D).isSome = true := h2
    rw [b2, h3] <;> rfl
  show (if (PySem.W.subIn K (.ref D) (.type "BaseException") == some true) = true then (if ((PySem.W.clsIn K D).isSome && PySem.W.typeIn K (.ref D) == some (.type "type")) = true then PySem.W.subIn K (.ref S) (.ref D) else none) else none) = some hit
  rw [if_pos a1, if_pos a2]
  exact h4
/-! ### readings -/
section
variable {σ : L2.St} {H : Hp} {D : Ends} {K : PySem.W.Frag}
theorem k_supE {D0 a C : Addr} {ta : TA} {B : Ends} (h0 : σ[0]? = some (some (V.ref a))) (h1 : H a = some (exo a C none)) (h2 : SupAtE K C D0) (k : ∀ q, H q = none → ta σ (upd H q (mwo q a)) fun vs H1 => vs.length ≤ 1000 ∧ H1 q = some (mwo q a) ∧ H1 a = some (exo a C none) ∧ B.nx σ H1) : tSupE K D0 ta B σ H := ⟨a, C, h0, h1, h2, k⟩
theorem k_ost {f : Str} {to te : TE} (h : te σ H fun y H1 => to σ H1 fun x H2 => ∃ a C : Addr, x = .ref a ∧ OexC K C ∧ PySem.W.findIn K (.ref C) f = some none ∧
  ((H2 a = some (exo a C none) ∧ ∀ dx, H2 dx = none → dx ≠ a → D.nx σ (upd (upd H2 dx (exd dx [(f, y)])) a (exo a C (some dx)))) ∨
    ∃ (dx : Addr) (fs : List (Str × V)), H2 a = some (exo a C (some dx)) ∧ H2 dx = some (exd dx fs) ∧ fs.length ≤ 900 ∧ D.nx σ (upd H2 dx (exd dx ((f, y) :: fs))))) : tOst K f to te D σ H := h
theorem k_callS {sp : Sp} {E : L2.St → XK} {t : TA} {Q : VK} (h : t σ H fun vs H1 => sp vs H1 Q (E σ)) : tCallS sp E t σ H Q := h
end
end Kit

namespace Law
open PySem PySem.Spec PyProof.Rows L2 Kit
local macro_rules | `(tactic| walk_at "kb") => `(tactic| first | exact kb_int_int | exact kb_int_bool | exact kb_int_str | exact kb_int_list | exact kb_int_tuple | exact kb_int_dict | exact kb_bool_int | exact kb_bool_bool | exact kb_bool_str | exact kb_bool_list | exact kb_bool_tuple | exact kb_bool_dict | exact kb_str_int | exact kb_str_bool | exact kb_str_str | exact kb_str_list | exact kb_str_tuple | exact kb_str_dict | exact kb_NoneType_int | exact kb_NoneType_bool | exact kb_NoneType_str | exact kb_NoneType_list | exact kb_NoneType_tuple | exact kb_NoneType_dict | exact kb_list_int | exact kb_list_bool | exact kb_list_str | exact kb_list_list | exact kb_list_tuple | exact kb_list_dict | exact kb_tuple_int | exact kb_tuple_bool | exact kb_tuple_str | exact kb_tuple_list | exact kb_tuple_tuple | exact kb_tuple_dict | exact kb_dict_int | exact kb_dict_bool | exact kb_dict_str | exact kb_dict_list | exact kb_dict_tuple | exact kb_dict_dict)
local macro_rules | `(tactic| walk_at "size") => `(tactic| first | assumption | (show (_ : Nat) ≤ sizeLine; exact small_size (by first | decide | omega | (simp; omega))) | (show (_ : Nat) < sizeLine; exact small_lt (by first | decide | omega | (simp; omega))))
local macro_rules | `(tactic| walk_at "here") => `(tactic| first | assumption | exact upd_same | (refine up_get (by assumption) ?_; walk_at "here") | (refine Eq.trans (upd_ne (by assumption)) ?_; walk_at "here"))
local macro_rules | `(tactic| walk_at "same") => `(tactic| first | assumption | exact Same.refl _ | exact same_new (by assumption) | (refine Same.trans ?_ (same_new (by assumption)); walk_at "same") | (refine Same.trans ?_ (by assumption); walk_at "same"))
local macro_rules | `(tactic| walk_at "none") => `(tactic| first | assumption | (refine Eq.trans (upd_ne ?_) ?_ <;> first | assumption | walk_at "none"))
local macro_rules | `(tactic| walk_at "ty") => `(tactic| first | exact TyX.base (.int _) | exact TyX.base (.str _) | exact TyX.base .non | exact TyX.base (.bl _) | exact TyX.base (.tup (by walk_at "here")) | exact TyX.base (.lst (by walk_at "here")) | exact TyX.base (.dK (by walk_at "here")))
local macro_rules | `(tactic| walk_at "s") => `(tactic| first
  | (with_reducible refine k_seq ?_) | (with_reducible refine k_op ?_)
  | ((with_reducible show tVar _ _ _ _); refine k_var rfl ?_)
  | (with_reducible refine k_c ?_) | (with_reducible refine k_cons ?_) | (with_reducible refine k_nil ?_)
  | (with_reducible refine k_asg ?_) | (with_reducible refine k_gName ?_) | (with_reducible refine k_drop ?_) | (with_reducible refine k_ret ?_)
  | (with_reducible refine k_ifS ?_) | (with_reducible refine k_test ?_) | (with_reducible refine k_bl ?_) | (with_reducible refine k_CB ?_) | (with_reducible refine k_call ?_)
  | (with_reducible refine k_addI ?_) | (with_reducible refine k_I0 ?_) | (with_reducible refine k_eqI ?_) | (with_reducible refine k_neI ?_)
  | ((with_reducible show rI _ _ _ _ _ _); (refine k_I ?c ?_; (case c => first | decide | omega | (show (0 : Int) < _ ∧ _; omega) | (show (0 : Int) ≤ _ ∧ _; omega) | (show (_ ∧ _) ∨ _; omega) | assumption)))
  | (with_reducible refine k_U ?_) | (with_reducible refine k_int1 ?_) | (with_reducible refine k_max2 ?_) | (with_reducible refine k_min2 ?_)
  | (with_reducible refine k_t ?_) | (with_reducible refine k_t' ?_) | (with_reducible refine k_f' ?_) | (with_reducible refine k_o1 ?_) | (with_reducible refine k_o2 ?_) | (with_reducible refine k_o3 ?_) | (with_reducible refine k_o4 ?_) | (with_reducible refine k_o5 ?_) | (with_reducible refine k_o6 ?_) | (with_reducible refine k_chain ?_) | (with_reducible refine k_f ?_)
  | (with_reducible refine k_and ?_) | (with_reducible refine k_or ?_) | (with_reducible refine k_not ?_) | (with_reducible refine k_if ?_) | (with_reducible refine k_B ?_)
  | (with_reducible refine k_andV ?_) | (with_reducible refine k_orV ?_) | (with_reducible refine k_notV ?_) | (with_reducible refine k_un ?_)
  | (with_reducible refine k_gSub ?_) | (with_reducible refine k_par ?_) | (with_reducible refine k_pair ?_) | (with_reducible refine k_sl ?_) | (with_reducible refine k_noPart ?_) | (with_reducible refine k_part ?_) | (with_reducible refine k_int ?_)
  | (with_reducible refine k_fld ?_) | (with_reducible refine k_putF ?_) | ((with_reducible show (_ ≤ sizeLine) ∧ _); refine k_disp (Nat.le_of_ble_eq_true rfl) ?_) | (with_reducible refine k_jsCons ?_) | (with_reducible refine k_jsNil ?_) | (with_reducible refine k_fmt ?_) | (with_reducible refine k_gCons ?_) | (with_reducible refine k_gNil ?_) | (with_reducible refine k_iEnum ?_) | (with_reducible refine k_joinC ?_) | ((with_reducible show gTup _ _ _ (V.ref _) _ _ _); refine' k_gTup (SqT.of ?h) ?hl ?_; (case h => walk_at "here"); (case hl => rfl)) | (with_reducible refine k_for ?_) | (with_reducible refine k_iList ?_) | (with_reducible refine k_iTup ?_) | (with_reducible refine k_rng1 ?_) | (with_reducible refine k_rng2 ?_) | (with_reducible refine k_lc ?_) | (with_reducible refine k_yes ?_) | (with_reducible refine k_next ?_) | (with_reducible refine k_break ?_) | (with_reducible refine k_cont ?_) | (with_reducible refine k_retN ?_)
  | ((with_reducible show tTup _ _ _ _); refine k_tup ?_) | ((with_reducible show tLst _ _ _ _); refine k_lst ?_)
  | ((with_reducible show rLenU _ [V.ref _] _ _); (first | (refine' k_lenL (SqL.of ?h) ?_; (case h => walk_at "here")) | (refine' k_lenL ?h ?_; (case h => assumption)) | (refine' k_lenT (SqT.of ?h) ?_; (case h => walk_at "here"))))
  | ((with_reducible show rIsi _ [_, V.ty _] _ _); (refine' k_isi ?t ?h ?_; (case t => walk_at "ty"); (case h => walk_at "kb")))
  | ((with_reducible show rIsiT _ [_, V.ref _] _ _); (refine' k_isiT ?p ?t ?h1 ?h2 ?_; (case p => walk_at "here"); (case t => walk_at "ty"); (case h1 => walk_at "kb"); (case h2 => walk_at "kb")))
  | ((with_reducible show rIx _ (V.ref _) (V.int _) _ _); (first | (refine' k_ixL (SqL.of ?h) ?a ?_; (case h => walk_at "here"); (case a => first | rfl | assumption)) | (refine' k_ixT (SqT.of ?h) ?a ?_; (case h => walk_at "here"); (case a => first | rfl | assumption))))
  | ((with_reducible show rSetL (V.ref _) (V.int _) _ (upd _ _ (HO.lst _)) _); (refine' k_setLu ?e ?ey ?_; (case e => rfl); (case ey => rfl)))
  | ((with_reducible show rSetL (V.ref _) (V.int _) _ _ _); (refine' k_setL ?h ?e ?_; (case h => walk_at "here"); (case e => first | rfl | assumption))))
local macro_rules | `(tactic| walk_at "ss") => `(tactic| (repeat walk_at "s"))
/-! ### a lambda handed to a def that calls it within a try, wishes at the slots of that call -/
section
open LamX
variable {X : Cx} {σ : L2.St} {H : Hp} {s : Shared} {pins : List (Addr × Obj)}
theorem pe_actA {Wc : CXT} {Ec : XK} {Nc : List Str} {qc : Str} {sc : Scope} {gc lf lc : Addr} {cdc pmv ctx : Value} {prm : Arguments} {bod : Expr} {lsc : Scope} {lev j : Nat} {nm : Str} {pns : List (Addr × Obj)} {xw : Value → Shared → Prop} {W : WX} {tb : XK → TE} {r1 r2 : Pos}
    (J : Inv X pins σ H s) (LS : LamS X.env.scope lsc) (atf : s.heap.get? lf = some (PySem.W.kla_obj "<lambda>" (X.env.qual ++ "<lambda>") prm bod lsc (cloFrom X.env.cells lsc.names []) pmv lc ctx)) (nof : H lf = none) (frf : lf ∉ frs X.stack)
    (bnd : bindArgs (PySem.W.kla_fn "<lambda>" (X.env.qual ++ "<lambda>") prm bod lsc (cloFrom X.env.cells lsc.names []) pmv (.ref lc) ctx) ⟨[], []⟩ = pure [])
    (tk : Takes ((cxOf Wc X.prog X.w X.K X.mg X.base Nc qc sc gc cdc X.A X.stack s H Ec).tr pns xw) W) (rm : Room (lev + 1) (X.A.deeper (envOfC qc sc s.heap.objs.size gc cdc)))
    (bok : ∀ (A : Around) (outer : List Env) (s' : Shared) (H' : Hp) (E : XK), Room lev (A.deeper (lamEnv X lsc s'.heap.objs.size lf lc)) → PE (lamCx X A outer s' H' E lsc lf lc) bod (tb E))
    (hN : Nc[j]? = some nm) (vis : Vis sc nm) (nd1 : (nm == ("__debug__" : Str)) = false := by decide) (nd2 : (nm == ("__classdict__" : Str)) = false := by decide) :
    PE ((cxOf Wc X.prog X.w X.K X.mg X.base Nc qc sc gc cdc X.A X.stack s H Ec).tr pns xw) (.Call (.Name nm r1) [] [] r2)
      (fun τ G Qz => τ[j]? = some (some (.ref lf)) ∧ G lc = some (CodeO lc (X.env.qual ++ "<lambda>")) ∧ tb (WE W τ) σ G Qz) := by
  refine ⟨fun pz z τ G Qz Iz hz => ?_⟩
  obtain ⟨hsl, hco, hrd⟩ := hz
  have hname := (pe_var (pos := r1) (i := j) hN vis nd1 nd2).run pz z τ G (fun v G1 => v = .ref lf ∧ G1 = G) Iz ⟨.ref lf, hsl, rfl, rfl⟩
  refine wpAny_Call_Name_kw (thn hname fun uv z1 ⟨v, G1, I1, rl, ev, eG⟩ => ?_)
  subst ev
  rw [eG] at I1
  obtain rfl : uv = Value.ref lf := rl
  have old : z1.heap.get? lf = some (PySem.W.kla_obj "<lambda>" (X.env.qual ++ "<lambda>") prm bod lsc (cloFrom X.env.cells lsc.names []) pmv lc ctx) := by
    refine I1.base.keep lf _ atf nof frf ?_
    intro zz
    exact nomatch (show lf ∈ ([] : List Addr) from zz)
  refine PySem.W.callWith_F0 ⟨_, _, _, _, old⟩ ?_
  have un : Un (frs X.stack) [] H G s.heap z1.heap := I1.base
  obtain ⟨⟨oc, fs, tkn, hoc, hdc, hvc⟩, _⟩ := I1.hok lc _ hco
  have go : codeAny (model X.prog X.w) (X.A.deeper (envOfC qc sc s.heap.objs.size gc cdc)) (.call (.ref lf) ⟨[], []⟩) (CR (L2.CX X.prog X.w) (envOfC qc sc s.heap.objs.size gc cdc :: X.stack) X.prog X.w G z1 Qz (WE W τ)) z1 := by
    refine PySem.W.kla_callFunE rm.depth old rfl LS.co LS.gen rfl ⟨lc, oc, fs, tkn, rfl, hoc, hdc, hvc⟩ ?_
    rw [bnd]
    refine wpAny_pure (wpAny_newFunctionEnv (fun y hy => (LS.own y hy).2) (fun y hy => absurd hy (by simp)) (fun h2 ns2 sb2 => ⟨I1.nolimit.fresh _ sb2, ?_⟩) LS.kind)
    show codeAny _ _ (.expr bod (lamEnv X lsc z1.heap.objs.size lf lc)) _ _
    have kept : ∀ b o, z1.heap.get? b = some o → h2.get? b = some o := by
      intro b o e
      exact sb2.extBut b o (Nat.ne_of_lt (Heap.lt_size e)) (Heap.get?_push_of_some _ e)
    have I2 : Inv (lamCx X (X.A.deeper (envOfC qc sc s.heap.objs.size gc cdc)) (envOfC qc sc s.heap.objs.size gc cdc :: X.stack) z1 G (WE W τ) lsc lf lc) [] σ G { z1 with heap := h2, toks := z1.toks + ([] : List (Str × Value)).length } :=
      lam_start2 J LS I1.env0 rm.hd un ns2 kept
    refine PySem.W.kla_codeExpr (wpAny_mono ((bok _ _ z1 G (WE W τ) (rm.deeper _)).run [] _ _ G Qz I2 hrd) (fun v s' hq => ?_) fun e s' hq => hq)
    obtain ⟨w2, G2, I3, rv, q⟩ := hq
    exact ⟨w2, G2, I3.os, I3.bare, I3.base, I3.hok, rv, q⟩
  refine wpAny_call (codeAny_mono go fun res s' hq => ?_)
  cases res with
  | error er => exact passAt tk τ pz G z1 er s' I1 hq
  | ok fl =>
    cases fl with
    | ret u => exact I1.after hq
    | next => exact False.elim hq
    | brk => exact False.elim hq
    | cont => exact False.elim hq
/-- what the def at g makes of the reading of the lambda that it is handed -/
def GivesA (X : Cx) (Nc : List Str) (x : Str) (sc : Scope) (g : Addr) (cdg : Value) (bg : List Stmt) (a q : Str) (TT : (XK → Hp → VK → Prop) → Hp → VK → Prop) : Prop :=
  ∀ (lf lc : Addr) (s : Shared) (H : Hp) (Q : VK) (tl : XK → Hp → VK → Prop),
    (∀ (W : WX) (pn : List (Addr × Obj)) (xe : Value → Shared → Prop) (r1 r2 : Pos), Takes ((cxOf CX0 X.prog X.w X.K X.mg X.base Nc x sc g cdg X.A X.stack s H E0).tr pn xe) W →
      PE ((cxOf CX0 X.prog X.w X.K X.mg X.base Nc x sc g cdg X.A X.stack s H E0).tr pn xe) (.Call (.Name a r1) [] [] r2) (fun τ G Qz => τ[0]? = some (some (.ref lf)) ∧ G lc = some (CodeO lc q) ∧ tl (WE W τ) G Qz)) →
    H lc = some (CodeO lc q) → TT tl H Q →
    ∃ t, PSs (cxOf CX0 X.prog X.w X.K X.mg X.base Nc x sc g cdg X.A X.stack s H E0).nox bg t ∧ t { nx := fun _ H' => Q .non H', rt := Q } (L2.start Nc [.ref lf]) H
/-- x(lambda: e) -/
theorem pe_lamA {T : List (Addr × Str)} {TT : (XK → Hp → VK → Prop) → Hp → VK → Prop} {x a : Str} {g c P : Addr} {k : Nat} {pg : Arguments} {bg : List Stmt} {sc : Scope} {dV kV doc pm cdv ct oc : Value} {an od : Option Addr} {osl : Array (Option Value)} {Nc : List Str}
    {prm : Arguments} {bod : Expr} {lsc : Scope} {t : XK → TE} {p lpos pos : Pos} (hg : Gl X x) (hm : X.mg x = some (.ref g)) (hk : PySem.W.keepIn X.K (.ref g) = true)
    (lk : X.K.lookup g = some ⟨oc, od, .func (PySem.W.fnOf x x pg bg sc dV kV doc pm an cdv ct), osl⟩) (hcg : PySem.W.codeIn X.K cdv x = true) (hb : L2.Binds X.K (PySem.W.fnOf x x pg bg sc dV kV doc pm an cdv ct) [a] []) (Sg : FnScope Nc [a] sc) (hNg : Nc[0]? = some a) (vis : Vis sc a)
    (hG : GivesA X Nc x sc g cdv bg a (X.env.qual ++ "<lambda>") TT) (TB : TabB X.base X.mg c P) (hcode : X.env.code = .ref c) (hmT : (P, X.env.qual ++ "<lambda>") ∈ T) (hu : ∀ p ∈ T, p.1 = P → p.2 = X.env.qual ++ "<lambda>") (hr : Room (k + 2) X.A) (LS : LamS X.env.scope lsc)
    (hbody : ∀ (A : Around) (outer : List Env) (s : Shared) (H : Hp) (E : XK) (lf lc : Addr), Room k (A.deeper (lamEnv X lsc s.heap.objs.size lf lc)) → PE (lamCx X A outer s H E lsc lf lc) bod (t E))
    (hdef : defaultsOf prm X.env = ([], []) := by rfl) (hbind : ∀ (q : Str) (cl : List (Str × Addr)) (pm cv ctv : Value), bindArgs (PySem.W.kla_fn "<lambda>" q prm bod lsc cl pm cv ctv) ⟨[], []⟩ = pure [] := by intros; rfl)
    (hdb : (x == ("__debug__" : Str)) = false := by decide) (nd1 : (a == ("__debug__" : Str)) = false := by decide) (nd2 : (a == ("__classdict__" : Str)) = false := by decide) :
    PE X (.Call (.Name x p) [.Lambda prm bod lsc lpos] [] pos) (tLam T TT t) := by
  refine ⟨fun pins s σ H Q I hh => ?_⟩
  obtain ⟨hT, hh⟩ := hh
  refine wpAny_Call_Name_kw (ld_glob I hg hm ?_ hdb)
  refine PySem.W.callWith_K (h₀ := X.base) I.ok.mod.kin hk ?_ (by rfl) (by rfl)
  show wpAny _ _ (spliced ((false, eval (.Lambda prm bod lsc lpos) X.env) :: backTo pos (starEach [] X.env))) _ _ s
  refine Calls.spliced_cons (lam_make2 I TB hcode hmT hu hT hdef (LS.has I.ok) fun lf lc pm2 ctv H1 s2 I1 eN T1 atf nof frf hco => ?_)
  refine Calls.spliced_nil ⟨I1.kIn, ?_⟩
  have go : codeAny (model X.prog X.w) X.A (.call (.ref g) ⟨[.ref lf], []⟩) (CR CX0 X.stack X.prog X.w H1 s2 Q E0) s2 := by
    refine run_ofS (N := Nc) (ps := [a]) (us := [.ref lf]) (vs := [.ref lf]) lk hcg Sg hr I1.env0 (hb s2 [.ref lf] I1.kIn rfl) (.cons rfl .nil) rfl fun hr2 => ?_
    obtain ⟨tt, ht, hq⟩ := hG lf lc s2 H1 Q (fun E G Qz => t E σ G Qz) (fun W pn xe r1 r2 tk => pe_actA (j := 0) I1 LS atf nof frf (hbind _ _ _ _ _) tk hr2 (fun A outer s3 H3 E hr3 => hbody A outer s3 H3 E lf lc hr3) hNg vis nd1 nd2) hco (hh H1 eN T1)
    exact ⟨tt, ht.nox, hq⟩
  refine wpAny_call (codeAny_mono go fun res s3 hq => ?_)
  cases res with
  | error er => exact False.elim (show False from hq)
  | ok fl =>
    cases fl with
    | ret u => exact I1.after hq
    | next => exact False.elim hq
    | brk => exact False.elim hq
    | cont => exact False.elim hq
/-- nothing is let out: the callee's own wish is empty -/
theorem passE {X : Cx} {P : Program} {w : World} : Passes (L2.CX P w) X E0 := fun _ _ _ _ _ _ _ h => by
  obtain ⟨_, _, _, _, _, _, _, _, _, _, _, _, z⟩ := h
  exact z.elim
theorem passEAt {X : Cx} {P : Program} {w : World} : ∀ σ : L2.St, PassesAt (L2.CX P w) X σ E0 := fun _ _ _ _ _ _ _ h => by
  obtain ⟨_, _, _, _, _, _, _, _, _, _, _, _, z⟩ := h
  exact z.elim
/-- a def whose code object is told (it makes a lambda) -/
structure FunL (K : PySem.W.Frag) (x qual : Str) (st : Stmt) (f : Addr) (fd : FuncData) (cda : Addr) : Prop where
  ex : ∃ (oc : Value) (od : Option Addr) (kV doc pm : Value) (an : Option Addr) (ct : Value) (osl : Array (Option Value)),
    fd = PySem.W.fnOf x qual (defArgs st) (defBody st) (defScope st) .none kV doc pm an (.ref cda) ct ∧ K.lookup f = some ⟨oc, od, .func fd, osl⟩ ∧ PySem.W.codeIn K (.ref cda) qual = true
  kp : PySem.W.keepIn K (.ref f) = true
theorem funL_mk {K : PySem.W.Frag} {x qual : Str} {st : Stmt} {f cda : Addr} {oc : Value} {od an : Option Addr} {osl : Array (Option Value)} {kV doc pm ct : Value} (l : K.lookup f = some ⟨oc, od, .func (PySem.W.fnOf x qual (defArgs st) (defBody st) (defScope st) .none kV doc pm an (.ref cda) ct), osl⟩)
    (c : PySem.W.codeIn K (.ref cda) qual = true) (k : PySem.W.keepIn K (.ref f) = true) : FunL K x qual st f (PySem.W.fnOf x qual (defArgs st) (defBody st) (defScope st) .none kV doc pm an (.ref cda) ct) cda := ⟨⟨oc, od, kV, doc, pm, an, ct, osl, rfl, l, c⟩, k⟩
theorem FunL.fn {K : PySem.W.Frag} {x qual : Str} {st : Stmt} {f cda : Addr} {fd : FuncData} (F : FunL K x qual st f fd cda) : Fun K x qual st f fd := by
  obtain ⟨⟨oc, od, kV, doc, pm, an, ct, osl, e, lk, hcd⟩, kp⟩ := F
  exact ⟨⟨oc, od, kV, doc, pm, an, .ref cda, ct, osl, e, lk, hcd⟩, kp⟩
theorem FunL.ok {P : Program} {w : World} {K : PySem.W.Frag} {mg : Str → Option Value} {base : Heap} {x qual : Str} {st : Stmt} {f cda : Addr} {fd : FuncData} {N ps : List Str} {k : Nat} {sp : Sp} (F : FunL K x qual st f fd cda) (S : FnScope N ps (defScope st)) (len : ∀ vs H Q E, sp vs H Q E → vs.length = ps.length)
    (hbody : ∀ (A : Around) (outer : List Env) (s : Shared) (H : Hp) (vs : List V) (Q : VK) (E : XK), Room k (A.deeper (envOfC qual (defScope st) s.heap.objs.size f (.ref cda))) → sp vs H Q E →
      ∃ t, PSs (cxOf CX0 P w K mg base N qual (defScope st) f (.ref cda) A outer s H E).nox (defBody st) t ∧ t { nx := fun _ H' => Q .non H', rt := Q } (L2.start N vs) H) : FnOk P w K mg base CX0 (k + 1) f fd ps sp := by
  obtain ⟨oc, od, kV, doc, pm, an, ct, osl, rfl, lk, hcd⟩ := F.ex
  refine fn_of lk hcd S len fun A outer s H vs Q E hr hsp => ?_
  obtain ⟨t, hh, q⟩ := hbody A outer s H vs Q E hr hsp
  exact ⟨t, hh.nox, q⟩
/-- the reading of x(lambda: e) -/
theorem k_lam {T : List (Addr × Str)} {TT : (XK → Hp → VK → Prop) → Hp → VK → Prop} {t : XK → TE} {σ : L2.St} {H : Hp} {Q : VK} (h0 : Tabs T H) (h : ∀ H1, ExtN H H1 → Tabs T H1 → TT (fun E H' Q' => t E σ H' Q') H1 Q) : tLam T TT t σ H Q := ⟨h0, h⟩
end
/-! ### C(k = v, ..), keywords alone -/
def tMakeKS (C : Addr) (sp : Sp) (gV : List V → List V → List V) (E : L2.St → XK) (tk : TA) : TE := fun σ H Q => tk σ H fun zs H2 => ∀ x dx, H2 x = none → H2 dx = none → dx ≠ x →
  sp (gV [.ref x] zs) (upd (upd H2 dx (.own x)) x (.ins C dx [])) (fun v H3 => v = .non ∧ Q (.ref x) H3) (E σ)
theorem pe_makeKS {X : Cx} {CX : CXT} {k : Nat} {f C : Addr} {fd : FuncData} {ps ks : List Str} {sp : Sp} {E : L2.St → XK} {x : Str} {p pos : Pos} {kws : List Keyword} {tk : TA} {g : List Value → List Value → List Value} {gV : List V → List V → List V} (M : Mk X.K C f) (Fn : FnOk X.prog X.w X.K X.mg X.base CX k f fd ps sp) (hr : Room (k + 1) X.A)
    (hg : Gl X x) (hm : X.mg x = some (.ref C)) (hb : KBinds X.K fd ps ks g gV) (hx : ∀ σ, PassesAt CX X σ (E σ)) (hkw : PK X kws tk) (hall : (backToKw pos (keywordEach kws X.env)).all (·.1.isSome) = true := by rfl)
    (hks : (backToKw pos (keywordEach kws X.env)).filterMap (·.1) = ks := by rfl) (hdb : (x == ("__debug__" : Str)) = false := by decide) (hpl : ((backTo pos (starEach [] X.env)).any (·.1) || (backToKw pos (keywordEach kws X.env)).any (·.1.isNone)) = false := by rfl) :
    PE X (.Call (.Name x p) [] kws pos) (tMakeKS C sp gV E tk) := by
  refine ⟨fun pins s σ H Q I hh => ?_⟩
  refine wpAny_Call_Name_kw (ld_glob I hg hm ?_ hdb)
  refine PySem.W.callWith_KW0 (h₀ := X.base) I.ok.mod.kin M.kp hall ?_ hpl
  refine thn (hkw.run pos pins s σ H _ I hh) fun ws s2 ⟨zs, H2, I2, rz, q2⟩ => ⟨I2.kIn, ?_⟩
  rw [hks]
  have hq := q2 (s2.heap.objs.size + 1) s2.heap.objs.size (I2.hok.fresh (Nat.le_succ _)) (I2.hok.fresh (Nat.le_refl _)) (Nat.ne_of_lt (Nat.lt_succ_self _))
  have I3 := Inv.made (C := C) I2
  have r2 := hb.rel (vs := [.ref (s2.heap.objs.size + 1)]) (us := [.ref (s2.heap.objs.size + 1)]) (.cons rfl .nil) rz
  have hl : (g [.ref (s2.heap.objs.size + 1)] ws).length = ps.length := by rw [← r2.length]; exact Fn.len _ _ _ _ hq
  refine wpAny_call (make_map (f := f) I2.kIn M.makes M.init (beq_iff_eq.mp M.fn) (codeAny_mono (Fn.run _ X.stack _ _ ⟨[Value.ref (s2.heap.objs.size + 1)], ks.zip ws⟩ (g [.ref (s2.heap.objs.size + 1)] ws) _ _ (E σ) (hr.make C [] (ks.zip ws))
    (I3.env0.make C [] (ks.zip ws)) (hb.to _ [.ref (s2.heap.objs.size + 1)] ws I3.kIn hl) r2 hq) fun res s' fin => ?_))
  cases res with
  | error er => exact hx σ pins _ _ er s' I3 fin
  | ok fl =>
    cases fl with
    | ret u =>
      obtain ⟨v, H', I4, rv, ev, q3⟩ := I3.after fin
      subst ev
      exact ⟨rv, ⟨V.ref (s2.heap.objs.size + 1), H', I4, rfl, q3⟩⟩
    | next => exact False.elim fin
    | brk => exact False.elim fin
    | cont => exact False.elim fin
theorem k_makeKS {C : Addr} {sp : Sp} {gV : List V → List V → List V} {E : L2.St → XK} {tk : TA} {σ : L2.St} {H : Hp} {Q : VK} (h : tk σ H fun zs H2 => ∀ x dx, H2 x = none → H2 dx = none → dx ≠ x → sp (gV [.ref x] zs) (upd (upd H2 dx (.own x)) x (.ins C dx [])) (fun v H3 => v = .non ∧ Q (.ref x) H3) (E σ)) : tMakeKS C sp gV E tk σ H Q := h

/-! ### str(o) and o == y by the class's own methods -/
section
open PySem.W
variable {X : Cx} {CX : CXT} {k : Nat} {C g : Addr} {fd : FuncData} {ps : List Str} {sp : Sp}
def rStrO (C : Addr) (sp : Sp) : List V → Hp → VK → Prop := fun vs H Q => ∃ (a dx : Addr) (fs : List (Str × V)), vs = [.ref a] ∧ H a = some (.ins C dx fs) ∧ sp [.ref a] H (fun v H' => ∃ z : Str, v = .str z ∧ Q (.str z) H') E0
theorem cr_strO (hs : PySem.W.findIn X.K (.ref C) "__str__" = some (some (.ref g))) (hf : PySem.W.isFn X.K (.ref g) = true) (Fn : FnOk X.prog X.w X.K X.mg X.base CX k g fd ps sp) (room : Room (k + 2) X.A) (bs : Binds X.K fd ps []) (px : Passes CX X.nox E0) : CallR X (.type "str") (rStrO C sp) := by
  intro pins st σ H xs us Q I rs hh
  obtain ⟨a, dx, fs, rfl, ea, go⟩ := hh
  rw [Vals.ref1 rs]
  obtain ⟨mA, O, _, _, _, _⟩ := ins_get I.hok ea
  obtain ⟨od, J, _⟩ := O.look
  have many : ([Value.ref a] ++ []).length = ps.length := by
    rw [← Fn.len _ _ _ _ go]
    rfl
  have r2 : Room k X.A.in1.in1 := room.in1.in1
  refine kso_call r2.units0 I.kIn J hs hf (wpAny_call ?_)
  refine codeAny_mono (Fn.run X.A.in1.in1 X.stack st H ⟨[.ref a], []⟩ [.ref a] [.ref a] _ E0 r2 I.env0.in1.in1 (bs _ [.ref a] I.kIn many) (.cons rfl .nil) go) fun r s' fin => ?_
  cases r with
  | error er => exact False.elim (px pins σ H st er s' (I.wish _) fin)
  | ok fl =>
    cases fl with
    | ret u =>
      obtain ⟨v, H2, J2, rv, z, rfl, q⟩ := I.after fin
      obtain ⟨t, rfl⟩ := (show ∃ t, u = Value.str z t from rv)
      exact ⟨.str z, H2, J2, ⟨t, rfl⟩, q⟩
    | next => exact False.elim fin
    | brk => exact False.elim fin
    | cont => exact False.elim fin
/-- y is of no class that would be asked first -/
inductive Ysd (K : PySem.W.Frag) (C : Addr) (H : Hp) : V → Prop where
  | str (z : Str) (h : PySem.W.notFirst K C (.type "str") = true) : Ysd K C H (.str z)
  | int (i : Int) (h : PySem.W.notFirst K C (.type "int") = true) : Ysd K C H (.int i)
  | ins {b D dy : Addr} {gs : List (Str × V)} (e : H b = some (.ins D dy gs)) (h : PySem.W.notFirst K C (.ref D) = true) : Ysd K C H (.ref b)
def rEqO (K : PySem.W.Frag) (C : Addr) (sp : Sp) : R2 := fun x y H Q => ∃ (a dx : Addr) (fs : List (Str × V)), x = .ref a ∧ H a = some (.ins C dx fs) ∧ Ysd K C H y ∧ sp [x, y] H Q E0
theorem back_of {Q : Value → Shared → Prop} {z : V} {v : Value} {s' : Shared} (r : RelV z v) (h : Q v s') : PySem.W.CmpBack Q v s' := by
  cases z with
  | non => cases (show v = Value.none from r); exact h
  | bl b => cases (show v = Value.bool b from r); exact h
  | int i => obtain ⟨t, rfl⟩ := (show ∃ t, v = Value.int i t from r); exact h
  | str x => obtain ⟨t, rfl⟩ := (show ∃ t, v = Value.str x t from r); exact h
  | byt b => obtain ⟨t, rfl⟩ := (show ∃ t, v = Value.bytes b t from r); exact h
  | flt b => obtain ⟨t, rfl⟩ := (show ∃ t, v = Value.float b t from r); exact h
  | ref a => cases (show v = Value.ref a from r); exact h
  | ty T => cases (show v = Value.type T from r); exact h
theorem op_eqO (hs : PySem.W.findIn X.K (.ref C) "__eq__" = some (some (.ref g))) (hf : PySem.W.isFn X.K (.ref g) = true) (Fn : FnOk X.prog X.w X.K X.mg X.base CX k g fd ps sp) (room : Room k X.A) (bs : Binds X.K fd ps []) (px : Passes CX X E0) : OpR X (compareOp .Eq) (rEqO X.K C sp) := by
  intro pins s σ H x y v u Q I rx ry hh
  obtain ⟨a, dx, fs, rfl, ea, hy, go⟩ := hh
  cases (show v = Value.ref a from rx)
  obtain ⟨mA, O, _, _, _, _⟩ := ins_get I.hok ea
  obtain ⟨od, J, _⟩ := O.look
  obtain ⟨m, hF⟩ := I.fr
  have run : wpAny (model X.prog X.w) X.A (call (.ref g) [.ref a, u]) (PySem.W.CmpBack (EP X pins σ Q)) X.xe s :=
    wpAny_mono (run_fn (us := [.ref a, u]) (vs := [.ref a, y]) (dvs := []) (ds := []) Fn room bs .nil px I (.cons rfl (.cons ry .nil)) go) (fun w s' ⟨z', H', I', rz, q⟩ => back_of rz ⟨z', H', I', rz, q⟩) fun _ _ x => x
  show wpAny _ _ (richCompare .Eq (.ref a) u) _ _ _
  cases hy with
  | str z h =>
    obtain ⟨t, rfl⟩ := (show ∃ t, u = Value.str z t from ry)
    exact PySem.W.cmp_K (op := .Eq) (tb := .type "str") room.units0 hF I.ok.mod.kin J (fun A Q E s k q => wpAny_pure q) h hs hf run
  | int i h =>
    obtain ⟨t, rfl⟩ := (show ∃ t, u = Value.int i t from ry)
    exact PySem.W.cmp_K (op := .Eq) (tb := .type "int") room.units0 hF I.ok.mod.kin J (fun A Q E s k q => wpAny_pure q) h hs hf run
  | @ins b D dy gs e h =>
    cases (show u = Value.ref b from ry)
    obtain ⟨mB, O2, _, _, _, _⟩ := ins_get I.hok e
    obtain ⟨od2, J2, _⟩ := O2.look
    exact PySem.W.cmp_K (op := .Eq) (tb := .ref D) room.units0 hF I.ok.mod.kin J J2.type h hs hf run
theorem kop_eqO (K : PySem.W.Frag) (hs : PySem.W.findIn K (.ref C) "__eq__" = some (some (.ref g))) (hf : PySem.W.isFn K (.ref g) = true) (Fn : FnOk X.prog X.w K X.mg X.base CX k g fd ps sp) (room : Room k X.A) (bs : Binds K fd ps []) (px : Passes CX X E0) (hK : X.K = K := by rfl) : OpR X (compareOp .Eq) (rEqO K C sp) := by
  subst hK
  exact op_eqO hs hf Fn room bs px
theorem kc_strO (K : PySem.W.Frag) (hs : PySem.W.findIn K (.ref C) "__str__" = some (some (.ref g))) (hf : PySem.W.isFn K (.ref g) = true) (Fn : FnOk X.prog X.w K X.mg X.base CX k g fd ps sp) (room : Room (k + 2) X.A) (bs : Binds K fd ps []) (px : Passes CX X.nox E0) (hK : X.K = K := by rfl) : CallR X (.type "str") (rStrO C sp) := by
  subst hK
  exact cr_strO hs hf Fn room bs px
end

def P : Program := PySem.Challenge.pw_surelet_k10_whole_ladder_beside_a_bucket
def top (i : Nat) : Stmt := PySem.Challenge.pw_surelet_k10_whole_ladder_beside_a_bucket.main.body.getD i (.Pass ⟨0, 0, 0, 0⟩)
abbrev s_InvalidNumber_init : Stmt := (inClass (top 3) 0)
abbrev N_InvalidNumber_init : List Str := ["self", "value", "__class__"]
abbrev P_InvalidNumber_init : List Str := ["self", "value"]
theorem sc_InvalidNumber_init : NdefX.NScope N_InvalidNumber_init P_InvalidNumber_init ["__class__"] (defScope s_InvalidNumber_init) := NdefX.nscope_by (by decide +kernel)
abbrev s_InvalidName_init : Stmt := (inClass (top 4) 0)
abbrev N_InvalidName_init : List Str := ["self", "value", "__class__"]
abbrev P_InvalidName_init : List Str := ["self", "value"]
theorem sc_InvalidName_init : NdefX.NScope N_InvalidName_init P_InvalidName_init ["__class__"] (defScope s_InvalidName_init) := NdefX.nscope_by (by decide +kernel)
abbrev s_InvalidRest_init : Stmt := (inClass (top 6) 0)
abbrev N_InvalidRest_init : List Str := ["self", "value", "__class__"]
abbrev P_InvalidRest_init : List Str := ["self", "value"]
theorem sc_InvalidRest_init : NdefX.NScope N_InvalidRest_init P_InvalidRest_init ["__class__"] (defScope s_InvalidRest_init) := NdefX.nscope_by (by decide +kernel)
abbrev s_is_number : Stmt := (top 11)
abbrev N_is_number : List Str := ["value", "least", "most"]
abbrev P_is_number : List Str := ["value", "least", "most"]
theorem sc_is_number : FnScope N_is_number P_is_number (defScope s_is_number) := ⟨rfl, rfl, rfl, by decide +kernel, rfl, by decide +kernel, by decide +kernel⟩
abbrev s_is_name : Stmt := (top 12)
abbrev N_is_name : List Str := ["value", "sign"]
abbrev P_is_name : List Str := ["value"]
theorem sc_is_name : FnScope N_is_name P_is_name (defScope s_is_name) := ⟨rfl, rfl, rfl, by decide +kernel, rfl, by decide +kernel, by decide +kernel⟩
abbrev s_Rest_init : Stmt := (inClass (top 15) 0)
abbrev N_Rest_init : List Str := ["self", "text", "forms", "period", "bend"]
abbrev P_Rest_init : List Str := ["self", "text", "forms", "period", "bend"]
theorem sc_Rest_init : FnScope N_Rest_init P_Rest_init (defScope s_Rest_init) := ⟨rfl, rfl, rfl, by decide +kernel, rfl, by decide +kernel, by decide +kernel⟩
abbrev s_Rest_call : Stmt := (inClass (top 15) 1)
abbrev N_Rest_call : List Str := ["self", "t"]
abbrev P_Rest_call : List Str := ["self", "t"]
theorem sc_Rest_call : FnScope N_Rest_call P_Rest_call (defScope s_Rest_call) := ⟨rfl, rfl, rfl, by decide +kernel, rfl, by decide +kernel, by decide +kernel⟩
abbrev s_Rest_written : Stmt := (inClass (top 15) 8)
abbrev N_Rest_written : List Str := ["self"]
abbrev P_Rest_written : List Str := ["self"]
theorem sc_Rest_written : FnScope N_Rest_written P_Rest_written (defScope s_Rest_written) := ⟨rfl, rfl, rfl, by decide +kernel, rfl, by decide +kernel, by decide +kernel⟩
abbrev s_Rest_eq : Stmt := (inClass (top 15) 11)
abbrev N_Rest_eq : List Str := ["self", "other"]
abbrev P_Rest_eq : List Str := ["self", "other"]
theorem sc_Rest_eq : FnScope N_Rest_eq P_Rest_eq (defScope s_Rest_eq) := ⟨rfl, rfl, rfl, by decide +kernel, rfl, by decide +kernel, by decide +kernel⟩
abbrev s_Window_init : Stmt := (inClass (top 16) 0)
abbrev N_Window_init : List Str := ["self", "width", "__class__"]
abbrev P_Window_init : List Str := ["self", "width"]
theorem sc_Window_init : NdefX.NScope N_Window_init P_Window_init ["__class__"] (defScope s_Window_init) := NdefX.nscope_by (by decide +kernel)
abbrev s_Window_after : Stmt := (inClass (top 16) 1)
abbrev N_Window_after : List Str := ["self", "t"]
abbrev P_Window_after : List Str := ["self", "t"]
theorem sc_Window_after : FnScope N_Window_after P_Window_after (defScope s_Window_after) := ⟨rfl, rfl, rfl, by decide +kernel, rfl, by decide +kernel, by decide +kernel⟩
abbrev s_Days_init : Stmt := (inClass (top 17) 0)
abbrev N_Days_init : List Str := ["self", "borders", "every", "__class__", "last", "at", "border", "words"]
abbrev P_Days_init : List Str := ["self", "borders", "every"]
theorem sc_Days_init : NdefX.NScope N_Days_init P_Days_init ["__class__"] (defScope s_Days_init) := NdefX.nscope_by (by decide +kernel)
abbrev cs_Days_init_1 : Scope := { kind := .function, names := [(".0", .local), ("border", .local), ("str", .globalImplicit)], isGenerator := false, isCoroutine := false, more := [] }
abbrev s_Days_after : Stmt := (inClass (top 17) 2)
abbrev N_Days_after : List Str := ["self", "t", "border"]
abbrev P_Days_after : List Str := ["self", "t"]
theorem sc_Days_after : FnScope N_Days_after P_Days_after (defScope s_Days_after) := ⟨rfl, rfl, rfl, by decide +kernel, rfl, by decide +kernel, by decide +kernel⟩
abbrev s_Rule_init : Stmt := (inClass (top 19) 0)
abbrev N_Rule_init : List Str := ["self", "name", "chips", "rest"]
abbrev P_Rule_init : List Str := ["self", "name", "chips", "rest"]
theorem sc_Rule_init : FnScope N_Rule_init P_Rule_init (defScope s_Rule_init) := ⟨rfl, rfl, rfl, by decide +kernel, rfl, by decide +kernel, by decide +kernel⟩
abbrev s_Rule_str : Stmt := (inClass (top 19) 1)
abbrev N_Rule_str : List Str := ["self"]
abbrev P_Rule_str : List Str := ["self"]
theorem sc_Rule_str : FnScope N_Rule_str P_Rule_str (defScope s_Rule_str) := ⟨rfl, rfl, rfl, by decide +kernel, rfl, by decide +kernel, by decide +kernel⟩
abbrev s_Rule_eq : Stmt := (inClass (top 19) 2)
abbrev N_Rule_eq : List Str := ["self", "other"]
abbrev P_Rule_eq : List Str := ["self", "other"]
theorem sc_Rule_eq : FnScope N_Rule_eq P_Rule_eq (defScope s_Rule_eq) := ⟨rfl, rfl, rfl, by decide +kernel, rfl, by decide +kernel, by decide +kernel⟩
abbrev s_ladder : Stmt := (top 20)
abbrev N_ladder : List Str := ["name", "size", "every", "steps", "value", "k"]
abbrev P_ladder : List Str := ["name", "size", "every", "steps"]
theorem sc_ladder : FnScope N_ladder P_ladder (defScope s_ladder) := ⟨rfl, rfl, rfl, by decide +kernel, rfl, by decide +kernel, by decide +kernel⟩
abbrev cs_ladder_1 : Scope := { kind := .function, names := [(".0", .local), ("k", .local), ("Rule", .globalImplicit), ("Window", .globalImplicit), ("every", .free), ("name", .free), ("size", .free)], isGenerator := false, isCoroutine := false, more := [] }
abbrev s_fullest : Stmt := (top 21)
abbrev N_fullest : List Str := ["rest", "uses", "totals", "moment", "n", "moments", "most", "start", "count", "behind", "s", "end"]
abbrev P_fullest : List Str := ["rest", "uses"]
theorem sc_fullest : FnScope N_fullest P_fullest (defScope s_fullest) := ⟨rfl, rfl, rfl, by decide +kernel, rfl, by decide +kernel, by decide +kernel⟩
abbrev s_is_within : Stmt := (top 22)
abbrev N_is_within : List Str := ["rule", "uses"]
abbrev P_is_within : List Str := ["rule", "uses"]
theorem sc_is_within : FnScope N_is_within P_is_within (defScope s_is_within) := ⟨rfl, rfl, rfl, by decide +kernel, rfl, by decide +kernel, by decide +kernel⟩
abbrev s_bag : Stmt := (top 24)
abbrev N_bag : List Str := ["_law_script", "_law_seed", "_law_item"]
abbrev P_bag : List Str := ["_law_script"]
theorem sc_bag : FnScope N_bag P_bag (defScope s_bag) := ⟨rfl, rfl, rfl, by decide +kernel, rfl, by decide +kernel, by decide +kernel⟩
abbrev s_draw : Stmt := (top 25)
abbrev N_draw : List Str := ["_law_bag_here", "_law_limit", "_law_item", "_law_digit"]
abbrev P_draw : List Str := ["_law_bag_here", "_law_limit"]
theorem sc_draw : FnScope N_draw P_draw (defScope s_draw) := ⟨rfl, rfl, rfl, by decide +kernel, rfl, by decide +kernel, by decide +kernel⟩
abbrev s_of : Stmt := (top 26)
abbrev N_of : List Str := ["_law_bag_here", "_law_things"]
abbrev P_of : List Str := ["_law_bag_here", "_law_things"]
theorem sc_of : FnScope N_of P_of (defScope s_of) := ⟨rfl, rfl, rfl, by decide +kernel, rfl, by decide +kernel, by decide +kernel⟩
abbrev s_like : Stmt := (top 27)
abbrev N_like : List Str := ["_law_told", "_law_due", "_law_a", "_law_b"]
abbrev P_like : List Str := ["_law_told", "_law_due"]
theorem sc_like : FnScope N_like P_like (defScope s_like) := ⟨rfl, rfl, rfl, by decide +kernel, rfl, by decide +kernel, by decide +kernel⟩
abbrev cs_like_1 : Scope := { kind := .function, names := [(".0", .local), ("_law_a", .local), ("_law_b", .local), ("_law_like", .globalImplicit)], isGenerator := false, isCoroutine := false, more := [] }
abbrev s_odd : Stmt := (top 28)
abbrev N_odd : List Str := ["_law_bag_here", "_law_pick", "_law_k"]
abbrev P_odd : List Str := ["_law_bag_here"]
theorem sc_odd : FnScope N_odd P_odd (defScope s_odd) := ⟨rfl, rfl, rfl, by decide +kernel, rfl, by decide +kernel, by decide +kernel⟩
abbrev cs_odd_1 : Scope := { kind := .function, names := [(".0", .local), ("_law_k", .local), ("_law_of", .globalImplicit), ("_law_bag_here", .free)], isGenerator := false, isCoroutine := false, more := [] }
abbrev cs_odd_2 : Scope := { kind := .function, names := [(".0", .local), ("_law_k", .local), ("_law_of", .globalImplicit), ("_law_bag_here", .free)], isGenerator := false, isCoroutine := false, more := [] }
abbrev s_ask : Stmt := (top 29)
abbrev N_ask : List Str := ["_law_deed", "_law_told", "_law_fault", "error"]
abbrev P_ask : List Str := ["_law_deed"]
theorem sc_ask : FnScope N_ask P_ask (defScope s_ask) := ⟨rfl, rfl, rfl, by decide +kernel, rfl, by decide +kernel, by decide +kernel⟩
abbrev s_in : Stmt := (top 30)
abbrev N_in : List Str := ["_law_thing", "_law_high"]
abbrev P_in : List Str := ["_law_thing", "_law_high"]
theorem sc_in : FnScope N_in P_in (defScope s_in) := ⟨rfl, rfl, rfl, by decide +kernel, rfl, by decide +kernel, by decide +kernel⟩
abbrev s_named : Stmt := (top 31)
abbrev N_named : List Str := ["_law_thing", "_law_high", "_law_sign"]
abbrev P_named : List Str := ["_law_thing", "_law_high"]
theorem sc_named : FnScope N_named P_named (defScope s_named) := ⟨rfl, rfl, rfl, by decide +kernel, rfl, by decide +kernel, by decide +kernel⟩
abbrev cs_named_1 : Scope := { kind := .function, names := [(".0", .local), ("_law_sign", .local)], isGenerator := false, isCoroutine := false, more := [] }
abbrev s_wrong : Stmt := (top 32)
abbrev N_wrong : List Str := ["_law_bag_here"]
abbrev P_wrong : List Str := ["_law_bag_here"]
theorem sc_wrong : FnScope N_wrong P_wrong (defScope s_wrong) := ⟨rfl, rfl, rfl, by decide +kernel, rfl, by decide +kernel, by decide +kernel⟩
abbrev s_given : Stmt := (top 33)
abbrev N_given : List Str := ["_law_bag_here", "_law_small", "_law_parts", "_law_k"]
abbrev P_given : List Str := ["_law_bag_here"]
theorem sc_given : FnScope N_given P_given (defScope s_given) := ⟨rfl, rfl, rfl, by decide +kernel, rfl, by decide +kernel, by decide +kernel⟩
abbrev s_ladder_due : Stmt := (top 34)
abbrev N_ladder_due : List Str := ["_law_parts"]
abbrev P_ladder_due : List Str := ["_law_parts"]
theorem sc_ladder_due : FnScope N_ladder_due P_ladder_due (defScope s_ladder_due) := ⟨rfl, rfl, rfl, by decide +kernel, rfl, by decide +kernel, by decide +kernel⟩
abbrev s_rules_so : Stmt := (top 35)
abbrev N_rules_so : List Str := ["_law_parts", "_law_rules", "_law_k", "_law_one", "_law_wide", "_law_due"]
abbrev P_rules_so : List Str := ["_law_parts", "_law_rules"]
theorem sc_rules_so : FnScope N_rules_so P_rules_so (defScope s_rules_so) := ⟨rfl, rfl, rfl, by decide +kernel, rfl, by decide +kernel, by decide +kernel⟩
abbrev s_let : Stmt := (top 36)
abbrev N_let : List Str := ["_law_rules", "_law_gone", "_law_s", "_law_told", "_law_one", "_law_part"]
abbrev P_let : List Str := ["_law_rules", "_law_gone", "_law_s"]
theorem sc_let : FnScope N_let P_let (defScope s_let) := ⟨rfl, rfl, rfl, by decide +kernel, rfl, by decide +kernel, by decide +kernel⟩
abbrev cs_let_1 : Scope := { kind := .function, names := [(".0", .local), ("_law_part", .local), ("isinstance", .globalImplicit), ("bool", .globalImplicit)], isGenerator := false, isCoroutine := false, more := [] }
abbrev cs_let_2 : Scope := { kind := .function, names := [(".0", .local), ("_law_one", .local), ("is_within", .globalImplicit), ("_law_gone", .free), ("_law_s", .free)], isGenerator := false, isCoroutine := false, more := [] }
abbrev s_asked_so : Stmt := (top 37)
abbrev N_asked_so : List Str := ["_law_bag_here", "_law_parts", "_law_rules", "_law_base", "_law_stop", "_law_room", "_law_gone", "_law_due", "_law_s", "_law_k", "_law_lets", "_law_step", "_law_one"]
abbrev P_asked_so : List Str := ["_law_bag_here", "_law_parts", "_law_rules"]
theorem sc_asked_so : FnScope N_asked_so P_asked_so (defScope s_asked_so) := ⟨rfl, rfl, rfl, by decide +kernel, rfl, by decide +kernel, by decide +kernel⟩
abbrev cs_asked_so_1 : Scope := { kind := .function, names := [(".0", .local), ("_law_one", .local), ("is_within", .globalImplicit), ("tuple", .globalImplicit), ("_law_gone", .free)], isGenerator := false, isCoroutine := false, more := [] }
abbrev s_one_rule_so : Stmt := (top 38)
abbrev N_one_rule_so : List Str := ["_law_bag_here", "_law_label", "_law_many", "_law_plain", "_law_k", "_law_told", "_law_fault", "_law_twin_r", "_law_some"]
abbrev P_one_rule_so : List Str := ["_law_bag_here"]
theorem sc_one_rule_so : FnScope N_one_rule_so P_one_rule_so (defScope s_one_rule_so) := ⟨rfl, rfl, rfl, by decide +kernel, rfl, by decide +kernel, by decide +kernel⟩
abbrev ls_one_rule_so_1 : Scope := { kind := .function, names := [("_law_bag_here", .free), ("_law_some", .free), ("_law_draw", .globalImplicit), ("Rule", .globalImplicit)], isGenerator := false, isCoroutine := false, more := [] }
abbrev s_law : Stmt := (top 39)
abbrev N_law : List Str := ["_law_script", "_law_bag_here", "_law_k", "_law_due", "_law_told", "_law_fault", "_law_parts", "_law_way"]
abbrev P_law : List Str := ["_law_script"]
theorem sc_law : FnScope N_law P_law (defScope s_law) := ⟨rfl, rfl, rfl, by decide +kernel, rfl, by decide +kernel, by decide +kernel⟩
abbrev ls_law_1 : Scope := { kind := .function, names := [("_law_parts", .free), ("_law_way", .free), ("ladder", .globalImplicit)], isGenerator := false, isCoroutine := false, more := [] }
theorem c_asked_so_law_gone : celB (defScope s_asked_so) "_law_gone" = true := by decide +kernel
theorem c_law_law_parts : celB (defScope s_law) "_law_parts" = true := by decide +kernel
theorem c_law_law_way : celB (defScope s_law) "_law_way" = true := by decide +kernel
theorem c_one_rule_so_law_some : celB (defScope s_one_rule_so) "_law_some" = true := by decide +kernel
theorem fr_Days_init : (defScope s_Days_init).names.lookup ("__class__" : Str) = some NameKind.free := by decide +kernel
theorem fr_InvalidName_init : (defScope s_InvalidName_init).names.lookup ("__class__" : Str) = some NameKind.free := by decide +kernel
theorem fr_InvalidNumber_init : (defScope s_InvalidNumber_init).names.lookup ("__class__" : Str) = some NameKind.free := by decide +kernel
theorem fr_InvalidRest_init : (defScope s_InvalidRest_init).names.lookup ("__class__" : Str) = some NameKind.free := by decide +kernel
theorem fr_Window_init : (defScope s_Window_init).names.lookup ("__class__" : Str) = some NameKind.free := by decide +kernel
theorem g_Days_init_1_str : (relS cs_Days_init_1 (defScope s_Days_init)).names.lookup ("str" : Str) = some NameKind.globalImplicit := by decide +kernel
theorem g_Days_init_BORDERS : (defScope s_Days_init).names.lookup ("BORDERS" : Str) = some NameKind.globalImplicit := by decide +kernel
theorem g_Days_init_enumerate : (defScope s_Days_init).names.lookup ("enumerate" : Str) = some NameKind.globalImplicit := by decide +kernel
theorem g_Days_init_is_number : (defScope s_Days_init).names.lookup ("is_number" : Str) = some NameKind.globalImplicit := by decide +kernel
theorem g_Days_init_isinstance : (defScope s_Days_init).names.lookup ("isinstance" : Str) = some NameKind.globalImplicit := by decide +kernel
theorem g_Days_init_len : (defScope s_Days_init).names.lookup ("len" : Str) = some NameKind.globalImplicit := by decide +kernel
theorem g_Days_init_list : (defScope s_Days_init).names.lookup ("list" : Str) = some NameKind.globalImplicit := by decide +kernel
theorem g_Days_init_str : (defScope s_Days_init).names.lookup ("str" : Str) = some NameKind.globalImplicit := by decide +kernel
theorem g_Days_init_super : (defScope s_Days_init).names.lookup ("super" : Str) = some NameKind.globalImplicit := by decide +kernel
theorem g_Days_init_tuple : (defScope s_Days_init).names.lookup ("tuple" : Str) = some NameKind.globalImplicit := by decide +kernel
theorem g_InvalidName_init_super : (defScope s_InvalidName_init).names.lookup ("super" : Str) = some NameKind.globalImplicit := by decide +kernel
theorem g_InvalidNumber_init_super : (defScope s_InvalidNumber_init).names.lookup ("super" : Str) = some NameKind.globalImplicit := by decide +kernel
theorem g_InvalidRest_init_super : (defScope s_InvalidRest_init).names.lookup ("super" : Str) = some NameKind.globalImplicit := by decide +kernel
theorem g_Rest_eq_Rest : (defScope s_Rest_eq).names.lookup ("Rest" : Str) = some NameKind.globalImplicit := by decide +kernel
theorem g_Rest_eq_isinstance : (defScope s_Rest_eq).names.lookup ("isinstance" : Str) = some NameKind.globalImplicit := by decide +kernel
theorem g_Rule_eq_Rule : (defScope s_Rule_eq).names.lookup ("Rule" : Str) = some NameKind.globalImplicit := by decide +kernel
theorem g_Rule_eq_isinstance : (defScope s_Rule_eq).names.lookup ("isinstance" : Str) = some NameKind.globalImplicit := by decide +kernel
theorem g_Rule_init_InvalidName : (defScope s_Rule_init).names.lookup ("InvalidName" : Str) = some NameKind.globalImplicit := by decide +kernel
theorem g_Rule_init_InvalidNumber : (defScope s_Rule_init).names.lookup ("InvalidNumber" : Str) = some NameKind.globalImplicit := by decide +kernel
theorem g_Rule_init_InvalidRest : (defScope s_Rule_init).names.lookup ("InvalidRest" : Str) = some NameKind.globalImplicit := by decide +kernel
theorem g_Rule_init_Rest : (defScope s_Rule_init).names.lookup ("Rest" : Str) = some NameKind.globalImplicit := by decide +kernel
theorem g_Rule_init_is_name : (defScope s_Rule_init).names.lookup ("is_name" : Str) = some NameKind.globalImplicit := by decide +kernel
theorem g_Rule_init_is_number : (defScope s_Rule_init).names.lookup ("is_number" : Str) = some NameKind.globalImplicit := by decide +kernel
theorem g_Rule_init_isinstance : (defScope s_Rule_init).names.lookup ("isinstance" : Str) = some NameKind.globalImplicit := by decide +kernel
theorem g_Window_init_is_number : (defScope s_Window_init).names.lookup ("is_number" : Str) = some NameKind.globalImplicit := by decide +kernel
theorem g_Window_init_super : (defScope s_Window_init).names.lookup ("super" : Str) = some NameKind.globalImplicit := by decide +kernel
theorem g_ask_InvalidName : (defScope s_ask).names.lookup ("InvalidName" : Str) = some NameKind.globalImplicit := by decide +kernel
theorem g_ask_InvalidNumber : (defScope s_ask).names.lookup ("InvalidNumber" : Str) = some NameKind.globalImplicit := by decide +kernel
theorem g_ask_InvalidRest : (defScope s_ask).names.lookup ("InvalidRest" : Str) = some NameKind.globalImplicit := by decide +kernel
theorem g_ask_SureletError : (defScope s_ask).names.lookup ("SureletError" : Str) = some NameKind.globalImplicit := by decide +kernel
theorem g_asked_so_1_is_within : (relS cs_asked_so_1 (defScope s_asked_so)).names.lookup ("is_within" : Str) = some NameKind.globalImplicit := by decide +kernel
theorem g_asked_so_1_tuple : (relS cs_asked_so_1 (defScope s_asked_so)).names.lookup ("tuple" : Str) = some NameKind.globalImplicit := by decide +kernel
theorem g_asked_so_all : (defScope s_asked_so).names.lookup ("all" : Str) = some NameKind.globalImplicit := by decide +kernel
theorem g_asked_so_law_draw : (defScope s_asked_so).names.lookup ("_law_draw" : Str) = some NameKind.globalImplicit := by decide +kernel
theorem g_asked_so_law_let : (defScope s_asked_so).names.lookup ("_law_let" : Str) = some NameKind.globalImplicit := by decide +kernel
theorem g_asked_so_law_like : (defScope s_asked_so).names.lookup ("_law_like" : Str) = some NameKind.globalImplicit := by decide +kernel
theorem g_asked_so_law_of : (defScope s_asked_so).names.lookup ("_law_of" : Str) = some NameKind.globalImplicit := by decide +kernel
theorem g_asked_so_max : (defScope s_asked_so).names.lookup ("max" : Str) = some NameKind.globalImplicit := by decide +kernel
theorem g_asked_so_range : (defScope s_asked_so).names.lookup ("range" : Str) = some NameKind.globalImplicit := by decide +kernel
theorem g_bag_int : (defScope s_bag).names.lookup ("int" : Str) = some NameKind.globalImplicit := by decide +kernel
theorem g_bag_list : (defScope s_bag).names.lookup ("list" : Str) = some NameKind.globalImplicit := by decide +kernel
theorem g_draw_int : (defScope s_draw).names.lookup ("int" : Str) = some NameKind.globalImplicit := by decide +kernel
theorem g_draw_len : (defScope s_draw).names.lookup ("len" : Str) = some NameKind.globalImplicit := by decide +kernel
theorem g_fullest_len : (defScope s_fullest).names.lookup ("len" : Str) = some NameKind.globalImplicit := by decide +kernel
theorem g_fullest_sorted : (defScope s_fullest).names.lookup ("sorted" : Str) = some NameKind.globalImplicit := by decide +kernel
theorem g_given_law_draw : (defScope s_given).names.lookup ("_law_draw" : Str) = some NameKind.globalImplicit := by decide +kernel
theorem g_given_law_of : (defScope s_given).names.lookup ("_law_of" : Str) = some NameKind.globalImplicit := by decide +kernel
theorem g_given_law_wrong : (defScope s_given).names.lookup ("_law_wrong" : Str) = some NameKind.globalImplicit := by decide +kernel
theorem g_given_range : (defScope s_given).names.lookup ("range" : Str) = some NameKind.globalImplicit := by decide +kernel
theorem g_in_bool : (defScope s_in).names.lookup ("bool" : Str) = some NameKind.globalImplicit := by decide +kernel
theorem g_in_int : (defScope s_in).names.lookup ("int" : Str) = some NameKind.globalImplicit := by decide +kernel
theorem g_in_isinstance : (defScope s_in).names.lookup ("isinstance" : Str) = some NameKind.globalImplicit := by decide +kernel
theorem g_is_name_DIGITS : (defScope s_is_name).names.lookup ("DIGITS" : Str) = some NameKind.globalImplicit := by decide +kernel
theorem g_is_name_LETTERS : (defScope s_is_name).names.lookup ("LETTERS" : Str) = some NameKind.globalImplicit := by decide +kernel
theorem g_is_name_isinstance : (defScope s_is_name).names.lookup ("isinstance" : Str) = some NameKind.globalImplicit := by decide +kernel
theorem g_is_name_len : (defScope s_is_name).names.lookup ("len" : Str) = some NameKind.globalImplicit := by decide +kernel
theorem g_is_name_str : (defScope s_is_name).names.lookup ("str" : Str) = some NameKind.globalImplicit := by decide +kernel
theorem g_is_number_bool : (defScope s_is_number).names.lookup ("bool" : Str) = some NameKind.globalImplicit := by decide +kernel
theorem g_is_number_int : (defScope s_is_number).names.lookup ("int" : Str) = some NameKind.globalImplicit := by decide +kernel
theorem g_is_number_isinstance : (defScope s_is_number).names.lookup ("isinstance" : Str) = some NameKind.globalImplicit := by decide +kernel
theorem g_is_within_fullest : (defScope s_is_within).names.lookup ("fullest" : Str) = some NameKind.globalImplicit := by decide +kernel
theorem g_ladder_1_Rule : (relS cs_ladder_1 (defScope s_ladder)).names.lookup ("Rule" : Str) = some NameKind.globalImplicit := by decide +kernel
theorem g_ladder_1_Window : (relS cs_ladder_1 (defScope s_ladder)).names.lookup ("Window" : Str) = some NameKind.globalImplicit := by decide +kernel
theorem g_ladder_InvalidName : (defScope s_ladder).names.lookup ("InvalidName" : Str) = some NameKind.globalImplicit := by decide +kernel
theorem g_ladder_InvalidNumber : (defScope s_ladder).names.lookup ("InvalidNumber" : Str) = some NameKind.globalImplicit := by decide +kernel
theorem g_ladder_due_law_in : (defScope s_ladder_due).names.lookup ("_law_in" : Str) = some NameKind.globalImplicit := by decide +kernel
theorem g_ladder_due_law_named : (defScope s_ladder_due).names.lookup ("_law_named" : Str) = some NameKind.globalImplicit := by decide +kernel
theorem g_ladder_is_name : (defScope s_ladder).names.lookup ("is_name" : Str) = some NameKind.globalImplicit := by decide +kernel
theorem g_ladder_is_number : (defScope s_ladder).names.lookup ("is_number" : Str) = some NameKind.globalImplicit := by decide +kernel
theorem g_ladder_len : (defScope s_ladder).names.lookup ("len" : Str) = some NameKind.globalImplicit := by decide +kernel
theorem g_ladder_range : (defScope s_ladder).names.lookup ("range" : Str) = some NameKind.globalImplicit := by decide +kernel
theorem g_law_L1_ladder : ls_law_1.names.lookup ("ladder" : Str) = some NameKind.globalImplicit := by decide +kernel
theorem g_law_law_ask : (defScope s_law).names.lookup ("_law_ask" : Str) = some NameKind.globalImplicit := by decide +kernel
theorem g_law_law_asked_so : (defScope s_law).names.lookup ("_law_asked_so" : Str) = some NameKind.globalImplicit := by decide +kernel
theorem g_law_law_bag : (defScope s_law).names.lookup ("_law_bag" : Str) = some NameKind.globalImplicit := by decide +kernel
theorem g_law_law_draw : (defScope s_law).names.lookup ("_law_draw" : Str) = some NameKind.globalImplicit := by decide +kernel
theorem g_law_law_given : (defScope s_law).names.lookup ("_law_given" : Str) = some NameKind.globalImplicit := by decide +kernel
theorem g_law_law_ladder_due : (defScope s_law).names.lookup ("_law_ladder_due" : Str) = some NameKind.globalImplicit := by decide +kernel
theorem g_law_law_like : (defScope s_law).names.lookup ("_law_like" : Str) = some NameKind.globalImplicit := by decide +kernel
theorem g_law_law_one_rule_so : (defScope s_law).names.lookup ("_law_one_rule_so" : Str) = some NameKind.globalImplicit := by decide +kernel
theorem g_law_law_rules_so : (defScope s_law).names.lookup ("_law_rules_so" : Str) = some NameKind.globalImplicit := by decide +kernel
theorem g_law_range : (defScope s_law).names.lookup ("range" : Str) = some NameKind.globalImplicit := by decide +kernel
theorem g_let_1_bool : (relS cs_let_1 (defScope s_let)).names.lookup ("bool" : Str) = some NameKind.globalImplicit := by decide +kernel
theorem g_let_1_isinstance : (relS cs_let_1 (defScope s_let)).names.lookup ("isinstance" : Str) = some NameKind.globalImplicit := by decide +kernel
theorem g_let_2_is_within : (relS cs_let_2 (defScope s_let)).names.lookup ("is_within" : Str) = some NameKind.globalImplicit := by decide +kernel
theorem g_like_1_law_like : (relS cs_like_1 (defScope s_like)).names.lookup ("_law_like" : Str) = some NameKind.globalImplicit := by decide +kernel
theorem g_like_all : (defScope s_like).names.lookup ("all" : Str) = some NameKind.globalImplicit := by decide +kernel
theorem g_like_bool : (defScope s_like).names.lookup ("bool" : Str) = some NameKind.globalImplicit := by decide +kernel
theorem g_like_dict : (defScope s_like).names.lookup ("dict" : Str) = some NameKind.globalImplicit := by decide +kernel
theorem g_like_int : (defScope s_like).names.lookup ("int" : Str) = some NameKind.globalImplicit := by decide +kernel
theorem g_like_isinstance : (defScope s_like).names.lookup ("isinstance" : Str) = some NameKind.globalImplicit := by decide +kernel
theorem g_like_len : (defScope s_like).names.lookup ("len" : Str) = some NameKind.globalImplicit := by decide +kernel
theorem g_like_list : (defScope s_like).names.lookup ("list" : Str) = some NameKind.globalImplicit := by decide +kernel
theorem g_like_str : (defScope s_like).names.lookup ("str" : Str) = some NameKind.globalImplicit := by decide +kernel
theorem g_like_tuple : (defScope s_like).names.lookup ("tuple" : Str) = some NameKind.globalImplicit := by decide +kernel
theorem g_like_zip : (defScope s_like).names.lookup ("zip" : Str) = some NameKind.globalImplicit := by decide +kernel
theorem g_named_all : (defScope s_named).names.lookup ("all" : Str) = some NameKind.globalImplicit := by decide +kernel
theorem g_named_isinstance : (defScope s_named).names.lookup ("isinstance" : Str) = some NameKind.globalImplicit := by decide +kernel
theorem g_named_len : (defScope s_named).names.lookup ("len" : Str) = some NameKind.globalImplicit := by decide +kernel
theorem g_named_str : (defScope s_named).names.lookup ("str" : Str) = some NameKind.globalImplicit := by decide +kernel
theorem g_odd_1_law_of : (relS cs_odd_1 (defScope s_odd)).names.lookup ("_law_of" : Str) = some NameKind.globalImplicit := by decide +kernel
theorem g_odd_2_law_of : (relS cs_odd_2 (defScope s_odd)).names.lookup ("_law_of" : Str) = some NameKind.globalImplicit := by decide +kernel
theorem g_odd_law_draw : (defScope s_odd).names.lookup ("_law_draw" : Str) = some NameKind.globalImplicit := by decide +kernel
theorem g_odd_law_of : (defScope s_odd).names.lookup ("_law_of" : Str) = some NameKind.globalImplicit := by decide +kernel
theorem g_odd_range : (defScope s_odd).names.lookup ("range" : Str) = some NameKind.globalImplicit := by decide +kernel
theorem g_odd_tuple : (defScope s_odd).names.lookup ("tuple" : Str) = some NameKind.globalImplicit := by decide +kernel
theorem g_of_law_draw : (defScope s_of).names.lookup ("_law_draw" : Str) = some NameKind.globalImplicit := by decide +kernel
theorem g_of_len : (defScope s_of).names.lookup ("len" : Str) = some NameKind.globalImplicit := by decide +kernel
theorem g_one_rule_so_Days : (defScope s_one_rule_so).names.lookup ("Days" : Str) = some NameKind.globalImplicit := by decide +kernel
theorem g_one_rule_so_L1_Rule : ls_one_rule_so_1.names.lookup ("Rule" : Str) = some NameKind.globalImplicit := by decide +kernel
theorem g_one_rule_so_L1_law_draw : ls_one_rule_so_1.names.lookup ("_law_draw" : Str) = some NameKind.globalImplicit := by decide +kernel
theorem g_one_rule_so_Rule : (defScope s_one_rule_so).names.lookup ("Rule" : Str) = some NameKind.globalImplicit := by decide +kernel
theorem g_one_rule_so_Window : (defScope s_one_rule_so).names.lookup ("Window" : Str) = some NameKind.globalImplicit := by decide +kernel
theorem g_one_rule_so_isinstance : (defScope s_one_rule_so).names.lookup ("isinstance" : Str) = some NameKind.globalImplicit := by decide +kernel
theorem g_one_rule_so_law_ask : (defScope s_one_rule_so).names.lookup ("_law_ask" : Str) = some NameKind.globalImplicit := by decide +kernel
theorem g_one_rule_so_law_draw : (defScope s_one_rule_so).names.lookup ("_law_draw" : Str) = some NameKind.globalImplicit := by decide +kernel
theorem g_one_rule_so_law_in : (defScope s_one_rule_so).names.lookup ("_law_in" : Str) = some NameKind.globalImplicit := by decide +kernel
theorem g_one_rule_so_law_like : (defScope s_one_rule_so).names.lookup ("_law_like" : Str) = some NameKind.globalImplicit := by decide +kernel
theorem g_one_rule_so_law_named : (defScope s_one_rule_so).names.lookup ("_law_named" : Str) = some NameKind.globalImplicit := by decide +kernel
theorem g_one_rule_so_law_of : (defScope s_one_rule_so).names.lookup ("_law_of" : Str) = some NameKind.globalImplicit := by decide +kernel
theorem g_one_rule_so_law_wrong : (defScope s_one_rule_so).names.lookup ("_law_wrong" : Str) = some NameKind.globalImplicit := by decide +kernel
theorem g_one_rule_so_range : (defScope s_one_rule_so).names.lookup ("range" : Str) = some NameKind.globalImplicit := by decide +kernel
theorem g_one_rule_so_str : (defScope s_one_rule_so).names.lookup ("str" : Str) = some NameKind.globalImplicit := by decide +kernel
theorem g_rules_so_Rule : (defScope s_rules_so).names.lookup ("Rule" : Str) = some NameKind.globalImplicit := by decide +kernel
theorem g_rules_so_Window : (defScope s_rules_so).names.lookup ("Window" : Str) = some NameKind.globalImplicit := by decide +kernel
theorem g_rules_so_int : (defScope s_rules_so).names.lookup ("int" : Str) = some NameKind.globalImplicit := by decide +kernel
theorem g_rules_so_isinstance : (defScope s_rules_so).names.lookup ("isinstance" : Str) = some NameKind.globalImplicit := by decide +kernel
theorem g_rules_so_law_like : (defScope s_rules_so).names.lookup ("_law_like" : Str) = some NameKind.globalImplicit := by decide +kernel
theorem g_rules_so_len : (defScope s_rules_so).names.lookup ("len" : Str) = some NameKind.globalImplicit := by decide +kernel
theorem g_rules_so_list : (defScope s_rules_so).names.lookup ("list" : Str) = some NameKind.globalImplicit := by decide +kernel
theorem g_rules_so_range : (defScope s_rules_so).names.lookup ("range" : Str) = some NameKind.globalImplicit := by decide +kernel
theorem g_rules_so_str : (defScope s_rules_so).names.lookup ("str" : Str) = some NameKind.globalImplicit := by decide +kernel
theorem g_wrong_law_odd : (defScope s_wrong).names.lookup ("_law_odd" : Str) = some NameKind.globalImplicit := by decide +kernel
theorem g_wrong_law_of : (defScope s_wrong).names.lookup ("_law_of" : Str) = some NameKind.globalImplicit := by decide +kernel
theorem l_Days_after_border : locB (defScope s_Days_after) "border" = true := by decide +kernel
theorem l_Days_init_1_border : locB (relS cs_Days_init_1 (defScope s_Days_init)) "border" = true := by decide +kernel
theorem l_Days_init_at : locB (defScope s_Days_init) "at" = true := by decide +kernel
theorem l_Days_init_border : locB (defScope s_Days_init) "border" = true := by decide +kernel
theorem l_Days_init_last : locB (defScope s_Days_init) "last" = true := by decide +kernel
theorem l_Days_init_self : locB (defScope s_Days_init) "self" = true := by decide +kernel
theorem l_Days_init_words : locB (defScope s_Days_init) "words" = true := by decide +kernel
theorem l_InvalidName_init_self : locB (defScope s_InvalidName_init) "self" = true := by decide +kernel
theorem l_InvalidNumber_init_self : locB (defScope s_InvalidNumber_init) "self" = true := by decide +kernel
theorem l_InvalidRest_init_self : locB (defScope s_InvalidRest_init) "self" = true := by decide +kernel
theorem l_Window_init_self : locB (defScope s_Window_init) "self" = true := by decide +kernel
theorem l_ask_error : locB (defScope s_ask) "error" = true := by decide +kernel
theorem l_ask_law_fault : locB (defScope s_ask) "_law_fault" = true := by decide +kernel
theorem l_ask_law_told : locB (defScope s_ask) "_law_told" = true := by decide +kernel
theorem l_asked_so_1_law_one : locB (relS cs_asked_so_1 (defScope s_asked_so)) "_law_one" = true := by decide +kernel
theorem l_asked_so_law_base : locB (defScope s_asked_so) "_law_base" = true := by decide +kernel
theorem l_asked_so_law_due : locB (defScope s_asked_so) "_law_due" = true := by decide +kernel
theorem l_asked_so_law_k : locB (defScope s_asked_so) "_law_k" = true := by decide +kernel
theorem l_asked_so_law_lets : locB (defScope s_asked_so) "_law_lets" = true := by decide +kernel
theorem l_asked_so_law_room : locB (defScope s_asked_so) "_law_room" = true := by decide +kernel
theorem l_asked_so_law_s : locB (defScope s_asked_so) "_law_s" = true := by decide +kernel
theorem l_asked_so_law_step : locB (defScope s_asked_so) "_law_step" = true := by decide +kernel
theorem l_asked_so_law_stop : locB (defScope s_asked_so) "_law_stop" = true := by decide +kernel
theorem l_bag_law_item : locB (defScope s_bag) "_law_item" = true := by decide +kernel
theorem l_bag_law_seed : locB (defScope s_bag) "_law_seed" = true := by decide +kernel
theorem l_draw_law_digit : locB (defScope s_draw) "_law_digit" = true := by decide +kernel
theorem l_draw_law_item : locB (defScope s_draw) "_law_item" = true := by decide +kernel
theorem l_fullest_behind : locB (defScope s_fullest) "behind" = true := by decide +kernel
theorem l_fullest_count : locB (defScope s_fullest) "count" = true := by decide +kernel
theorem l_fullest_end : locB (defScope s_fullest) "end" = true := by decide +kernel
theorem l_fullest_moment : locB (defScope s_fullest) "moment" = true := by decide +kernel
theorem l_fullest_moments : locB (defScope s_fullest) "moments" = true := by decide +kernel
theorem l_fullest_most : locB (defScope s_fullest) "most" = true := by decide +kernel
theorem l_fullest_n : locB (defScope s_fullest) "n" = true := by decide +kernel
theorem l_fullest_s : locB (defScope s_fullest) "s" = true := by decide +kernel
theorem l_fullest_start : locB (defScope s_fullest) "start" = true := by decide +kernel
theorem l_fullest_totals : locB (defScope s_fullest) "totals" = true := by decide +kernel
theorem l_given_law_k : locB (defScope s_given) "_law_k" = true := by decide +kernel
theorem l_given_law_parts : locB (defScope s_given) "_law_parts" = true := by decide +kernel
theorem l_given_law_small : locB (defScope s_given) "_law_small" = true := by decide +kernel
theorem l_is_name_sign : locB (defScope s_is_name) "sign" = true := by decide +kernel
theorem l_ladder_1_k : locB (relS cs_ladder_1 (defScope s_ladder)) "k" = true := by decide +kernel
theorem l_ladder_value : locB (defScope s_ladder) "value" = true := by decide +kernel
theorem l_law_law_bag_here : locB (defScope s_law) "_law_bag_here" = true := by decide +kernel
theorem l_law_law_due : locB (defScope s_law) "_law_due" = true := by decide +kernel
theorem l_law_law_fault : locB (defScope s_law) "_law_fault" = true := by decide +kernel
theorem l_law_law_k : locB (defScope s_law) "_law_k" = true := by decide +kernel
theorem l_law_law_told : locB (defScope s_law) "_law_told" = true := by decide +kernel
theorem l_let_1_law_part : locB (relS cs_let_1 (defScope s_let)) "_law_part" = true := by decide +kernel
theorem l_let_2_law_one : locB (relS cs_let_2 (defScope s_let)) "_law_one" = true := by decide +kernel
theorem l_let_law_told : locB (defScope s_let) "_law_told" = true := by decide +kernel
theorem l_like_1_law_a : locB (relS cs_like_1 (defScope s_like)) "_law_a" = true := by decide +kernel
theorem l_like_1_law_b : locB (relS cs_like_1 (defScope s_like)) "_law_b" = true := by decide +kernel
theorem l_named_1_law_sign : locB (relS cs_named_1 (defScope s_named)) "_law_sign" = true := by decide +kernel
theorem l_odd_1_law_k : locB (relS cs_odd_1 (defScope s_odd)) "_law_k" = true := by decide +kernel
theorem l_odd_2_law_k : locB (relS cs_odd_2 (defScope s_odd)) "_law_k" = true := by decide +kernel
theorem l_odd_law_pick : locB (defScope s_odd) "_law_pick" = true := by decide +kernel
theorem l_one_rule_so_law_fault : locB (defScope s_one_rule_so) "_law_fault" = true := by decide +kernel
theorem l_one_rule_so_law_k : locB (defScope s_one_rule_so) "_law_k" = true := by decide +kernel
theorem l_one_rule_so_law_label : locB (defScope s_one_rule_so) "_law_label" = true := by decide +kernel
theorem l_one_rule_so_law_many : locB (defScope s_one_rule_so) "_law_many" = true := by decide +kernel
theorem l_one_rule_so_law_plain : locB (defScope s_one_rule_so) "_law_plain" = true := by decide +kernel
theorem l_one_rule_so_law_told : locB (defScope s_one_rule_so) "_law_told" = true := by decide +kernel
theorem l_one_rule_so_law_twin_r : locB (defScope s_one_rule_so) "_law_twin_r" = true := by decide +kernel
theorem l_rules_so_law_due : locB (defScope s_rules_so) "_law_due" = true := by decide +kernel
theorem l_rules_so_law_k : locB (defScope s_rules_so) "_law_k" = true := by decide +kernel
theorem l_rules_so_law_one : locB (defScope s_rules_so) "_law_one" = true := by decide +kernel
theorem l_rules_so_law_wide : locB (defScope s_rules_so) "_law_wide" = true := by decide +kernel
theorem lam_law_ls_law_1 : LamX.lamSB (defScope s_law) ls_law_1 = true := by decide +kernel
theorem lam_one_rule_so_ls_one_rule_so_1 : LamX.lamSB (defScope s_one_rule_so) ls_one_rule_so_1 = true := by decide +kernel
theorem ok_cs_Days_init_1 : BlkOk N_Days_init (defScope s_Days_init) cs_Days_init_1 [("border", 6)] := blkOk_by (by decide +kernel)
theorem ok_cs_asked_so_1 : BlkOk N_asked_so (defScope s_asked_so) cs_asked_so_1 [("_law_one", 12)] := blkOk_by (by decide +kernel)
theorem ok_cs_ladder_1 : BlkOk N_ladder (defScope s_ladder) cs_ladder_1 [("k", 5)] := blkOk_by (by decide +kernel)
theorem ok_cs_let_1 : BlkOk N_let (defScope s_let) cs_let_1 [("_law_part", 5)] := blkOk_by (by decide +kernel)
theorem ok_cs_let_2 : BlkOk N_let (defScope s_let) cs_let_2 [("_law_one", 4)] := blkOk_by (by decide +kernel)
theorem ok_cs_like_1 : BlkOk N_like (defScope s_like) cs_like_1 [("_law_a", 2), ("_law_b", 3)] := blkOk_by (by decide +kernel)
theorem ok_cs_named_1 : BlkOk N_named (defScope s_named) cs_named_1 [("_law_sign", 2)] := blkOk_by (by decide +kernel)
theorem ok_cs_odd_1 : BlkOk N_odd (defScope s_odd) cs_odd_1 [("_law_k", 2)] := blkOk_by (by decide +kernel)
theorem ok_cs_odd_2 : BlkOk N_odd (defScope s_odd) cs_odd_2 [("_law_k", 2)] := blkOk_by (by decide +kernel)
theorem v_Days_after_border : visB (defScope s_Days_after) "border" = true := by decide +kernel
theorem v_Days_after_self : visB (defScope s_Days_after) "self" = true := by decide +kernel
theorem v_Days_after_t : visB (defScope s_Days_after) "t" = true := by decide +kernel
theorem v_Days_init_1_border : visB (relS cs_Days_init_1 (defScope s_Days_init)) "border" = true := by decide +kernel
theorem v_Days_init_border : visB (defScope s_Days_init) "border" = true := by decide +kernel
theorem v_Days_init_borders : visB (defScope s_Days_init) "borders" = true := by decide +kernel
theorem v_Days_init_every : visB (defScope s_Days_init) "every" = true := by decide +kernel
theorem v_Days_init_last : visB (defScope s_Days_init) "last" = true := by decide +kernel
theorem v_Days_init_self : visB (defScope s_Days_init) "self" = true := by decide +kernel
theorem v_Days_init_words : visB (defScope s_Days_init) "words" = true := by decide +kernel
theorem v_InvalidName_init_self : visB (defScope s_InvalidName_init) "self" = true := by decide +kernel
theorem v_InvalidName_init_value : visB (defScope s_InvalidName_init) "value" = true := by decide +kernel
theorem v_InvalidNumber_init_self : visB (defScope s_InvalidNumber_init) "self" = true := by decide +kernel
theorem v_InvalidNumber_init_value : visB (defScope s_InvalidNumber_init) "value" = true := by decide +kernel
theorem v_InvalidRest_init_self : visB (defScope s_InvalidRest_init) "self" = true := by decide +kernel
theorem v_InvalidRest_init_value : visB (defScope s_InvalidRest_init) "value" = true := by decide +kernel
theorem v_Rest_call_self : visB (defScope s_Rest_call) "self" = true := by decide +kernel
theorem v_Rest_call_t : visB (defScope s_Rest_call) "t" = true := by decide +kernel
theorem v_Rest_eq_other : visB (defScope s_Rest_eq) "other" = true := by decide +kernel
theorem v_Rest_eq_self : visB (defScope s_Rest_eq) "self" = true := by decide +kernel
theorem v_Rest_init_bend : visB (defScope s_Rest_init) "bend" = true := by decide +kernel
theorem v_Rest_init_forms : visB (defScope s_Rest_init) "forms" = true := by decide +kernel
theorem v_Rest_init_period : visB (defScope s_Rest_init) "period" = true := by decide +kernel
theorem v_Rest_init_self : visB (defScope s_Rest_init) "self" = true := by decide +kernel
theorem v_Rest_init_text : visB (defScope s_Rest_init) "text" = true := by decide +kernel
theorem v_Rest_written_self : visB (defScope s_Rest_written) "self" = true := by decide +kernel
theorem v_Rule_eq_other : visB (defScope s_Rule_eq) "other" = true := by decide +kernel
theorem v_Rule_eq_self : visB (defScope s_Rule_eq) "self" = true := by decide +kernel
theorem v_Rule_init_chips : visB (defScope s_Rule_init) "chips" = true := by decide +kernel
theorem v_Rule_init_name : visB (defScope s_Rule_init) "name" = true := by decide +kernel
theorem v_Rule_init_rest : visB (defScope s_Rule_init) "rest" = true := by decide +kernel
theorem v_Rule_init_self : visB (defScope s_Rule_init) "self" = true := by decide +kernel
theorem v_Rule_str_self : visB (defScope s_Rule_str) "self" = true := by decide +kernel
theorem v_Window_after_self : visB (defScope s_Window_after) "self" = true := by decide +kernel
theorem v_Window_after_t : visB (defScope s_Window_after) "t" = true := by decide +kernel
theorem v_Window_init_self : visB (defScope s_Window_init) "self" = true := by decide +kernel
theorem v_Window_init_width : visB (defScope s_Window_init) "width" = true := by decide +kernel
theorem v_ask_error : visB (defScope s_ask) "error" = true := by decide +kernel
theorem v_ask_law_fault : visB (defScope s_ask) "_law_fault" = true := by decide +kernel
theorem v_ask_law_told : visB (defScope s_ask) "_law_told" = true := by decide +kernel
theorem v_asked_so_1_law_gone : visB (relS cs_asked_so_1 (defScope s_asked_so)) "_law_gone" = true := by decide +kernel
theorem v_asked_so_1_law_one : visB (relS cs_asked_so_1 (defScope s_asked_so)) "_law_one" = true := by decide +kernel
theorem v_asked_so_law_bag_here : visB (defScope s_asked_so) "_law_bag_here" = true := by decide +kernel
theorem v_asked_so_law_base : visB (defScope s_asked_so) "_law_base" = true := by decide +kernel
theorem v_asked_so_law_due : visB (defScope s_asked_so) "_law_due" = true := by decide +kernel
theorem v_asked_so_law_gone : visB (defScope s_asked_so) "_law_gone" = true := by decide +kernel
theorem v_asked_so_law_lets : visB (defScope s_asked_so) "_law_lets" = true := by decide +kernel
theorem v_asked_so_law_parts : visB (defScope s_asked_so) "_law_parts" = true := by decide +kernel
theorem v_asked_so_law_room : visB (defScope s_asked_so) "_law_room" = true := by decide +kernel
theorem v_asked_so_law_rules : visB (defScope s_asked_so) "_law_rules" = true := by decide +kernel
theorem v_asked_so_law_s : visB (defScope s_asked_so) "_law_s" = true := by decide +kernel
theorem v_asked_so_law_step : visB (defScope s_asked_so) "_law_step" = true := by decide +kernel
theorem v_asked_so_law_stop : visB (defScope s_asked_so) "_law_stop" = true := by decide +kernel
theorem v_bag_law_item : visB (defScope s_bag) "_law_item" = true := by decide +kernel
theorem v_bag_law_script : visB (defScope s_bag) "_law_script" = true := by decide +kernel
theorem v_bag_law_seed : visB (defScope s_bag) "_law_seed" = true := by decide +kernel
theorem v_draw_law_bag_here : visB (defScope s_draw) "_law_bag_here" = true := by decide +kernel
theorem v_draw_law_digit : visB (defScope s_draw) "_law_digit" = true := by decide +kernel
theorem v_draw_law_item : visB (defScope s_draw) "_law_item" = true := by decide +kernel
theorem v_draw_law_limit : visB (defScope s_draw) "_law_limit" = true := by decide +kernel
theorem v_fullest_behind : visB (defScope s_fullest) "behind" = true := by decide +kernel
theorem v_fullest_count : visB (defScope s_fullest) "count" = true := by decide +kernel
theorem v_fullest_end : visB (defScope s_fullest) "end" = true := by decide +kernel
theorem v_fullest_moment : visB (defScope s_fullest) "moment" = true := by decide +kernel
theorem v_fullest_moments : visB (defScope s_fullest) "moments" = true := by decide +kernel
theorem v_fullest_most : visB (defScope s_fullest) "most" = true := by decide +kernel
theorem v_fullest_n : visB (defScope s_fullest) "n" = true := by decide +kernel
theorem v_fullest_rest : visB (defScope s_fullest) "rest" = true := by decide +kernel
theorem v_fullest_s : visB (defScope s_fullest) "s" = true := by decide +kernel
theorem v_fullest_start : visB (defScope s_fullest) "start" = true := by decide +kernel
theorem v_fullest_totals : visB (defScope s_fullest) "totals" = true := by decide +kernel
theorem v_fullest_uses : visB (defScope s_fullest) "uses" = true := by decide +kernel
theorem v_given_law_bag_here : visB (defScope s_given) "_law_bag_here" = true := by decide +kernel
theorem v_given_law_parts : visB (defScope s_given) "_law_parts" = true := by decide +kernel
theorem v_given_law_small : visB (defScope s_given) "_law_small" = true := by decide +kernel
theorem v_in_law_high : visB (defScope s_in) "_law_high" = true := by decide +kernel
theorem v_in_law_thing : visB (defScope s_in) "_law_thing" = true := by decide +kernel
theorem v_is_name_sign : visB (defScope s_is_name) "sign" = true := by decide +kernel
theorem v_is_name_value : visB (defScope s_is_name) "value" = true := by decide +kernel
theorem v_is_number_least : visB (defScope s_is_number) "least" = true := by decide +kernel
theorem v_is_number_most : visB (defScope s_is_number) "most" = true := by decide +kernel
theorem v_is_number_value : visB (defScope s_is_number) "value" = true := by decide +kernel
theorem v_is_within_rule : visB (defScope s_is_within) "rule" = true := by decide +kernel
theorem v_is_within_uses : visB (defScope s_is_within) "uses" = true := by decide +kernel
theorem v_ladder_1_every : visB (relS cs_ladder_1 (defScope s_ladder)) "every" = true := by decide +kernel
theorem v_ladder_1_k : visB (relS cs_ladder_1 (defScope s_ladder)) "k" = true := by decide +kernel
theorem v_ladder_1_name : visB (relS cs_ladder_1 (defScope s_ladder)) "name" = true := by decide +kernel
theorem v_ladder_1_size : visB (relS cs_ladder_1 (defScope s_ladder)) "size" = true := by decide +kernel
theorem v_ladder_due_law_parts : visB (defScope s_ladder_due) "_law_parts" = true := by decide +kernel
theorem v_ladder_every : visB (defScope s_ladder) "every" = true := by decide +kernel
theorem v_ladder_name : visB (defScope s_ladder) "name" = true := by decide +kernel
theorem v_ladder_size : visB (defScope s_ladder) "size" = true := by decide +kernel
theorem v_ladder_steps : visB (defScope s_ladder) "steps" = true := by decide +kernel
theorem v_ladder_value : visB (defScope s_ladder) "value" = true := by decide +kernel
theorem v_law_L1_law_parts : visB ls_law_1 "_law_parts" = true := by decide +kernel
theorem v_law_L1_law_way : visB ls_law_1 "_law_way" = true := by decide +kernel
theorem v_law_law_bag_here : visB (defScope s_law) "_law_bag_here" = true := by decide +kernel
theorem v_law_law_due : visB (defScope s_law) "_law_due" = true := by decide +kernel
theorem v_law_law_fault : visB (defScope s_law) "_law_fault" = true := by decide +kernel
theorem v_law_law_parts : visB (defScope s_law) "_law_parts" = true := by decide +kernel
theorem v_law_law_script : visB (defScope s_law) "_law_script" = true := by decide +kernel
theorem v_law_law_told : visB (defScope s_law) "_law_told" = true := by decide +kernel
theorem v_let_1_law_part : visB (relS cs_let_1 (defScope s_let)) "_law_part" = true := by decide +kernel
theorem v_let_2_law_gone : visB (relS cs_let_2 (defScope s_let)) "_law_gone" = true := by decide +kernel
theorem v_let_2_law_one : visB (relS cs_let_2 (defScope s_let)) "_law_one" = true := by decide +kernel
theorem v_let_2_law_s : visB (relS cs_let_2 (defScope s_let)) "_law_s" = true := by decide +kernel
theorem v_let_law_rules : visB (defScope s_let) "_law_rules" = true := by decide +kernel
theorem v_let_law_told : visB (defScope s_let) "_law_told" = true := by decide +kernel
theorem v_like_1_law_a : visB (relS cs_like_1 (defScope s_like)) "_law_a" = true := by decide +kernel
theorem v_like_1_law_b : visB (relS cs_like_1 (defScope s_like)) "_law_b" = true := by decide +kernel
theorem v_like_law_due : visB (defScope s_like) "_law_due" = true := by decide +kernel
theorem v_like_law_told : visB (defScope s_like) "_law_told" = true := by decide +kernel
theorem v_named_1_law_sign : visB (relS cs_named_1 (defScope s_named)) "_law_sign" = true := by decide +kernel
theorem v_named_law_high : visB (defScope s_named) "_law_high" = true := by decide +kernel
theorem v_named_law_thing : visB (defScope s_named) "_law_thing" = true := by decide +kernel
theorem v_odd_1_law_bag_here : visB (relS cs_odd_1 (defScope s_odd)) "_law_bag_here" = true := by decide +kernel
theorem v_odd_2_law_bag_here : visB (relS cs_odd_2 (defScope s_odd)) "_law_bag_here" = true := by decide +kernel
theorem v_odd_law_bag_here : visB (defScope s_odd) "_law_bag_here" = true := by decide +kernel
theorem v_odd_law_pick : visB (defScope s_odd) "_law_pick" = true := by decide +kernel
theorem v_of_law_bag_here : visB (defScope s_of) "_law_bag_here" = true := by decide +kernel
theorem v_of_law_things : visB (defScope s_of) "_law_things" = true := by decide +kernel
theorem v_one_rule_so_L1_law_bag_here : visB ls_one_rule_so_1 "_law_bag_here" = true := by decide +kernel
theorem v_one_rule_so_L1_law_some : visB ls_one_rule_so_1 "_law_some" = true := by decide +kernel
theorem v_one_rule_so_law_bag_here : visB (defScope s_one_rule_so) "_law_bag_here" = true := by decide +kernel
theorem v_one_rule_so_law_fault : visB (defScope s_one_rule_so) "_law_fault" = true := by decide +kernel
theorem v_one_rule_so_law_label : visB (defScope s_one_rule_so) "_law_label" = true := by decide +kernel
theorem v_one_rule_so_law_many : visB (defScope s_one_rule_so) "_law_many" = true := by decide +kernel
theorem v_one_rule_so_law_plain : visB (defScope s_one_rule_so) "_law_plain" = true := by decide +kernel
theorem v_one_rule_so_law_some : visB (defScope s_one_rule_so) "_law_some" = true := by decide +kernel
theorem v_one_rule_so_law_told : visB (defScope s_one_rule_so) "_law_told" = true := by decide +kernel
theorem v_one_rule_so_law_twin_r : visB (defScope s_one_rule_so) "_law_twin_r" = true := by decide +kernel
theorem v_rules_so_law_due : visB (defScope s_rules_so) "_law_due" = true := by decide +kernel
theorem v_rules_so_law_k : visB (defScope s_rules_so) "_law_k" = true := by decide +kernel
theorem v_rules_so_law_one : visB (defScope s_rules_so) "_law_one" = true := by decide +kernel
theorem v_rules_so_law_parts : visB (defScope s_rules_so) "_law_parts" = true := by decide +kernel
theorem v_rules_so_law_rules : visB (defScope s_rules_so) "_law_rules" = true := by decide +kernel
theorem v_rules_so_law_wide : visB (defScope s_rules_so) "_law_wide" = true := by decide +kernel
theorem v_wrong_law_bag_here : visB (defScope s_wrong) "_law_bag_here" = true := by decide +kernel
theorem vl_ask : Vis (defScope s_ask) "_law_deed" := (visB_ok (by decide +kernel)).1
structure Tx (K : PySem.W.Frag) (mg : Str → Option Value) where
  C_Rest : Addr
  m_Rest : mg "Rest" = some (.ref C_Rest)
  C_Window : Addr
  m_Window : mg "Window" = some (.ref C_Window)
  C_Days : Addr
  m_Days : mg "Days" = some (.ref C_Days)
  C_SureletError : Addr
  m_SureletError : mg "SureletError" = some (.ref C_SureletError)
  C_InvalidName : Addr
  m_InvalidName : mg "InvalidName" = some (.ref C_InvalidName)
  C_InvalidNumber : Addr
  m_InvalidNumber : mg "InvalidNumber" = some (.ref C_InvalidNumber)
  C_InvalidRest : Addr
  m_InvalidRest : mg "InvalidRest" = some (.ref C_InvalidRest)
  C_Rule : Addr
  m_Rule : mg "Rule" = some (.ref C_Rule)
  a_InvalidNumber_init : Addr
  cc_InvalidNumber_init : Addr
  cda_InvalidNumber_init : Addr
  fd_InvalidNumber_init : FuncData
  F_InvalidNumber_init : FunS K "__init__" "InvalidNumber.__init__" s_InvalidNumber_init a_InvalidNumber_init fd_InvalidNumber_init cc_InvalidNumber_init cda_InvalidNumber_init
  b_InvalidNumber_init : Binds K fd_InvalidNumber_init P_InvalidNumber_init []
  ce_InvalidNumber_init : ∃ cl cld csl, K.lookup cc_InvalidNumber_init = some ⟨cl, cld, .cell (some (.ref C_InvalidNumber)), csl⟩
  sd_InvalidNumber_init : SupDef P K mg a_InvalidNumber_init C_InvalidNumber cc_InvalidNumber_init cda_InvalidNumber_init "self"
  k_InvalidNumber_init : PySem.W.keepIn K (.ref a_InvalidNumber_init) = true
  a_InvalidName_init : Addr
  cc_InvalidName_init : Addr
  cda_InvalidName_init : Addr
  fd_InvalidName_init : FuncData
  F_InvalidName_init : FunS K "__init__" "InvalidName.__init__" s_InvalidName_init a_InvalidName_init fd_InvalidName_init cc_InvalidName_init cda_InvalidName_init
  b_InvalidName_init : Binds K fd_InvalidName_init P_InvalidName_init []
  ce_InvalidName_init : ∃ cl cld csl, K.lookup cc_InvalidName_init = some ⟨cl, cld, .cell (some (.ref C_InvalidName)), csl⟩
  sd_InvalidName_init : SupDef P K mg a_InvalidName_init C_InvalidName cc_InvalidName_init cda_InvalidName_init "self"
  k_InvalidName_init : PySem.W.keepIn K (.ref a_InvalidName_init) = true
  a_InvalidRest_init : Addr
  cc_InvalidRest_init : Addr
  cda_InvalidRest_init : Addr
  fd_InvalidRest_init : FuncData
  F_InvalidRest_init : FunS K "__init__" "InvalidRest.__init__" s_InvalidRest_init a_InvalidRest_init fd_InvalidRest_init cc_InvalidRest_init cda_InvalidRest_init
  b_InvalidRest_init : Binds K fd_InvalidRest_init P_InvalidRest_init []
  ce_InvalidRest_init : ∃ cl cld csl, K.lookup cc_InvalidRest_init = some ⟨cl, cld, .cell (some (.ref C_InvalidRest)), csl⟩
  sd_InvalidRest_init : SupDef P K mg a_InvalidRest_init C_InvalidRest cc_InvalidRest_init cda_InvalidRest_init "self"
  k_InvalidRest_init : PySem.W.keepIn K (.ref a_InvalidRest_init) = true
  a_is_number : Addr
  fd_is_number : FuncData
  F_is_number : Fun K "is_number" "is_number" s_is_number a_is_number fd_is_number
  b_is_number : Binds K fd_is_number P_is_number []
  k_is_number : PySem.W.keepIn K (.ref a_is_number) = true
  m_is_number : mg "is_number" = some (.ref a_is_number)
  a_is_name : Addr
  fd_is_name : FuncData
  F_is_name : Fun K "is_name" "is_name" s_is_name a_is_name fd_is_name
  b_is_name : Binds K fd_is_name P_is_name []
  k_is_name : PySem.W.keepIn K (.ref a_is_name) = true
  m_is_name : mg "is_name" = some (.ref a_is_name)
  a_Rest_init : Addr
  fd_Rest_init : FuncData
  F_Rest_init : Fun K "__init__" "Rest.__init__" s_Rest_init a_Rest_init fd_Rest_init
  b_Rest_init : Binds K fd_Rest_init P_Rest_init []
  k_Rest_init : PySem.W.keepIn K (.ref a_Rest_init) = true
  a_Rest_call : Addr
  fd_Rest_call : FuncData
  F_Rest_call : Fun K "__call__" "Rest.__call__" s_Rest_call a_Rest_call fd_Rest_call
  b_Rest_call : Binds K fd_Rest_call P_Rest_call []
  k_Rest_call : PySem.W.keepIn K (.ref a_Rest_call) = true
  a_Rest_written : Addr
  fd_Rest_written : FuncData
  F_Rest_written : Fun K "written" "Rest.written" s_Rest_written a_Rest_written fd_Rest_written
  b_Rest_written : Binds K fd_Rest_written P_Rest_written []
  k_Rest_written : PySem.W.keepIn K (.ref a_Rest_written) = true
  a_Rest_eq : Addr
  fd_Rest_eq : FuncData
  F_Rest_eq : Fun K "__eq__" "Rest.__eq__" s_Rest_eq a_Rest_eq fd_Rest_eq
  b_Rest_eq : Binds K fd_Rest_eq P_Rest_eq []
  k_Rest_eq : PySem.W.keepIn K (.ref a_Rest_eq) = true
  a_Window_init : Addr
  cc_Window_init : Addr
  cda_Window_init : Addr
  fd_Window_init : FuncData
  F_Window_init : FunS K "__init__" "Window.__init__" s_Window_init a_Window_init fd_Window_init cc_Window_init cda_Window_init
  b_Window_init : Binds K fd_Window_init P_Window_init []
  ce_Window_init : ∃ cl cld csl, K.lookup cc_Window_init = some ⟨cl, cld, .cell (some (.ref C_Window)), csl⟩
  sd_Window_init : SupDef P K mg a_Window_init C_Window cc_Window_init cda_Window_init "self"
  k_Window_init : PySem.W.keepIn K (.ref a_Window_init) = true
  a_Window_after : Addr
  fd_Window_after : FuncData
  F_Window_after : Fun K "_after" "Window._after" s_Window_after a_Window_after fd_Window_after
  b_Window_after : Binds K fd_Window_after P_Window_after []
  k_Window_after : PySem.W.keepIn K (.ref a_Window_after) = true
  a_Days_init : Addr
  cc_Days_init : Addr
  cda_Days_init : Addr
  fd_Days_init : FuncData
  F_Days_init : FunS K "__init__" "Days.__init__" s_Days_init a_Days_init fd_Days_init cc_Days_init cda_Days_init
  b_Days_init : Binds K fd_Days_init P_Days_init []
  ce_Days_init : ∃ cl cld csl, K.lookup cc_Days_init = some ⟨cl, cld, .cell (some (.ref C_Days)), csl⟩
  sd_Days_init : SupDef P K mg a_Days_init C_Days cc_Days_init cda_Days_init "self"
  k_Days_init : PySem.W.keepIn K (.ref a_Days_init) = true
  a_Days_after : Addr
  fd_Days_after : FuncData
  F_Days_after : Fun K "_after" "Days._after" s_Days_after a_Days_after fd_Days_after
  b_Days_after : Binds K fd_Days_after P_Days_after []
  k_Days_after : PySem.W.keepIn K (.ref a_Days_after) = true
  a_Rule_init : Addr
  fd_Rule_init : FuncData
  F_Rule_init : Fun K "__init__" "Rule.__init__" s_Rule_init a_Rule_init fd_Rule_init
  b_Rule_init : Binds K fd_Rule_init P_Rule_init []
  k_Rule_init : PySem.W.keepIn K (.ref a_Rule_init) = true
  a_Rule_str : Addr
  fd_Rule_str : FuncData
  F_Rule_str : Fun K "__str__" "Rule.__str__" s_Rule_str a_Rule_str fd_Rule_str
  b_Rule_str : Binds K fd_Rule_str P_Rule_str []
  k_Rule_str : PySem.W.keepIn K (.ref a_Rule_str) = true
  a_Rule_eq : Addr
  fd_Rule_eq : FuncData
  F_Rule_eq : Fun K "__eq__" "Rule.__eq__" s_Rule_eq a_Rule_eq fd_Rule_eq
  b_Rule_eq : Binds K fd_Rule_eq P_Rule_eq []
  k_Rule_eq : PySem.W.keepIn K (.ref a_Rule_eq) = true
  a_ladder : Addr
  fd_ladder : FuncData
  F_ladder : Fun K "ladder" "ladder" s_ladder a_ladder fd_ladder
  b_ladder : Binds K fd_ladder P_ladder []
  k_ladder : PySem.W.keepIn K (.ref a_ladder) = true
  m_ladder : mg "ladder" = some (.ref a_ladder)
  a_fullest : Addr
  fd_fullest : FuncData
  F_fullest : Fun K "fullest" "fullest" s_fullest a_fullest fd_fullest
  b_fullest : Binds K fd_fullest P_fullest []
  k_fullest : PySem.W.keepIn K (.ref a_fullest) = true
  m_fullest : mg "fullest" = some (.ref a_fullest)
  a_is_within : Addr
  fd_is_within : FuncData
  F_is_within : Fun K "is_within" "is_within" s_is_within a_is_within fd_is_within
  b_is_within : Binds K fd_is_within P_is_within []
  k_is_within : PySem.W.keepIn K (.ref a_is_within) = true
  m_is_within : mg "is_within" = some (.ref a_is_within)
  a_bag : Addr
  fd_bag : FuncData
  F_bag : Fun K "_law_bag" "_law_bag" s_bag a_bag fd_bag
  b_bag : Binds K fd_bag P_bag []
  k_bag : PySem.W.keepIn K (.ref a_bag) = true
  m_bag : mg "_law_bag" = some (.ref a_bag)
  a_draw : Addr
  fd_draw : FuncData
  F_draw : Fun K "_law_draw" "_law_draw" s_draw a_draw fd_draw
  b_draw : Binds K fd_draw P_draw []
  k_draw : PySem.W.keepIn K (.ref a_draw) = true
  m_draw : mg "_law_draw" = some (.ref a_draw)
  a_of : Addr
  fd_of : FuncData
  F_of : Fun K "_law_of" "_law_of" s_of a_of fd_of
  b_of : Binds K fd_of P_of []
  k_of : PySem.W.keepIn K (.ref a_of) = true
  m_of : mg "_law_of" = some (.ref a_of)
  a_like : Addr
  fd_like : FuncData
  F_like : Fun K "_law_like" "_law_like" s_like a_like fd_like
  b_like : Binds K fd_like P_like []
  k_like : PySem.W.keepIn K (.ref a_like) = true
  m_like : mg "_law_like" = some (.ref a_like)
  a_odd : Addr
  fd_odd : FuncData
  F_odd : Fun K "_law_odd" "_law_odd" s_odd a_odd fd_odd
  b_odd : Binds K fd_odd P_odd []
  k_odd : PySem.W.keepIn K (.ref a_odd) = true
  m_odd : mg "_law_odd" = some (.ref a_odd)
  a_ask : Addr
  fd_ask : FuncData
  F_ask : Fun K "_law_ask" "_law_ask" s_ask a_ask fd_ask
  b_ask : Binds K fd_ask P_ask []
  k_ask : PySem.W.keepIn K (.ref a_ask) = true
  m_ask : mg "_law_ask" = some (.ref a_ask)
  a_in : Addr
  fd_in : FuncData
  F_in : Fun K "_law_in" "_law_in" s_in a_in fd_in
  b_in : Binds K fd_in P_in []
  k_in : PySem.W.keepIn K (.ref a_in) = true
  m_in : mg "_law_in" = some (.ref a_in)
  a_named : Addr
  fd_named : FuncData
  F_named : Fun K "_law_named" "_law_named" s_named a_named fd_named
  b_named : Binds K fd_named P_named []
  k_named : PySem.W.keepIn K (.ref a_named) = true
  m_named : mg "_law_named" = some (.ref a_named)
  a_wrong : Addr
  fd_wrong : FuncData
  F_wrong : Fun K "_law_wrong" "_law_wrong" s_wrong a_wrong fd_wrong
  b_wrong : Binds K fd_wrong P_wrong []
  k_wrong : PySem.W.keepIn K (.ref a_wrong) = true
  m_wrong : mg "_law_wrong" = some (.ref a_wrong)
  a_given : Addr
  fd_given : FuncData
  F_given : Fun K "_law_given" "_law_given" s_given a_given fd_given
  b_given : Binds K fd_given P_given []
  k_given : PySem.W.keepIn K (.ref a_given) = true
  m_given : mg "_law_given" = some (.ref a_given)
  a_ladder_due : Addr
  fd_ladder_due : FuncData
  F_ladder_due : Fun K "_law_ladder_due" "_law_ladder_due" s_ladder_due a_ladder_due fd_ladder_due
  b_ladder_due : Binds K fd_ladder_due P_ladder_due []
  k_ladder_due : PySem.W.keepIn K (.ref a_ladder_due) = true
  m_ladder_due : mg "_law_ladder_due" = some (.ref a_ladder_due)
  a_rules_so : Addr
  fd_rules_so : FuncData
  F_rules_so : Fun K "_law_rules_so" "_law_rules_so" s_rules_so a_rules_so fd_rules_so
  b_rules_so : Binds K fd_rules_so P_rules_so []
  k_rules_so : PySem.W.keepIn K (.ref a_rules_so) = true
  m_rules_so : mg "_law_rules_so" = some (.ref a_rules_so)
  a_let : Addr
  fd_let : FuncData
  F_let : Fun K "_law_let" "_law_let" s_let a_let fd_let
  b_let : Binds K fd_let P_let []
  k_let : PySem.W.keepIn K (.ref a_let) = true
  m_let : mg "_law_let" = some (.ref a_let)
  a_asked_so : Addr
  fd_asked_so : FuncData
  F_asked_so : Fun K "_law_asked_so" "_law_asked_so" s_asked_so a_asked_so fd_asked_so
  b_asked_so : Binds K fd_asked_so P_asked_so []
  k_asked_so : PySem.W.keepIn K (.ref a_asked_so) = true
  m_asked_so : mg "_law_asked_so" = some (.ref a_asked_so)
  a_one_rule_so : Addr
  fd_one_rule_so : FuncData
  cda_one_rule_so : Addr
  tb_one_rule_so : Addr
  F_one_rule_so : FunL K "_law_one_rule_so" "_law_one_rule_so" s_one_rule_so a_one_rule_so fd_one_rule_so cda_one_rule_so
  b_one_rule_so : Binds K fd_one_rule_so P_one_rule_so []
  k_one_rule_so : PySem.W.keepIn K (.ref a_one_rule_so) = true
  m_one_rule_so : mg "_law_one_rule_so" = some (.ref a_one_rule_so)
  a_law : Addr
  fd_law : FuncData
  cda_law : Addr
  tb_law : Addr
  F_law : FunL K "law" "law" s_law a_law fd_law cda_law
  b_law : Binds K fd_law P_law []
  k_law : PySem.W.keepIn K (.ref a_law) = true
  m_law : mg "law" = some (.ref a_law)
  tne_one_rule_so_law : tb_one_rule_so ≠ tb_law
  n_all : mg "all" = none
  n_bool : mg "bool" = none
  n_dict : mg "dict" = none
  n_enumerate : mg "enumerate" = none
  n_int : mg "int" = none
  n_isinstance : mg "isinstance" = none
  n_len : mg "len" = none
  n_list : mg "list" = none
  n_max : mg "max" = none
  n_range : mg "range" = none
  n_sorted : mg "sorted" = none
  n_str : mg "str" = none
  n_super : mg "super" = none
  n_tuple : mg "tuple" = none
  n_zip : mg "zip" = none
  t_BORDERS : Tok
  m_BORDERS : mg "BORDERS" = some (.int 12 t_BORDERS)
  r_BORDERS : RelV (.int 12) (.int 12 t_BORDERS)
  t_DIGITS : Tok
  m_DIGITS : mg "DIGITS" = some (.str "0123456789" t_DIGITS)
  r_DIGITS : RelV (.str "0123456789") (.str "0123456789" t_DIGITS)
  t_LETTERS : Tok
  m_LETTERS : mg "LETTERS" = some (.str "abcdefghijklmnopqrstuvwxyz" t_LETTERS)
  r_LETTERS : RelV (.str "abcdefghijklmnopqrstuvwxyz") (.str "abcdefghijklmnopqrstuvwxyz" t_LETTERS)
  kb_Rule_init_rest_name_chips : KBinds K fd_Rule_init P_Rule_init ["rest", "name", "chips"] (fun (us ws : List Value) => match us, ws with | [u0], [w0, w1, w2] => [u0, w1, w2, w0] | _, _ => []) (fun (us ws : List V) => match us, ws with | [u0], [w0, w1, w2] => [u0, w1, w2, w0] | _, _ => [])
  kb_is_within_rule_uses : KBinds K fd_is_within P_is_within ["rule", "uses"] (fun (us ws : List Value) => match us, ws with | [], [w0, w1] => [w0, w1] | _, _ => []) (fun (us ws : List V) => match us, ws with | [], [w0, w1] => [w0, w1] | _, _ => [])
  kb_ladder_size_name_steps_every : KBinds K fd_ladder P_ladder ["size", "name", "steps", "every"] (fun (us ws : List Value) => match us, ws with | [], [w0, w1, w2, w3] => [w1, w0, w3, w2] | _, _ => []) (fun (us ws : List V) => match us, ws with | [], [w0, w1, w2, w3] => [w1, w0, w3, w2] | _, _ => [])
  kb_int_Rest : PySem.W.kitOne K (.type "int") (.ref C_Rest) = some false
  kb_bool_Rest : PySem.W.kitOne K (.type "bool") (.ref C_Rest) = some false
  kb_str_Rest : PySem.W.kitOne K (.type "str") (.ref C_Rest) = some false
  kb_NoneType_Rest : PySem.W.kitOne K (.type "NoneType") (.ref C_Rest) = some false
  kb_list_Rest : PySem.W.kitOne K (.type "list") (.ref C_Rest) = some false
  kb_tuple_Rest : PySem.W.kitOne K (.type "tuple") (.ref C_Rest) = some false
  kb_dict_Rest : PySem.W.kitOne K (.type "dict") (.ref C_Rest) = some false
  cl_Window : Cls K C_Window
  mk_Window : Mk K C_Window a_Window_init
  ty_Window : ClsTy K C_Window
  kt_Window_Rest : PySem.W.kitOne K (.ref C_Window) (.ref C_Rest) = some true
  kt_Window_Window : PySem.W.kitOne K (.ref C_Window) (.ref C_Window) = some true
  su_Window : SupAt K C_Window C_Window a_Rest_init "__init__"
  no_Window_text : NoAttr K C_Window "_text"
  no_Window_forms : NoAttr K C_Window "_forms"
  no_Window_period : NoAttr K C_Window "_period"
  no_Window_bend : NoAttr K C_Window "_bend"
  no_Window_width : NoAttr K C_Window "width"
  me_Window_after : Meth K C_Window "_after" a_Window_after
  me_Window_written : Meth K C_Window "written" a_Rest_written
  co_Window : StX.CallO K C_Window a_Rest_call
  eqf_Window : PySem.W.findIn K (.ref C_Window) "__eq__" = some (some (.ref a_Rest_eq))
  eqi_Window : PySem.W.isFn K (.ref a_Rest_eq) = true
  nf_Window_str : PySem.W.notFirst K C_Window (.type "str") = true
  nf_Window_int : PySem.W.notFirst K C_Window (.type "int") = true
  nf_Window : PySem.W.notFirst K C_Window (.ref C_Window) = true
  nf_Window_Days : PySem.W.notFirst K C_Window (.ref C_Days) = true
  kb_int_Window : PySem.W.kitOne K (.type "int") (.ref C_Window) = some false
  kb_bool_Window : PySem.W.kitOne K (.type "bool") (.ref C_Window) = some false
  kb_str_Window : PySem.W.kitOne K (.type "str") (.ref C_Window) = some false
  kb_NoneType_Window : PySem.W.kitOne K (.type "NoneType") (.ref C_Window) = some false
  kb_list_Window : PySem.W.kitOne K (.type "list") (.ref C_Window) = some false
  kb_tuple_Window : PySem.W.kitOne K (.type "tuple") (.ref C_Window) = some false
  kb_dict_Window : PySem.W.kitOne K (.type "dict") (.ref C_Window) = some false
  cl_Days : Cls K C_Days
  mk_Days : Mk K C_Days a_Days_init
  ty_Days : ClsTy K C_Days
  kt_Days_Rest : PySem.W.kitOne K (.ref C_Days) (.ref C_Rest) = some true
  kt_Days_Window : PySem.W.kitOne K (.ref C_Days) (.ref C_Window) = some false
  kt_Days_Days : PySem.W.kitOne K (.ref C_Days) (.ref C_Days) = some true
  su_Days : SupAt K C_Days C_Days a_Rest_init "__init__"
  no_Days_text : NoAttr K C_Days "_text"
  no_Days_forms : NoAttr K C_Days "_forms"
  no_Days_period : NoAttr K C_Days "_period"
  no_Days_bend : NoAttr K C_Days "_bend"
  no_Days_every : NoAttr K C_Days "every"
  no_Days_borders : NoAttr K C_Days "_borders"
  me_Days_after : Meth K C_Days "_after" a_Days_after
  me_Days_written : Meth K C_Days "written" a_Rest_written
  co_Days : StX.CallO K C_Days a_Rest_call
  eqf_Days : PySem.W.findIn K (.ref C_Days) "__eq__" = some (some (.ref a_Rest_eq))
  eqi_Days : PySem.W.isFn K (.ref a_Rest_eq) = true
  nf_Days_str : PySem.W.notFirst K C_Days (.type "str") = true
  nf_Days_int : PySem.W.notFirst K C_Days (.type "int") = true
  nf_Days : PySem.W.notFirst K C_Days (.ref C_Days) = true
  nf_Days_Window : PySem.W.notFirst K C_Days (.ref C_Window) = true
  kb_int_Days : PySem.W.kitOne K (.type "int") (.ref C_Days) = some false
  kb_bool_Days : PySem.W.kitOne K (.type "bool") (.ref C_Days) = some false
  kb_str_Days : PySem.W.kitOne K (.type "str") (.ref C_Days) = some false
  kb_NoneType_Days : PySem.W.kitOne K (.type "NoneType") (.ref C_Days) = some false
  kb_list_Days : PySem.W.kitOne K (.type "list") (.ref C_Days) = some false
  kb_tuple_Days : PySem.W.kitOne K (.type "tuple") (.ref C_Days) = some false
  kb_dict_Days : PySem.W.kitOne K (.type "dict") (.ref C_Days) = some false
  oex_InvalidName : OexC K C_InvalidName
  se_InvalidName : SupAtE K C_InvalidName C_InvalidName
  xf_InvalidName : XfC K C_InvalidName
  ii_InvalidName : PySem.W.findIn K (.ref C_InvalidName) "__init__" = some (some (.ref a_InvalidName_init))
  ti_InvalidName : PySem.W.typeIn K (.ref a_InvalidName_init) = some (.type "function")
  exm_InvalidName_InvalidName : PySem.W.exmOne K (.ref C_InvalidName) (.ref C_InvalidName) = some true
  no_InvalidName_value : NoAttr K C_InvalidName "value"
  no_InvalidName_code : NoAttr K C_InvalidName "code"
  oex_InvalidNumber : OexC K C_InvalidNumber
  se_InvalidNumber : SupAtE K C_InvalidNumber C_InvalidNumber
  xf_InvalidNumber : XfC K C_InvalidNumber
  ii_InvalidNumber : PySem.W.findIn K (.ref C_InvalidNumber) "__init__" = some (some (.ref a_InvalidNumber_init))
  ti_InvalidNumber : PySem.W.typeIn K (.ref a_InvalidNumber_init) = some (.type "function")
  exm_InvalidNumber_InvalidName : PySem.W.exmOne K (.ref C_InvalidNumber) (.ref C_InvalidName) = some false
  exm_InvalidNumber_InvalidNumber : PySem.W.exmOne K (.ref C_InvalidNumber) (.ref C_InvalidNumber) = some true
  no_InvalidNumber_value : NoAttr K C_InvalidNumber "value"
  no_InvalidNumber_code : NoAttr K C_InvalidNumber "code"
  oex_InvalidRest : OexC K C_InvalidRest
  se_InvalidRest : SupAtE K C_InvalidRest C_InvalidRest
  xf_InvalidRest : XfC K C_InvalidRest
  ii_InvalidRest : PySem.W.findIn K (.ref C_InvalidRest) "__init__" = some (some (.ref a_InvalidRest_init))
  ti_InvalidRest : PySem.W.typeIn K (.ref a_InvalidRest_init) = some (.type "function")
  exm_InvalidRest_InvalidName : PySem.W.exmOne K (.ref C_InvalidRest) (.ref C_InvalidName) = some false
  exm_InvalidRest_InvalidNumber : PySem.W.exmOne K (.ref C_InvalidRest) (.ref C_InvalidNumber) = some false
  exm_InvalidRest_InvalidRest : PySem.W.exmOne K (.ref C_InvalidRest) (.ref C_InvalidRest) = some true
  no_InvalidRest_value : NoAttr K C_InvalidRest "value"
  no_InvalidRest_code : NoAttr K C_InvalidRest "code"
  cl_Rule : Cls K C_Rule
  mk_Rule : Mk K C_Rule a_Rule_init
  ty_Rule : ClsTy K C_Rule
  kt_Rule_Rule : PySem.W.kitOne K (.ref C_Rule) (.ref C_Rule) = some true
  strf_Rule : PySem.W.findIn K (.ref C_Rule) "__str__" = some (some (.ref a_Rule_str))
  stri_Rule : PySem.W.isFn K (.ref a_Rule_str) = true
  eqf_Rule : PySem.W.findIn K (.ref C_Rule) "__eq__" = some (some (.ref a_Rule_eq))
  eqi_Rule : PySem.W.isFn K (.ref a_Rule_eq) = true
  nf_Rule_str : PySem.W.notFirst K C_Rule (.type "str") = true
  nf_Rule_int : PySem.W.notFirst K C_Rule (.type "int") = true
  nf_Rule : PySem.W.notFirst K C_Rule (.ref C_Rule) = true
  no_Rule_name : NoAttr K C_Rule "name"
  no_Rule_chips : NoAttr K C_Rule "chips"
  no_Rule_rest : NoAttr K C_Rule "rest"
  kb_int_Rule : PySem.W.kitOne K (.type "int") (.ref C_Rule) = some false
  kb_bool_Rule : PySem.W.kitOne K (.type "bool") (.ref C_Rule) = some false
  kb_str_Rule : PySem.W.kitOne K (.type "str") (.ref C_Rule) = some false
  kb_NoneType_Rule : PySem.W.kitOne K (.type "NoneType") (.ref C_Rule) = some false
  kb_list_Rule : PySem.W.kitOne K (.type "list") (.ref C_Rule) = some false
  kb_tuple_Rule : PySem.W.kitOne K (.type "tuple") (.ref C_Rule) = some false
  kb_dict_Rule : PySem.W.kitOne K (.type "dict") (.ref C_Rule) = some false

/-! ### the bag -/
/-- what stands in a law's bag, the list l behind it -/
abbrev bagL (l : Addr) (i r s c : Int) : HO := .lst [.ref l, .int i, .int r, .int s, .int c]
structure Bag (K : PySem.W.Frag) (G0 G : Hp) (b : Addr) (β : HO) : Prop where
  nb : G b = none
  sm : Same G0 G
  ex : ∃ (l : Addr) (ns : List Int) (i r s c : Int), β = bagL l i r s c ∧ SqL K G0 l (ns.map V.int) ∧ 0 ≤ i ∧ 0 ≤ r ∧ 0 ≤ s ∧ s < 2147483647
theorem Bag.up0 {K : PySem.W.Frag} {G0 G G' : Hp} {b : Addr} {β : HO} (h : Bag K G0 G b β) (e : Same G0 G') (n : G' b = none) : Bag K G0 G' b β := ⟨n, e, h.ex⟩
theorem Bag.up {K : PySem.W.Frag} {G0 G G' : Hp} {b : Addr} {β : HO} (h : Bag K G0 G b β) (e : Same G G') (n : G' b = none) : Bag K G0 G' b β := h.up0 (h.sm.trans e) n
def spDraw (K : PySem.W.Frag) : Sp := fun vs H Q _ => ∃ (G0 G : Hp) (b : Addr) (β : HO) (n : Int), vs = [.ref b, .int n] ∧ H = upd G b β ∧ Bag K G0 G b β ∧ 0 < n ∧ n < 2 ^ 30 ∧
  ∀ d β', 0 ≤ d → d < n → Bag K G0 G b β' → Q (.int d) (upd G b β')
theorem mod_bd {x m : Int} (h : 0 < m) : 0 ≤ x % m ∧ x % m < m := ⟨Int.emod_nonneg _ (by omega), Int.emod_lt_of_pos _ h⟩
theorem ix_ints {ns : List Int} {i : Int} (h0 : 0 ≤ i) (h1 : i < ((ns.map V.int).length : Nat)) : ∃ z, atI (ns.map V.int) i = some (.int z) := by
  rw [List.length_map] at h1
  obtain ⟨j, rfl⟩ := Int.eq_ofNat_of_zero_le h0
  have hj : j < ns.length := by omega
  exact ⟨ns[j], atI_nat (by rw [List.getElem?_map, List.getElem?_eq_getElem hj]; rfl)⟩
theorem at_mem {α : Type} {xs : List α} {d : Int} (h0 : 0 ≤ d) (h1 : d < (xs.length : Nat)) : ∃ v, atI xs d = some v ∧ v ∈ xs := by
  obtain ⟨j, rfl⟩ := Int.eq_ofNat_of_zero_le h0
  have hj : j < xs.length := by omega
  exact ⟨xs[j], atI_nat (List.getElem?_eq_getElem hj), List.getElem_mem hj⟩
/-- one of some things by a draw -/
def spOf (K : PySem.W.Frag) : Sp := fun vs H Q _ => ∃ (G0 G : Hp) (b : Addr) (β : HO) (x : V), vs = [.ref b, x] ∧ H = upd G b β ∧ Bag K G0 G b β ∧
  match x with
  | .ref p => ∃ xs, SqL K G p xs ∧ 0 < xs.length ∧ xs.length < 2 ^ 30 ∧ ∀ v β', v ∈ xs → Bag K G0 G b β' → Q v (upd G b β')
  | .str z => 0 < z.length ∧ z.length ≤ 1000000 ∧ ∀ c β', c ∈ z.cps.toList → Bag K G0 G b β' → Q (.str ⟨#[c]⟩) (upd G b β')
  | _ => False
theorem k_draw {K : PySem.W.Frag} {G0 G : Hp} {b : Addr} {β : HO} {n : Int} {Q : VK} {E : XK} (hb : Bag K G0 G b β) (h0 : 0 < n) (h1 : n < 2 ^ 30) (k : ∀ d β', 0 ≤ d → d < n → Bag K G0 G b β' → Q (.int d) (upd G b β')) : spDraw K [.ref b, .int n] (upd G b β) Q E :=
  ⟨G0, G, b, β, n, rfl, rfl, hb, h0, h1, k⟩
theorem k_of {K : PySem.W.Frag} {G0 G : Hp} {b p : Addr} {β : HO} {xs : List V} {Q : VK} {E : XK} (hb : Bag K G0 G b β) (hx : SqL K G p xs) (h0 : 0 < xs.length) (h1 : xs.length < 2 ^ 30) (k : ∀ v β', v ∈ xs → Bag K G0 G b β' → Q v (upd G b β')) : spOf K [.ref b, .ref p] (upd G b β) Q E :=
  ⟨G0, G, b, β, .ref p, rfl, rfl, hb, xs, hx, h0, h1, k⟩
section
variable {w : World} {K : PySem.W.Frag} {mg : Str → Option Value} {base : Heap}
theorem ok_draw (T : Tx K mg) : FnOk P w K mg base CX0 1 T.a_draw T.fd_draw P_draw (spDraw K) := by
  refine T.F_draw.ok sc_draw (fun vs H Q E h => ?_) (fun cdv A outer s H vs Q E hr h => ?_)
  · obtain ⟨G0, G, b, β, n, rfl, _⟩ := h
    rfl
  · obtain ⟨G0, G, b, β, n, rfl, rfl, ⟨nb, sm0, l, ns, i, r, sd, c, rfl, hl, hi, hr0, hs0, hs1⟩, hn0, hn1, k⟩ := h
    have nd := sc_draw.nd
    refine ⟨_, (pss_cons (ps_asg (pe_op kop_add (pe_ix (kix K) (kv (i := 0) v_draw_law_bag_here) pe_int (fun _ _ => rfl)) pe_int) (pg_sub (kv (i := 0) v_draw_law_bag_here) pe_int set_list))
      (kss_meet (ps_if (PW.pt (pw_and (pt_cmpR op_eq (pe_ix (kix K) (kv (i := 0) v_draw_law_bag_here) pe_int (fun _ _ => rfl)) pe_int (nomark _)) (pw_and1 (pt_cmpR op_lt (pe_ix (kix K) (kv (i := 0) v_draw_law_bag_here) pe_int (fun _ _ => rfl)) (kcB b_len (by decide) (by decide) (kc_len K) g_draw_len T.n_len (pa_cons (pe_ix (kix K) (kv (i := 0) v_draw_law_bag_here) pe_int (fun _ _ => rfl)) pa_nil)) (nomark _))))) (pss_cons (ks_setL (i := 2) nd l_draw_law_item (pe_ix (kix K) (pe_ix (kix K) (kv (i := 0) v_draw_law_bag_here) pe_int (fun _ _ => rfl)) (pe_ix (kix K) (kv (i := 0) v_draw_law_bag_here) pe_int (fun _ _ => rfl)) (fun _ _ => rfl)))
      (pss_cons (ps_asg (pe_op kop_add (pe_ix (kix K) (kv (i := 0) v_draw_law_bag_here) pe_int (fun _ _ => rfl)) pe_int) (pg_sub (kv (i := 0) v_draw_law_bag_here) pe_int set_list))
      (pss_one (ps_if (pt_cmpR op_ge (kv (i := 2) v_draw_law_item) (pe_op op_pow pe_int pe_int) (nomark _)) (pss_one (ps_asg (kv (i := 2) v_draw_law_item) (pg_sub (kv (i := 0) v_draw_law_bag_here) pe_int set_list))) (pss_one (ps_asg (pe_op op_mod (kcT b_int (by decide) (by decide) kc_int g_draw_int T.n_int (pa_cons (pe_op kop_add (pe_op kop_add (pe_op op_mul (pe_ix (kix K) (kv (i := 0) v_draw_law_bag_here) pe_int (fun _ _ => rfl)) pe_int) (pe_op op_mul (pe_op op_mod (kcT b_int (by decide) (by decide) kc_int g_draw_int T.n_int (pa_cons (kv (i := 2) v_draw_law_item) pa_nil)) pe_int) pe_int)) pe_int) pa_nil)) pe_int) (pg_sub (kv (i := 0) v_draw_law_bag_here) pe_int set_list))))))) pss_nil)
      (pss_cons (ps_if (pt_cmpR op_gt (pe_ix (kix K) (kv (i := 0) v_draw_law_bag_here) pe_int (fun _ _ => rfl)) pe_int (nomark _)) (pss_cons (ks_setL (i := 3) nd l_draw_law_digit (pe_op op_mod (kcT b_int (by decide) (by decide) kc_int g_draw_int T.n_int (pa_cons (pe_ix (kix K) (kv (i := 0) v_draw_law_bag_here) pe_int (fun _ _ => rfl)) pa_nil)) (kv (i := 1) v_draw_law_limit)))
      (pss_cons (ps_asg (pe_op op_fdiv (pe_ix (kix K) (kv (i := 0) v_draw_law_bag_here) pe_int (fun _ _ => rfl)) (kv (i := 1) v_draw_law_limit)) (pg_sub (kv (i := 0) v_draw_law_bag_here) pe_int set_list))
      (pss_one (ps_ret (kv (i := 3) v_draw_law_digit))))) pss_nil)
      (pss_cons (ps_asg (pe_op op_mod (kcT b_int (by decide) (by decide) kc_int g_draw_int T.n_int (pa_cons (pe_op kop_add (pe_op kop_add (pe_op op_pow (pe_ix (kix K) (kv (i := 0) v_draw_law_bag_here) pe_int (fun _ _ => rfl)) pe_int) (pe_op op_mul (pe_ix (kix K) (kv (i := 0) v_draw_law_bag_here) pe_int (fun _ _ => rfl)) pe_int)) pe_int) pa_nil)) pe_int) (pg_sub (kv (i := 0) v_draw_law_bag_here) pe_int set_list))
      (pss_one (ps_ret (pe_op op_mod (kcT b_int (by decide) (by decide) kc_int g_draw_int T.n_int (pa_cons (pe_op kop_add (pe_op op_fdiv (pe_ix (kix K) (kv (i := 0) v_draw_law_bag_here) pe_int (fun _ _ => rfl)) pe_int) (pe_op op_mul (pe_op op_mod (kcT b_int (by decide) (by decide) kc_int g_draw_int T.n_int (pa_cons (pe_ix (kix K) (kv (i := 0) v_draw_law_bag_here) pe_int (fun _ _ => rfl)) pa_nil)) pe_int) pe_int)) pa_nil)) (kv (i := 1) v_draw_law_limit)))))))), ?_⟩
    walk_at "ss"
    refine k_meet (fun σ H => ∃ i r s v, σ = [some (.ref b), some (.int n), v, none] ∧ H = upd G b (bagL l i r s (c + 1)) ∧ 0 ≤ i ∧ 0 ≤ r ∧ 0 ≤ s ∧ s < 2147483647) ?_ ?_
    · have hl' : SqL K (upd G b (bagL l i r sd (c + 1))) l (ns.map V.int) := (up_same nb).seq (sm0.seq hl)
      walk_at "ss"
      refine k_d (fun h0 => ?_) (fun h0 => ?_)
      · walk_at "ss"
        refine k_d (fun h1 => ?_) (fun h1 => ?_)
        · obtain ⟨z, hz⟩ := ix_ints hi h1
          walk_at "ss"
          refine k_ixL hl' hz ?_
          walk_at "ss"
          refine k_d (fun h2 => ?_) (fun h2 => ?_)
          · walk_at "ss"
            have e18 : (10 : Int) ^ Int.toNat 18 = 1000000000000000000 := by decide
            rw [e18] at h2
            exact ⟨i + 1, z, sd, _, rfl, rfl, by omega, by omega, hs0, hs1⟩
          · walk_at "ss"
            exact ⟨i + 1, r, _, _, rfl, rfl, by omega, by omega, (mod_bd (by decide)).1, Int.lt_trans (mod_bd (by decide)).2 (by decide)⟩
        · walk_at "ss"
          exact ⟨i, r, sd, _, rfl, rfl, hi, hr0, hs0, hs1⟩
      · walk_at "ss"
        exact ⟨i, r, sd, _, rfl, rfl, hi, hr0, hs0, hs1⟩
    · rintro σ H ⟨i, r, sd, v, rfl, rfl, hi, hr0, hs0, hs1⟩
      walk_at "ss"
      refine k_d (fun h0 => ?_) (fun h0 => ?_)
      · walk_at "ss"
        have q := mod_bd (x := r) hn0
        exact k _ _ q.1 q.2 ⟨nb, sm0, l, ns, _, _, _, _, rfl, hl, hi, Int.ediv_nonneg hr0 (by omega), hs0, hs1⟩
      · walk_at "ss"
        exact k _ _ (mod_bd hn0).1 (mod_bd hn0).2 ⟨nb, sm0, l, ns, _, _, _, _, rfl, hl, hi, hr0, (mod_bd (by decide)).1, Int.lt_trans (mod_bd (by decide)).2 (by decide)⟩
theorem ok_of (T : Tx K mg) : FnOk P w K mg base CX0 2 T.a_of T.fd_of P_of (spOf K) := by
  refine T.F_of.ok sc_of (fun vs H Q E h => ?_) (fun cdv A outer s H vs Q E hr h => ?_)
  · obtain ⟨G0, G, b, β, x, rfl, _⟩ := h
    rfl
  · obtain ⟨G0, G, b, β, x, rfl, rfl, hb, h⟩ := h
    have nd := sc_of.nd
    refine ⟨_, (pss_one (ps_ret (pe_ix (kix K) (kv (i := 1) v_of_law_things) (pe_call (ok_draw T) (hr.mono (by first | decide | omega)) g_of_law_draw T.m_draw T.k_draw T.b_draw .nil pass0 (pa_cons (kv (i := 0) v_of_law_bag_here) (pa_cons (kcB b_len (by decide) (by decide) (kc_len K) g_of_len T.n_len (pa_cons (kv (i := 1) v_of_law_things) pa_nil)) pa_nil))) (fun _ _ => rfl)))), ?_⟩
    cases x with
    | ref p =>
      obtain ⟨xs, hx, hl0, hl1, k⟩ := h
      have hx' : ∀ β', SqL K (upd G b β') p xs := fun β' => (up_same hb.nb).seq hx
      have hx1 := hx' β
      walk_at "ss"
      refine k_draw hb (by omega) (by omega) fun d β' h0 h1 hb' => ?_
      obtain ⟨v, hv, hm⟩ := at_mem h0 h1
      refine k_ixL (hx' _) hv ?_
      exact k v β' hm hb'
    | str z =>
      obtain ⟨hl0, hl1, k⟩ := h
      walk_at "ss"
      refine k_lenS (small_size hl1) ?_
      walk_at "ss"
      refine k_draw hb (by omega) (by omega) fun d β' h0 h1 hb' => ?_
      obtain ⟨c, hc, hm⟩ := at_mem (xs := z.cps.toList) h0 (by rw [Array.length_toList]; exact h1)
      refine k_ixS (small_size hl1) hc ?_
      exact k c β' hm hb'
    | _ => exact h.elim
/-- the bag of a script -/
def spBag (K : PySem.W.Frag) : Sp := fun vs H Q _ => ∃ (a : Addr) (ns : List Int), vs = [.ref a] ∧ SqL K H a (ns.map V.int) ∧ ∀ b G β, Same H G → Bag K G G b β → Q (.ref b) (upd G b β)
theorem ok_bag (T : Tx K mg) : FnOk P w K mg base CX0 1 T.a_bag T.fd_bag P_bag (spBag K) := by
  refine T.F_bag.ok sc_bag (fun vs H Q E h => ?_) (fun cdv A outer s H vs Q E hr h => ?_)
  · obtain ⟨a, ns, rfl, _⟩ := h
    rfl
  · obtain ⟨a, ns, rfl, hl, k⟩ := h
    have nd := sc_bag.nd
    refine ⟨_, (pss_cons (ks_setL (i := 1) nd l_bag_law_seed pe_int)
      (pss_cons (ps_for PassesOwn.never rfl (kpi_list K (pe_slice (ksl_list K) (kv (i := 0) v_bag_law_script) po_none (po_some pe_int))) (kgL (i := 2) nd l_bag_law_item) (pss_one (ks_setL (i := 1) nd l_bag_law_seed (pe_op op_mod (kcT b_int (by decide) (by decide) kc_int g_bag_int T.n_int (pa_cons (pe_op kop_add (pe_op kop_add (pe_op op_mul (kv (i := 1) v_bag_law_seed) pe_int) (pe_op op_mod (kcT b_int (by decide) (by decide) kc_int g_bag_int T.n_int (pa_cons (kv (i := 2) v_bag_law_item) pa_nil)) pe_int)) pe_int) pa_nil)) pe_int))))
      (pss_one (ps_ret (pe_lst (pa_cons (kcT b_list (by decide) (by decide) (kc_list K) g_bag_list T.n_list (pa_cons (pe_slice (ksl_list K) (kv (i := 0) v_bag_law_script) po_none (po_some pe_int)) pa_nil)) (pa_cons pe_int (pa_cons pe_int (pa_cons (kv (i := 1) v_bag_law_seed) (pa_cons pe_int pa_nil)))))))))), ?_⟩
    walk_at "ss"
    refine k_slL hl ?_
    intro p np
    obtain ⟨ms, hms⟩ := cut_ints (ns := ns) (lo := none) (hi := some 63)
    rw [hms]
    have e1 := same_new (o := .lst (ms.map V.int)) np
    refine k_iL (SqL.of upd_same) ?_
    refine k_forList (ms.map V.int) (fun i σ H' => ∃ sd v, σ = [some (.ref a), some (.int sd), v] ∧ H' = upd H p (.lst (ms.map V.int)) ∧ 0 ≤ sd ∧ sd < 2147483647) ⟨_, _, rfl, rfl, by decide, by decide⟩ ?_ ?_ ?_
    · rintro i σ H' _ ⟨sd, v, rfl, rfl, _⟩
      exact SqL.of upd_same
    · rintro i x σ H' hx ⟨sd, v, rfl, rfl, h0, h1⟩
      obtain ⟨z, rfl⟩ : ∃ z, x = V.int z := by
        rw [List.getElem?_map] at hx
        cases e : ms[i]? with
        | none => rw [e] at hx; cases hx
        | some u => rw [e] at hx; exact ⟨u, (Option.some.inj hx).symm⟩
      walk_at "ss"
      exact ⟨_, _, rfl, rfl, (mod_bd (by decide)).1, Int.lt_trans (mod_bd (by decide)).2 (by decide)⟩
    · rintro σ H' ⟨sd, v, rfl, rfl, h0, h1⟩
      walk_at "ss"
      refine k_slL (e1.seq hl) ?_
      rw [hms]
      intro q nq
      have e2 := same_new (o := .lst (ms.map V.int)) nq
      walk_at "ss"
      refine k_listL (SqL.of upd_same) ?_
      intro l nl
      have e3 := same_new (o := .lst (ms.map V.int)) nl
      walk_at "ss"
      intro b nb
      exact k b _ _ ((e1.trans e2).trans e3) ⟨nb, Same.refl _, l, ms, 0, 0, sd, 0, rfl, SqL.of upd_same, by decide, by decide, h0, h1⟩
end

section
variable {X : Cx}
theorem kc_sorted (K : PySem.W.Frag) (hK : X.K = K := by rfl) : CallR X (.builtin "sorted") (rSorted K) := by subst hK; exact cr_sorted
theorem kc_maxL (K : PySem.W.Frag) (hc : X.calm = true) (hK : X.K = K := by rfl) : CallR X (.builtin "max") (L2.rMax K) := by subst hK; exact cr_max hc
theorem kc_minL (K : PySem.W.Frag) (hc : X.calm = true) (hK : X.K = K := by rfl) : CallR X (.builtin "min") (L2.rMin K) := by subst hK; exact cr_min hc
def rSortDI : List V → Hp → VK → Prop := fun xs H Q => ∃ (a : Addr) (kvs : List (Key × V)) (ks : List Int), xs = [.ref a] ∧ Rd H a (.dK kvs) ∧ kvs.map (·.1) = ks.map Sum.inl ∧ ks.length < 64 ∧
    ∀ (ys : List Int) (p : Addr), ys.Perm ks → ys.Pairwise (· ≤ ·) → H p = none → Q (.ref p) (upd H p (.lst (ys.map V.int)))
theorem kc_sortedDI (hc : X.calm = true) : CallR X (.builtin "sorted") rSortDI := call_sortedDI hc
/-- a list or a tuple that is walked -/
def iSeq (K : PySem.W.Frag) (tl : TE) : TI := fun σ H R => iList K tl σ H R ∨ iTup K tl σ H R
theorem kpi_seq (K : PySem.W.Frag) {tg l : Expr} {tl : TE} (hl : PE X l tl) (hK : X.K = K := by rfl) : PI X tg l (iSeq K tl) :=
  ⟨fun pins s σ H R I h => h.elim (fun h => (kpi_list K hl hK).run pins s σ H R I h) (fun h => (kpi_tup K hl hK).run pins s σ H R I h)⟩
end
section
variable {K : PySem.W.Frag} {σ : L2.St} {H : Hp} {D : Ends} {Q : VK}
theorem walk_zipT {a b : Addr} {xs ys : List V} {n : Nat} (hn : n = min xs.length ys.length) : Walk (RZ.ItzT K a b) n (fun H => SqT K H a xs ∧ SqT K H b ys) (YPair (fun i => xs[i]?) (fun i => ys[i]?)) := by
  subst hn
  refine ⟨fun i _ hi q => ?_, fun _ q => ⟨xs, ys, q.1, q.2, by omega⟩, fun i H v H' _ q y => ?_⟩
  · have h1 : i < xs.length := by omega
    have h2 : i < ys.length := by omega
    exact ⟨xs, ys, xs[i], ys[i], q.1, q.2, by simp [h1], by simp [h2]⟩
  · obtain ⟨T, x, z, h1, h2, h3, h4, h5⟩ := y
    exact ⟨T, x, z, h1, h2, h3, h4 xs q.1, h5 ys q.2⟩
theorem walk_zipL {a b : Addr} {xs ys : List V} {n : Nat} (hn : n = min xs.length ys.length) : Walk (Itz K a b) n (fun H => SqL K H a xs ∧ SqL K H b ys) (YPair (fun i => xs[i]?) (fun i => ys[i]?)) := walk_zip hn
theorem k_iStr {te : TE} {R : It → Hp → Prop} (h : te σ H fun v H1 => ∃ x, v = .str x ∧ R (Its x) H1) : iStr te σ H R := h
theorem zL {A B : Prop} (h : A) : A ∨ B := .inl h
theorem zT {A B : Prop} (h : B) : A ∨ B := .inr h
theorem walk_L {a : Addr} {xs : List V} : Walk (Itl K a) xs.length (fun H => SqL K H a xs) (YAt xs) := walk_list
theorem walk_T {a : Addr} {xs : List V} : Walk (Itt K a) xs.length (fun H => SqT K H a xs) (YAt xs) := walk_tup
theorem k_iZipA {ta : TA} {R : It → Hp → Prop} (h : ta σ H fun vs H1 => ∃ a b xs ys, vs = [.ref a, .ref b] ∧ ((SqL K H1 a xs ∧ SqL K H1 b ys ∧ R (Itz K a b) H1) ∨ (SqT K H1 a xs ∧ SqT K H1 b ys ∧ R (RZ.ItzT K a b) H1))) : RZ.iZipA K ta σ H R := h
theorem k_seqL {tl : TE} {R : It → Hp → Prop} (h : iList K tl σ H R) : iSeq K tl σ H R := .inl h
theorem k_seqT {tl : TE} {R : It → Hp → Prop} (h : iTup K tl σ H R) : iSeq K tl σ H R := .inr h
theorem k_dnew (h : ∀ p, H p = none → Q (.ref p) (upd H p (.dK []))) : tDNewK σ H Q := h
theorem k_dget2 {td ty tx : TE} (h : td σ H fun x H1 => ∃ a, x = .ref a ∧ IsD H1 a ∧ ty σ H1 fun y H2 => tx σ H2 fun z H3 => ∃ o, DGet H3 a y o ∧ Q (o.getD z) H3) : tDGet2 td ty tx σ H Q := h
theorem k_dget {td ty : TE} (h : td σ H fun x H1 => ty σ H1 fun y H2 => ∃ a v, x = .ref a ∧ DGet H2 a y (some v) ∧ Q v H2) : tDGet td ty σ H Q := h
theorem k_aug {i : Nat} {x : V} {te : TE} {ti : TIp} (hx : σ[i]? = some (some x)) (h : te σ H fun y H1 => ti x y H1 fun z H2 => D.nx (σ.set i (some z)) H2) : tAug i te ti D σ H := ⟨x, hx, h⟩
theorem k_asg2 {te : TE} {g1 g2 : TG} (h : te σ H fun x H1 => g1 x σ H1 fun σ1 H2 => g2 x σ1 H2 D.nx) : tAsg2 te g1 g2 D σ H := h
theorem k_ipI {f : Int → Int → Int} {i j : Int} (h : Q (.int (f i j)) H) : ipI f (.int i) (.int j) H Q := ⟨i, j, rfl, rfl, h⟩
theorem k_setD {a : Addr} {i v : V} {H' : Hp} {Q : Hp → Prop} (h : DPut H a i v H') (q : Q H') : rSetD (.ref a) i v H Q := ⟨a, H', rfl, h, q⟩
end

section
variable {w : World} {K : PySem.W.Frag} {mg : Str → Option Value} {base : Heap}
/-! ### values as data: their shape, and what lies within -/
inductive Gv (H : Hp) : V → Prop where
  | int (i : Int) : Gv H (.int i)
  | str (z : Str) (h : z.length ≤ 100) : Gv H (.str z)
  | bl (b : Bool) : Gv H (.bl b)
  | non : Gv H .non
  | lst {a : Addr} {xs : List V} (h : H a = some (.lst xs)) : Gv H (.ref a)
  | tup {a : Addr} {xs : List V} (h : H a = some (.tup xs)) : Gv H (.ref a)
  | dic {a : Addr} {kvs : List (Key × V)} (h : H a = some (.dK kvs)) : Gv H (.ref a)
theorem Gv.up {H H' : Hp} {v : V} (h : Gv H v) (e : Same H H') : Gv H' v := by
  cases h with
  | int i => exact .int i
  | str z h => exact .str z h
  | bl b => exact .bl b
  | non => exact .non
  | lst h => exact .lst (e _ _ h)
  | tup h => exact .tup (e _ _ h)
  | dic h => exact .dic (e _ _ h)
inductive ScB : V → Prop where
  | int (i : Int) : ScB (.int i)
  | str (z : Str) (h : z.length ≤ 100) : ScB (.str z)
  | bl (b : Bool) : ScB (.bl b)
  | non : ScB .non
/-- a dict that is equal to itself: no two keys -/
def OkD (ks : List (Key × V)) : Prop := ks = [] ∨ ∃ k v, ks = [(k, v)] ∧ (flatB v = true ∨ ∃ b, v = .ref b)
/-- data of depth d; none of its objects is one of F -/
def Gd (F : Addr → Prop) (H : Hp) : Nat → V → Prop
  | 0, v => ScB v
  | d + 1, v => ScB v ∨ (∃ (a : Addr) (xs : List V), v = .ref a ∧ ¬ F a ∧ (H a = some (.lst xs) ∨ H a = some (.tup xs)) ∧ xs.length ≤ 50 ∧ ∀ x ∈ xs, Gd F H d x) ∨ ∃ (a : Addr) (ks : List (Key × V)), v = .ref a ∧ ¬ F a ∧ H a = some (.dK ks) ∧ OkD ks
/-- all but the objects of F stay -/
def Keep (F : Addr → Prop) (H H' : Hp) : Prop := ∀ a o, ¬ F a → H a = some o → (∀ ps, o ≠ .tbl ps) → H' a = some o
theorem Keep.of {F : Addr → Prop} {H H' : Hp} (e : Same H H') : Keep F H H' := fun a o _ h _ => e a o h
theorem Keep.trans {F : Addr → Prop} {H H1 H2 : Hp} (a : Keep F H H1) (b : Keep F H1 H2) : Keep F H H2 := fun c o n h q => b c o n (a c o n h q) q
theorem Gd.keep {F : Addr → Prop} {H H' : Hp} (e : Keep F H H') : ∀ {d : Nat} {v : V}, Gd F H d v → Gd F H' d v
  | 0, _, h => h
  | d + 1, _, .inl h => .inl h
  | d + 1, _, .inr (.inl ⟨a, xs, e1, n, h, hl, k⟩) => .inr (.inl ⟨a, xs, e1, n, h.imp (fun h => e _ _ n h (fun ps z => by cases z)) (fun h => e _ _ n h (fun ps z => by cases z)), hl, fun x hx => (k x hx).keep e⟩)
  | d + 1, _, .inr (.inr ⟨a, ks, e1, n, h, k⟩) => .inr (.inr ⟨a, ks, e1, n, e _ _ n h (fun ps z => by cases z), k⟩)
theorem Gd.up {F : Addr → Prop} {H H' : Hp} {d : Nat} {v : V} (h : Gd F H d v) (e : Same H H') : Gd F H' d v := h.keep (.of e)
theorem Gd.sc {F : Addr → Prop} {H : Hp} {v : V} (h : ScB v) : ∀ d, Gd F H d v
  | 0 => h
  | _ + 1 => .inl h
theorem Gd.weak {F F' : Addr → Prop} {H : Hp} (hF : ∀ a, F' a → F a) : ∀ {d : Nat} {v : V}, Gd F H d v → Gd F' H d v
  | 0, _, h => h
  | d + 1, _, .inl h => .inl h
  | d + 1, _, .inr (.inl ⟨a, xs, e1, n, h, hl, k⟩) => .inr (.inl ⟨a, xs, e1, fun z => n (hF a z), h, hl, fun x hx => (k x hx).weak hF⟩)
  | d + 1, _, .inr (.inr ⟨a, ks, e1, n, h, k⟩) => .inr (.inr ⟨a, ks, e1, fun z => n (hF a z), h, k⟩)
theorem ScB.gv {H : Hp} {v : V} (h : ScB v) : Gv H v := by
  cases h with
  | int i => exact .int i
  | str z h => exact .str z h
  | bl b => exact .bl b
  | non => exact .non
theorem Gd.gv {F : Addr → Prop} {H : Hp} {d : Nat} {v : V} (h : Gd F H d v) : Gv H v := by
  cases d with
  | zero => exact ScB.gv h
  | succ d =>
    rcases h with h | ⟨a, xs, rfl, _, h | h, _⟩ | ⟨a, ks, rfl, _, h, _⟩
    · exact ScB.gv h
    · exact .lst h
    · exact .tup h
    · exact .dic h
def isInt : V → Bool
  | .int _ => true
  | .bl _ => true
  | _ => false
def isBl : V → Bool
  | .bl _ => true
  | _ => false
def isStr : V → Bool
  | .str _ => true
  | _ => false
theorem k_gInt {H : Hp} {v : V} {Q : VK} (h : Gv H v) (k : Q (.bl (isInt v)) H) : rIsi K [v, .ty "int"] H Q := by
  cases h with
  | int i => exact k_isi (TyX.base (.int _)) kb_int_int k
  | str z h => exact k_isi (TyX.base (.str _)) kb_str_int k
  | bl b => exact k_isi (TyX.base (.bl _)) kb_bool_int k
  | non => exact k_isi (TyX.base .non) kb_NoneType_int k
  | lst h => exact k_isi (TyX.base (.lst h)) kb_list_int k
  | tup h => exact k_isi (TyX.base (.tup h)) kb_tuple_int k
  | dic h => exact k_isi (TyX.base (.dK h)) kb_dict_int k
theorem k_gBl {H : Hp} {v : V} {Q : VK} (h : Gv H v) (k : Q (.bl (isBl v)) H) : rIsi K [v, .ty "bool"] H Q := by
  cases h with
  | int i => exact k_isi (TyX.base (.int _)) kb_int_bool k
  | str z h => exact k_isi (TyX.base (.str _)) kb_str_bool k
  | bl b => exact k_isi (TyX.base (.bl _)) kb_bool_bool k
  | non => exact k_isi (TyX.base .non) kb_NoneType_bool k
  | lst h => exact k_isi (TyX.base (.lst h)) kb_list_bool k
  | tup h => exact k_isi (TyX.base (.tup h)) kb_tuple_bool k
  | dic h => exact k_isi (TyX.base (.dK h)) kb_dict_bool k
theorem k_gStr {H : Hp} {v : V} {Q : VK} (h : Gv H v) (k : Q (.bl (isStr v)) H) : rIsi K [v, .ty "str"] H Q := by
  cases h with
  | int i => exact k_isi (TyX.base (.int _)) kb_int_str k
  | str z h => exact k_isi (TyX.base (.str _)) kb_str_str k
  | bl b => exact k_isi (TyX.base (.bl _)) kb_bool_str k
  | non => exact k_isi (TyX.base .non) kb_NoneType_str k
  | lst h => exact k_isi (TyX.base (.lst h)) kb_list_str k
  | tup h => exact k_isi (TyX.base (.tup h)) kb_tuple_str k
  | dic h => exact k_isi (TyX.base (.dK h)) kb_dict_str k
def numV (v : V) (lo hi : Int) : Bool := match v with
  | .int i => decide (lo ≤ i) && decide (i ≤ hi)
  | _ => false
def spNumG : Sp := fun vs H Q _ => ∃ (v : V) (lo hi : Int), vs = [v, .int lo, .int hi] ∧ Gv H v ∧ Q (.bl (numV v lo hi)) H
theorem ok_is_number (T : Tx K mg) : FnOk P w K mg base CX0 1 T.a_is_number T.fd_is_number P_is_number spNumG := by
  refine T.F_is_number.ok sc_is_number (fun vs H Q E h => ?_) (fun cdv A outer s H vs Q E hr h => ?_)
  · obtain ⟨v, lo, hi, rfl, _⟩ := h
    rfl
  · obtain ⟨v, lo, hi, rfl, hv, k⟩ := h
    have nd := sc_is_number.nd
    refine ⟨_, (pss_one (ps_ret (pe_and (kcB b_isinstance (by decide) (by decide) (kc_isi K) g_is_number_isinstance T.n_isinstance (pa_cons (kv (i := 0) v_is_number_value) (pa_cons (kty_int g_is_number_int T.n_int) pa_nil))) (pe_and (pe_not (kcB b_isinstance (by decide) (by decide) (kc_isi K) g_is_number_isinstance T.n_isinstance (pa_cons (kv (i := 0) v_is_number_value) (pa_cons (kty_bool g_is_number_bool T.n_bool) pa_nil)))) (pe_one (pe_chain op_le op_le (kv (i := 1) v_is_number_least) (kv (i := 0) v_is_number_value) (kv (i := 2) v_is_number_most))))))), ?_⟩
    walk_at "ss"
    refine k_gInt hv ?_
    refine ⟨_, rfl, ?_⟩
    cases hv with
    | int i =>
      refine k_t ?_
      walk_at "ss"
      refine k_d (fun h1 => ?_) (fun h1 => ?_)
      · walk_at "ss"
        have e : numV (.int i) lo hi = decide (i ≤ hi) := by
          show (decide (lo ≤ i) && decide (i ≤ hi)) = _
          rw [decide_eq_true h1, Bool.true_and]
        rw [← e]
        exact k
      · walk_at "ss"
        have e : numV (.int i) lo hi = false := by
          show (decide (lo ≤ i) && decide (i ≤ hi)) = _
          rw [decide_eq_false h1, Bool.false_and]
        rw [e] at k
        exact k
    | bl b =>
      refine k_t ?_
      walk_at "ss"
      exact k
    | _ => exact k_f k
/-- a promise that asks more -/
theorem fn_weak {P : Program} {CX : CXT} {k : Nat} {f : Addr} {fd : FuncData} {ps : List Str} {sp sp' : Sp} (F : FnOk P w K mg base CX k f fd ps sp) (h : ∀ vs H Q E, sp' vs H Q E → sp vs H Q E) : FnOk P w K mg base CX k f fd ps sp' :=
  ⟨fun vs H Q E q => F.len _ _ _ _ (h _ _ _ _ q), fun A outer s H args us vs Q E hr e0 hb r q => F.run A outer s H args us vs Q E hr e0 hb r (h _ _ _ _ q)⟩
def spNum : Sp := fun vs H Q _ => ∃ v lo hi : Int, vs = [.int v, .int lo, .int hi] ∧ lo ≤ v ∧ v ≤ hi ∧ Q (.bl true) H
theorem numV_t {v lo hi : Int} (h0 : lo ≤ v) (h1 : v ≤ hi) : numV (.int v) lo hi = true := by
  show (decide (lo ≤ v) && decide (v ≤ hi)) = true
  rw [decide_eq_true h0, decide_eq_true h1]; rfl
theorem numV_i {v : V} {lo hi : Int} (h : numV v lo hi = true) : ∃ i, v = .int i ∧ lo ≤ i ∧ i ≤ hi := by
  cases v with
  | int i =>
    have h : (decide (lo ≤ i) && decide (i ≤ hi)) = true := h
    rw [Bool.and_eq_true, decide_eq_true_eq, decide_eq_true_eq] at h
    exact ⟨i, rfl, h.1, h.2⟩
  | _ => cases h
theorem ok_is_number0 (T : Tx K mg) : FnOk P w K mg base CX0 1 T.a_is_number T.fd_is_number P_is_number spNum := fn_weak (ok_is_number T) fun vs H Q E ⟨v, lo, hi, e, h0, h1, q⟩ => ⟨.int v, lo, hi, e, .int v, by rw [numV_t h0 h1]; exact q⟩
end

section
variable {w : World} {K : PySem.W.Frag} {mg : Str → Option Value} {base : Heap}
theorem same_put {G G' : Hp} {L : Addr} {o : HO} (h : Same G G') (n : G L = none) : Same G (upd G' L o) := fun a u e => by
  rw [upd_ne (ne_of_none e n)]
  exact h _ _ e
theorem new_facts {G G' : Hp} {b t : Addr} {o β : HO} (hb : G b = none) (n : upd G b β t = none) (e : upd G t o = G') : G' b = none ∧ Same G G' ∧ G' t = some o ∧ t ≠ b ∧ G t = none := by
  obtain ⟨h1, h2⟩ := up_none n
  subst e
  exact ⟨by rw [upd_ne (Ne.symm h2)]; exact hb, same_new h1, upd_same, h2, h1⟩
theorem k_bm {K : PySem.W.Frag} {T : String} {r : V → List V → Hp → VK → Prop} {to : TE} {t : TA} {σ : L2.St} {H : Hp} {Q : VK} (h : to σ H fun x H1 => tyV K T x H1 ∧ t σ H1 fun xs H2 => r x xs H2 Q) : tBM K T r to t σ H Q := h
theorem k_app {l : Addr} {xs : List V} {y : V} {H : Hp} {Q : VK} (h : H l = some (.lst xs)) (hz : xs.length < 1000) (k : Q .non (upd H l (.lst (xs ++ [y])))) : rAppend (.ref l) [y] H Q := ⟨l, xs, y, rfl, rfl, h, small_lt (by omega), k⟩
def lets : List Nat := List.range' 97 26
def digs : List Nat := List.range' 48 10
theorem lets_eq : (("abcdefghijklmnopqrstuvwxyz" : Str)).cps.toList = lets := by decide +kernel
theorem digs_eq : (("0123456789" : Str)).cps.toList = digs := by decide +kernel
theorem mem_lets (c : Nat) : c ∈ lets ↔ 97 ≤ c ∧ c ≤ 122 := by
  unfold lets
  rw [List.mem_range'_1]
  omega
theorem mem_digs (c : Nat) : c ∈ digs ↔ 48 ≤ c ∧ c ≤ 57 := by
  unfold digs
  rw [List.mem_range'_1]
  omega
def inL (c : Nat) : Bool := decide (c ∈ lets)
def inD (c : Nat) : Bool := decide (c ∈ digs)
def nameD : List Nat → Bool
  | [] => false
  | c :: r => decide (r.length + 1 ≤ 8) && inL c && (c :: r).all fun d => inL d || inD d
def nameV : V → Bool
  | .str z => nameD z.cps.toList
  | _ => false
theorem str_len (z : Str) : z.length = z.cps.toList.length := by rw [Array.length_toList]; rfl
def spNameG : Sp := fun vs H Q _ => ∃ v : V, vs = [v] ∧ Gv H v ∧ Q (.bl (nameV v)) H
theorem ok_is_name (T : Tx K mg) : FnOk P w K mg base CX0 1 T.a_is_name T.fd_is_name P_is_name spNameG := by
  refine T.F_is_name.ok sc_is_name (fun vs H Q E h => ?_) (fun cdv A outer s H vs Q E hr h => ?_)
  · obtain ⟨v, rfl, _⟩ := h
    rfl
  · obtain ⟨v, rfl, hv, k⟩ := h
    have nd := sc_is_name.nd
    refine ⟨_, (pss_cons (ps_if (PW.pt (pw_or (pt_not (pt_val (kcB b_isinstance (by decide) (by decide) (kc_isi K) g_is_name_isinstance T.n_isinstance (pa_cons (kv (i := 0) v_is_name_value) (pa_cons (kty_str g_is_name_str T.n_str) pa_nil))))) (pw_or (pt_not (pt_chain op_le op_le pe_int (kcB b_len (by decide) (by decide) (kc_len K) g_is_name_len T.n_len (pa_cons (kv (i := 0) v_is_name_value) pa_nil)) pe_int)) (pw_or1 (pt_cmpR op_notIn_sign (pe_ix (kix K) (kv (i := 0) v_is_name_value) pe_int (fun _ _ => rfl)) (pe_glob g_is_name_LETTERS T.m_LETTERS T.r_LETTERS) (by rfl)))))) (pss_one (ps_ret pe_bl)) pss_nil)
      (pss_cons (ps_for PassesOwn.never rfl (pi_str (kv (i := 0) v_is_name_value)) (kgL (i := 1) nd l_is_name_sign) (pss_one (ps_if (PW.pt (pw_and (pt_cmpR op_notIn_sign (kv (i := 1) v_is_name_sign) (pe_glob g_is_name_LETTERS T.m_LETTERS T.r_LETTERS) (by rfl)) (pw_and1 (pt_cmpR op_notIn_sign (kv (i := 1) v_is_name_sign) (pe_glob g_is_name_DIGITS T.m_DIGITS T.r_DIGITS) (by rfl))))) (pss_one (ps_ret pe_bl)) pss_nil)))
      (pss_one (ps_ret pe_bl)))), ?_⟩
    walk_at "ss"
    refine k_gStr hv ?_
    walk_at "ss"
    have other : isStr v = false → nameV v = false := fun h => by cases v <;> first | rfl | cases h
    have hz : (∃ z, v = .str z ∧ z.length ≤ 100) ∨ isStr v = false := by cases hv <;> first | exact .inl ⟨_, rfl, by assumption⟩ | exact .inr rfl
    rcases hz with ⟨z, rfl, hl⟩ | hz
    · show if (!true) = true then _ else _
      walk_at "ss"
      refine k_lenS (small_size (by omega)) ?_
      walk_at "ss"
      have hsl := str_len z
      have en : nameV (.str z) = nameD z.cps.toList := rfl
      cases hc : z.cps.toList with
      | nil =>
        rw [hc] at hsl en
        refine k_df (by rw [hsl]; decide) ?_
        walk_at "ss"
        rw [en] at k
        exact k
      | cons c r =>
        rw [hc] at hsl en
        simp only [List.length_cons] at hsl
        refine k_dt (by omega) ?_
        walk_at "ss"
        refine k_n (fun h8 => ?_) (fun h8 => ?_)
        · walk_at "ss"
          refine k_ixS (small_size (by omega)) (c := c) (by rw [hc]; exact atI_nat (j := 0) rfl) ?_
          walk_at "ss"
          refine ⟨c, _, rfl, rfl, ?_⟩
          walk_at "ss"
          refine k_n (fun hcl => ?_) (fun hcl => ?_)
          · rw [lets_eq] at hcl
            walk_at "ss"
            refine k_iStr ?_
            walk_at "ss"
            refine ⟨z, rfl, ?_⟩
            refine k_forIt walk_str (fun i σ H' => H = H' ∧ (∃ v, σ = [some (.str z), v]) ∧ ∀ d ∈ z.cps.toList.take i, (inL d || inD d) = true) ⟨rfl, ⟨_, rfl⟩, fun d hd => (by cases hd)⟩ (fun _ _ _ _ _ => True.intro) ?_ ?_
            · rintro i x σ H' H2 hi ⟨rfl, ⟨v, rfl⟩, hall⟩ ⟨rfl, d, hd, rfl⟩
              have hd2 : z.cps.toList[i]? = some d := by rw [← Array.getElem?_toList] at hd; exact hd
              have step : (inL d || inD d) = true → ∀ d ∈ z.cps.toList.take (i + 1), (inL d || inD d) = true := fun h e he => by
                rw [List.take_add_one, hd2] at he
                rcases List.mem_append.mp he with he | he
                · exact hall e he
                · have : e = d := by simpa using he
                  rw [this]; exact h
              walk_at "ss"
              refine ⟨d, _, rfl, rfl, ?_⟩
              walk_at "ss"
              refine k_n (fun h => ?_) (fun h => ?_)
              · rw [lets_eq] at h
                walk_at "ss"
                exact ⟨rfl, ⟨_, rfl⟩, step (by rw [inL, decide_eq_true h, Bool.true_or])⟩
              · rw [lets_eq] at h
                walk_at "ss"
                refine ⟨d, _, rfl, rfl, ?_⟩
                walk_at "ss"
                refine k_n (fun h2 => ?_) (fun h2 => ?_)
                · rw [digs_eq] at h2
                  walk_at "ss"
                  exact ⟨rfl, ⟨_, rfl⟩, step (by rw [inD, decide_eq_true h2, Bool.or_true])⟩
                · rw [digs_eq] at h2
                  walk_at "ss"
                  have e : nameV (.str z) = false := by
                    rw [en]
                    have hm : d ∈ c :: r := by rw [← hc]; exact List.mem_of_getElem? hd2
                    have : ((c :: r).all fun d => inL d || inD d) = false := List.all_eq_false.mpr ⟨d, hm, by rw [inL, inD, decide_eq_false h, decide_eq_false h2]; decide⟩
                    show (_ && ((c :: r).all fun d => inL d || inD d)) = false
                    rw [this, Bool.and_false]
                  rw [e] at k
                  exact k
            · rintro σ H' ⟨rfl, ⟨v, rfl⟩, hall⟩
              walk_at "ss"
              have e : nameV (.str z) = true := by
                rw [en]
                have h1 : ((c :: r).all fun d => inL d || inD d) = true := List.all_eq_true.mpr fun d hd => by
                  refine hall d ?_
                  rw [← Array.length_toList, List.take_length, hc]
                  exact hd
                show (decide (r.length + 1 ≤ 8) && inL c && ((c :: r).all fun d => inL d || inD d)) = true
                rw [h1, inL, decide_eq_true hcl, decide_eq_true (show r.length + 1 ≤ 8 by omega)]
                rfl
              rw [e] at k
              exact k
          · rw [lets_eq] at hcl
            walk_at "ss"
            have e : nameV (.str z) = false := by
              rw [en]
              show (decide (r.length + 1 ≤ 8) && inL c && _) = false
              rw [inL, decide_eq_false hcl, Bool.and_false, Bool.false_and]
            rw [e] at k
            exact k
        · walk_at "ss"
          have e : nameV (.str z) = false := by
            rw [en]
            show (decide (r.length + 1 ≤ 8) && inL c && _) = false
            rw [decide_eq_false (show ¬ r.length + 1 ≤ 8 by omega), Bool.false_and, Bool.false_and]
          rw [e] at k
          exact k
    · rw [hz]
      walk_at "ss"
      rw [other hz] at k
      exact k
theorem alnum_eq : (("abcdefghijklmnopqrstuvwxyz0123456789" : Str)).cps.toList = lets ++ digs := by decide +kernel
theorem let_dig {c : Nat} (h : inD c = true) : inL c = false := by
  unfold inD at h
  unfold inL
  have h := (mem_digs c).mp (of_decide_eq_true h)
  rw [decide_eq_false]
  intro q
  have := (mem_lets c).mp q
  omega
theorem in_alnum (d : Nat) : decide (d ∈ lets ++ digs) = (inL d || inD d) := by
  unfold inL inD
  rw [Bool.eq_iff_iff]
  simp
def nameH (v : V) (hi : Int) : Bool := nameV v && (match v with | .str z => decide ((z.length : Int) ≤ hi) | _ => false)
theorem nameH_s {v : V} {hi : Int} (h : nameH v hi = true) : ∃ z, v = .str z ∧ nameV v = true ∧ (z.length : Int) ≤ hi := by
  unfold nameH at h
  rw [Bool.and_eq_true] at h
  cases v with
  | str z => exact ⟨z, rfl, h.1, of_decide_eq_true h.2⟩
  | _ => cases h.1
theorem row_b {f : Nat → Bool} {cs : List Nat} {i d : Nat} {D : Addr} {H H1 : Hp} {b : Bool} (hb : b = f d) (hd : cs[i]? = some d) (hD : H1 D = some (.lst (((cs.take i).map f).map V.bl))) (sm : Same H H1) (nD : H D = none) (hl : cs.length ≤ 100) :
    ∃ acc, H1 D = some (.lst acc) ∧ acc.length < sizeLine ∧ ((upd H1 D (.lst (acc ++ [V.bl b]))) D = some (.lst (((cs.take (i + 1)).map f).map V.bl)) ∧ Same H (upd H1 D (.lst (acc ++ [V.bl b])))) :=
  ⟨_, hD, small_lt (by simp; omega), by rw [upd_same, List.take_add_one, hd, hb]; simp, same_put sm nD⟩
def spNamed : Sp := fun vs H Q _ => ∃ (v : V) (hi : Int), vs = [v, .int hi] ∧ Gv H v ∧ hi ≤ 8 ∧ ∀ H', Same H H' → Q (.bl (nameH v hi)) H'
theorem ok_named (T : Tx K mg) : FnOk P w K mg base CX0 1 T.a_named T.fd_named P_named spNamed := by
  refine T.F_named.ok sc_named (fun vs H Q E h => ?_) (fun cdv A outer s H vs Q E hr h => ?_)
  · obtain ⟨v, hi, rfl, _⟩ := h
    rfl
  · obtain ⟨v, hi, rfl, hv, h8, k⟩ := h
    have nd := sc_named.nd
    refine ⟨_, (pss_cons (ps_if (PW.pt (pw_or (pt_not (pt_val (kcB b_isinstance (by decide) (by decide) (kc_isi K) g_named_isinstance T.n_isinstance (pa_cons (kv (i := 0) v_named_law_thing) (pa_cons (kty_str g_named_str T.n_str) pa_nil))))) (pw_or (pt_not (pt_chain op_le op_le pe_int (kcB b_len (by decide) (by decide) (kc_len K) g_named_len T.n_len (pa_cons (kv (i := 0) v_named_law_thing) pa_nil)) (kv (i := 1) v_named_law_high))) (pw_or1 (pt_cmpR op_in_sign (pe_ix (kix K) (kv (i := 0) v_named_law_thing) pe_int (fun _ _ => rfl)) pe_str (by rfl)))))) (pss_one (ps_ret pe_bl)) pss_nil)
      (pss_one (ps_ret (kcB b_all (by decide) (by decide) (cr_all rfl) g_named_all T.n_all (pa_cons (pe_lc (own := [("_law_sign", 2)]) rfl nd (pi_str (kv (i := 0) v_named_law_thing)) ok_cs_named_1 (fun _ _ _ _ _ => (kgL (i := 2) nd l_named_1_law_sign)) (fun _ _ _ _ _ => pts_nil) (fun _ _ _ _ _ => (pe_cmpR op_in_sign (kv (i := 2) v_named_1_law_sign) pe_str (by rfl)))) pa_nil))))), ?_⟩
    walk_at "ss"
    refine k_gStr hv ?_
    walk_at "ss"
    have other : isStr v = false → nameH v hi = false := fun h => by cases v <;> first | rfl | cases h
    have hz : (∃ z, v = .str z ∧ z.length ≤ 100) ∨ isStr v = false := by cases hv <;> first | exact .inl ⟨_, rfl, by assumption⟩ | exact .inr rfl
    rcases hz with ⟨z, rfl, hl⟩ | hz
    · show if (!true) = true then _ else _
      walk_at "ss"
      refine k_lenS (small_size (by omega)) ?_
      walk_at "ss"
      have hsl := str_len z
      have en : nameH (.str z) hi = (nameD z.cps.toList && decide ((z.length : Int) ≤ hi)) := rfl
      cases hc : z.cps.toList with
      | nil =>
        rw [hc] at hsl en
        refine k_df (by rw [hsl]; decide) ?_
        walk_at "ss"
        rw [en] at k
        exact k _ (Same.refl _)
      | cons c r =>
        rw [hc] at hsl en
        simp only [List.length_cons] at hsl
        refine k_dt (by omega) ?_
        walk_at "ss"
        refine k_n (fun hh => ?_) (fun hh => ?_)
        · rw [decide_eq_true hh, Bool.and_true] at en
          walk_at "ss"
          refine k_ixS (small_size (by omega)) (c := c) (by rw [hc]; exact atI_nat (j := 0) rfl) ?_
          walk_at "ss"
          refine ⟨c, _, rfl, rfl, ?_⟩
          walk_at "ss"
          rw [digs_eq]
          refine k_d (fun hcl => ?_) (fun hcl => ?_)
          · walk_at "ss"
            have e : nameD (c :: r) = false := by
              show (decide (r.length + 1 ≤ 8) && inL c && _) = false
              rw [let_dig (decide_eq_true hcl), Bool.and_false, Bool.false_and]
            rw [en, e] at k
            exact k _ (Same.refl _)
          · have hl100 : z.cps.toList.length ≤ 100 := by rw [hc, List.length_cons]; omega
            walk_at "ss"
            refine k_iStr ?_
            walk_at "ss"
            refine ⟨z, rfl, ?_⟩
            intro D nD
            refine k_lcIt walk_str (fun i H' => H' D = some (.lst (((z.cps.toList.take i).map fun d => inL d || inD d).map V.bl)) ∧ Same H H') ⟨upd_same, same_new nD⟩ (fun _ _ _ _ => True.intro) ?_ ?_
            · rintro i x H1 H2 hi ⟨hD, sm⟩ ⟨rfl, d, hd, rfl⟩
              have hd2 : z.cps.toList[i]? = some d := by rw [← Array.getElem?_toList] at hd; exact hd
              walk_at "ss"
              refine ⟨rfl, ?_⟩
              walk_at "ss"
              refine ⟨d, _, rfl, rfl, ?_⟩
              rw [alnum_eq]
              exact row_b (f := fun d => inL d || inD d) (in_alnum d) hd2 hD sm nD hl100
            · rintro H1 ⟨hD, sm⟩
              rw [← Array.length_toList, List.take_length] at hD
              walk_at "ss"
              refine ⟨D, _, rfl, SqL.of hD, ?_⟩
              have e : (z.cps.toList.map fun d => inL d || inD d).all id = nameD (c :: r) := by
                rw [hc]
                show ((c :: r).map fun d => inL d || inD d).all id = (decide (r.length + 1 ≤ 8) && inL c && ((c :: r).all fun d => inL d || inD d))
                rw [decide_eq_true (by omega), Bool.true_and, List.all_map]
                have e2 : ((c :: r).all (id ∘ fun d => inL d || inD d)) = ((c :: r).all fun d => inL d || inD d) := rfl
                rw [e2]
                cases ha : ((c :: r).all fun d => inL d || inD d) with
                | false => rw [Bool.and_false]
                | true =>
                  have hc1 := List.all_eq_true.mp ha c List.mem_cons_self
                  have hcd : inD c = false := by unfold inD; rw [decide_eq_false hcl]
                  rw [hcd, Bool.or_false] at hc1
                  rw [hc1]; rfl
              rw [e, ← en]
              exact k _ sm
        · walk_at "ss"
          rw [decide_eq_false hh, Bool.and_false] at en
          rw [en] at k
          exact k _ (Same.refl _)
    · rw [hz]
      walk_at "ss"
      rw [other hz] at k
      exact k _ (Same.refl _)
def spIn : Sp := fun vs H Q _ => ∃ (v : V) (hi : Int), vs = [v, .int hi] ∧ Gv H v ∧ Q (.bl (numV v 1 hi)) H
theorem ok_in (T : Tx K mg) : FnOk P w K mg base CX0 1 T.a_in T.fd_in P_in spIn := by
  refine T.F_in.ok sc_in (fun vs H Q E h => ?_) (fun cdv A outer s H vs Q E hr h => ?_)
  · obtain ⟨v, hi, rfl, _⟩ := h
    rfl
  · obtain ⟨v, hi, rfl, hv, k⟩ := h
    have nd := sc_in.nd
    refine ⟨_, (pss_one (ps_ret (pe_and (kcB b_isinstance (by decide) (by decide) (kc_isi K) g_in_isinstance T.n_isinstance (pa_cons (kv (i := 0) v_in_law_thing) (pa_cons (kty_int g_in_int T.n_int) pa_nil))) (pe_and (pe_not (kcB b_isinstance (by decide) (by decide) (kc_isi K) g_in_isinstance T.n_isinstance (pa_cons (kv (i := 0) v_in_law_thing) (pa_cons (kty_bool g_in_bool T.n_bool) pa_nil)))) (pe_and (pe_cmpR op_le pe_int (kv (i := 0) v_in_law_thing) (nomark _)) (pe_one (pe_cmpR op_le (kv (i := 0) v_in_law_thing) (kv (i := 1) v_in_law_high) (nomark _)))))))), ?_⟩
    walk_at "ss"
    refine k_gInt hv ?_
    refine ⟨_, rfl, ?_⟩
    cases hv with
    | int i =>
      refine k_t ?_
      walk_at "ss"
      refine k_d (fun h1 => ?_) (fun h1 => ?_)
      · walk_at "ss"
        have e : numV (.int i) 1 hi = decide (i ≤ hi) := by
          show (decide (1 ≤ i) && decide (i ≤ hi)) = _
          rw [decide_eq_true h1, Bool.true_and]
        rw [← e]
        exact k
      · walk_at "ss"
        have e : numV (.int i) 1 hi = false := by
          show (decide (1 ≤ i) && decide (i ≤ hi)) = _
          rw [decide_eq_false h1, Bool.false_and]
        rw [e] at k
        exact k
    | bl b =>
      refine k_t ?_
      walk_at "ss"
      exact k
    | _ => exact k_f k
end

/-! ### rests as data -/
inductive Op where | later | sooner | next
inductive Plan where | win (w : Int) | days (bs : List Int) (p : Int) | op (o : Op) (a b : Plan)
def baseOf (bs : List Int) : Int := bs.getLast?.getD 0
def dayAt (bs : List Int) (p t : Int) : Int := match bs.find? (fun b => decide (t < b)) with
  | some b => b
  | none => baseOf bs + ((t - baseOf bs) / p + 1) * p
def mx (i j : Int) : Int := if j > i then j else i
def mn (i j : Int) : Int := if j < i then j else i
def lcmI (a b : Int) : Int := ((Nat.lcm a.natAbs b.natAbs : Nat) : Int)
def Plan.at : Plan → Int → Int
  | .win w, t => t + w
  | .days bs p, t => dayAt bs p t
  | .op .later a b, t => mx (a.at t) (b.at t)
  | .op .sooner a b, t => mn (a.at t) (b.at t)
  | .op .next a b, t => b.at (a.at t)
def Plan.forms : Plan → Nat
  | .win _ => 1
  | .days _ _ => 1
  | .op _ a b => 1 + a.forms + b.forms
def Plan.period : Plan → Int
  | .win _ => 1
  | .days _ p => p
  | .op _ a b => lcmI a.period b.period
def Plan.bend : Plan → Int
  | .win _ => 0
  | .days bs _ => baseOf bs
  | .op _ a b => mx a.bend b.bend
def Asc : Int → List Int → Prop
  | _, [] => True
  | l, b :: r => l < b ∧ Asc b r
def Plan.Ok : Plan → Prop
  | .win w => 1 ≤ w ∧ w ≤ 1000
  | .days bs p => Asc 0 bs ∧ (∀ b ∈ bs, b ≤ 1000) ∧ bs.length ≤ 12 ∧ 1 ≤ p ∧ p ≤ 2000
  | .op o a b => a.Ok ∧ b.Ok ∧ (Plan.op o a b).forms ≤ 6 ∧ (Plan.op o a b).period ≤ 2000
theorem Plan.forms_pos (p : Plan) : 0 < p.forms := by cases p <;> simp [Plan.forms] <;> omega
theorem lcmI_nn (a b : Int) : 0 ≤ lcmI a b := Int.natCast_nonneg _
theorem period_pos : ∀ {p : Plan}, p.Ok → 0 < p.period ∧ p.period ≤ 2000
  | .win _, _ => ⟨by show (0 : Int) < 1; decide, by show (1 : Int) ≤ 2000; decide⟩
  | .days bs p, h => by
    obtain ⟨_, _, _, h1, h2⟩ := h
    exact ⟨by show 0 < p; omega, h2⟩
  | .op o a b, h => by
    obtain ⟨ha, hb, _, h2⟩ := h
    have q1 := (period_pos ha).1
    have q2 := (period_pos hb).1
    refine ⟨?_, h2⟩
    show 0 < lcmI a.period b.period
    have : 0 < Nat.lcm a.period.natAbs b.period.natAbs := Nat.lcm_pos (by omega) (by omega)
    unfold lcmI
    omega
/-! ### rests as objects -/
section
variable {K : PySem.W.Frag} {mg : Str → Option Value}
/-- the text of a window -/
def winTx (w : Int) : Str := Str.empty ++ ("window " : Str) ++ Str.ofString (toString w)
abbrev nW1 : List Str := ["width"]
abbrev nD1 : List Str := ["every", "_borders"]
abbrev nO1 : List Str := ["first", "second"]
abbrev n4 : List Str := ["_text", "_forms", "_period", "_bend"]
abbrev nWin : List Str := ["_text", "_forms", "_period", "_bend", "width"]
abbrev nDays : List Str := ["_text", "_forms", "_period", "_bend", "every", "_borders"]
abbrev nOp : List Str := ["_text", "_forms", "_period", "_bend", "first", "second"]
inductive RestAt (T : Tx K mg) (F : Addr → Prop) (H : Hp) : Addr → Plan → Prop where
  | win {a dx : Addr} {w : Int} (h : H a = some (.ins T.C_Window dx (FL nWin [.str (winTx w), .int 1, .int 1, .int 0, .int w]))) (ht : (winTx w).length ≤ 1000) : RestAt T F H a (.win w)
  | days {a dx l : Addr} {tx : Str} {bs : List Int} {p : Int} (h : H a = some (.ins T.C_Days dx (FL nDays [.str tx, .int 1, .int p, .int (baseOf bs), .int p, .ref l]))) (hl : H l = some (.lst (bs.map V.int))) (ht : tx.length ≤ 1000) (hF : ¬ F l) : RestAt T F H a (.days bs p)
theorem RestAt.up {T : Tx K mg} {F : Addr → Prop} {H H' : Hp} (e : Same H H') : ∀ {a : Addr} {p : Plan}, RestAt T F H a p → RestAt T F H' a p := by
  intro a p h
  induction h with
  | win h ht => exact .win (e _ _ h) ht
  | days h hl ht hF => exact .days (e _ _ h) (e _ _ hl) ht hF
/-- its class, among the five -/
inductive IsC (T : Tx K mg) : Addr → Prop where
  | win : IsC T T.C_Window
  | days : IsC T T.C_Days
theorem RestAt.four {T : Tx K mg} {F : Addr → Prop} {H : Hp} {a : Addr} {p : Plan} (h : RestAt T F H a p) : ∃ (C dx : Addr) (ns : List Str) (vs : List V) (tx : Str), IsC T C ∧ (ns = nW1 ∨ ns = nD1 ∨ ns = nO1) ∧ tx.length ≤ 1000 * p.forms ∧
    H a = some (.ins C dx (FL (n4 ++ ns) ([V.str tx, .int (p.forms : Nat), .int p.period, .int p.bend] ++ vs))) := by
  cases h with
  | win h ht => exact ⟨_, _, _, _, _, .win, .inl rfl, by show _ ≤ 1000 * 1; omega, h⟩
  | days h hl ht hF => exact ⟨_, _, _, _, _, .days, .inr (.inl rfl), by show _ ≤ 1000 * 1; omega, h⟩
theorem IsC.cl {T : Tx K mg} {C : Addr} (h : IsC T C) : Cls K C := by
  cases h with
  | win => exact T.cl_Window
  | days => exact T.cl_Days
theorem IsC.ty {T : Tx K mg} {C : Addr} (h : IsC T C) : ClsTy K C := by
  cases h with
  | win => exact T.ty_Window
  | days => exact T.ty_Days
theorem IsC.kt {T : Tx K mg} {C : Addr} (h : IsC T C) : PySem.W.kitOne K (.ref C) (.ref T.C_Rest) = some true := by
  cases h with
  | win => exact T.kt_Window_Rest
  | days => exact T.kt_Days_Rest
theorem IsC.noText {T : Tx K mg} {C : Addr} (h : IsC T C) : NoAttr K C "_text" := by
  cases h with
  | win => exact T.no_Window_text
  | days => exact T.no_Days_text
theorem IsC.noForms {T : Tx K mg} {C : Addr} (h : IsC T C) : NoAttr K C "_forms" := by
  cases h with
  | win => exact T.no_Window_forms
  | days => exact T.no_Days_forms
theorem IsC.noPeriod {T : Tx K mg} {C : Addr} (h : IsC T C) : NoAttr K C "_period" := by
  cases h with
  | win => exact T.no_Window_period
  | days => exact T.no_Days_period
theorem IsC.noBend {T : Tx K mg} {C : Addr} (h : IsC T C) : NoAttr K C "_bend" := by
  cases h with
  | win => exact T.no_Window_bend
  | days => exact T.no_Days_bend
end
section
variable {w : World} {K : PySem.W.Frag} {mg : Str → Option Value} {base : Heap}
/-! ### is_number, Rest -/
def spRestInit (T : Tx K mg) : Sp := fun vs H Q _ => ∃ (a C dx : Addr) (tx : Str) (f p b : Int), vs = [.ref a, .str tx, .int f, .int p, .int b] ∧ IsC T C ∧ H a = some (.ins C dx []) ∧ Q .non (upd H a (.ins C dx (FL n4 [.str tx, .int f, .int p, .int b])))
theorem ok_Rest_init (T : Tx K mg) : FnOk P w K mg base CX0 1 T.a_Rest_init T.fd_Rest_init P_Rest_init (spRestInit T) := by
  refine T.F_Rest_init.ok sc_Rest_init (fun vs H Q E h => ?_) (fun cdv A outer s H vs Q E hr h => ?_)
  · obtain ⟨a, C, dx, tx, f, p, b, rfl, _⟩ := h
    rfl
  · obtain ⟨a, C, dx, tx, f, p, b, rfl, hC, ha, k⟩ := h
    have nd := sc_Rest_init.nd
    refine ⟨_, (pss_cons (kps_fld K (kv (i := 0) v_Rest_init_self) (kv (i := 1) v_Rest_init_text))
      (pss_cons (kps_fld K (kv (i := 0) v_Rest_init_self) (kv (i := 2) v_Rest_init_forms))
      (pss_cons (kps_fld K (kv (i := 0) v_Rest_init_self) (kv (i := 3) v_Rest_init_period))
      (pss_one (kps_fld K (kv (i := 0) v_Rest_init_self) (kv (i := 4) v_Rest_init_bend)))))), ?_⟩
    walk_at "ss"
    refine k_putAt (ns := []) (vs := []) ha hC.cl hC.noText rfl (by decide +kernel) (by decide) ?_
    walk_at "ss"
    refine k_putTop hC.cl hC.noForms rfl (by decide +kernel) (by decide) ?_
    walk_at "ss"
    refine k_putTop hC.cl hC.noPeriod rfl (by decide +kernel) (by decide) ?_
    walk_at "ss"
    refine k_putTop hC.cl hC.noBend rfl (by decide +kernel) (by decide) ?_
    exact k
/-- a rest with this text -/
def RtTx (T : Tx K mg) (H : Hp) (a : Addr) (tx : Str) : Prop := ∃ (C dx : Addr) (ns : List Str) (vs : List V), IsC T C ∧ (ns = nW1 ∨ ns = nD1 ∨ ns = nO1) ∧ H a = some (.ins C dx (FL (n4 ++ ns) ([V.str tx] ++ vs)))
theorem RtTx.up {T : Tx K mg} {H H' : Hp} {a : Addr} {tx : Str} (h : RtTx T H a tx) (e : Same H H') : RtTx T H' a tx := by
  obtain ⟨C, dx, ns, vs, hC, hn, he⟩ := h
  exact ⟨C, dx, ns, vs, hC, hn, e _ _ he⟩
theorem RestAt.tx {T : Tx K mg} {F : Addr → Prop} {H : Hp} {a : Addr} {p : Plan} (h : RestAt T F H a p) : ∃ tx : Str, tx.length ≤ 1000 ∧ RtTx T H a tx := by
  cases h with
  | win h ht => exact ⟨_, ht, _, _, _, _, .win, .inl rfl, h⟩
  | days h hl ht hF => exact ⟨_, ht, _, _, _, _, .days, .inr (.inl rfl), h⟩
theorem RestAt.winTx {T : Tx K mg} {F : Addr → Prop} {H : Hp} {a : Addr} {w : Int} (h : RestAt T F H a (.win w)) : RtTx T H a (winTx w) := by
  cases h with
  | win h ht => exact ⟨_, _, _, _, .win, .inl rfl, h⟩
def spWritten (T : Tx K mg) : Sp := fun vs H Q _ => ∃ (a : Addr) (tx : Str), vs = [.ref a] ∧ RtTx T H a tx ∧ Q (.str tx) H
theorem pos4 {x : Str} {ns : List Str} {i : Nat} (h : pos? x n4 = some i) : pos? x (n4 ++ ns) = some i := by
  have key : ∀ (l : List Str) (i : Nat), pos? x l = some i → pos? x (l ++ ns) = some i := by
    intro l
    induction l with
    | nil => intro i h; cases h
    | cons n r ih =>
      intro i h
      unfold pos? at h
      show pos? x (n :: (r ++ ns)) = some i
      unfold pos?
      by_cases e : n == x
      · rw [if_pos e] at h ⊢
        exact h
      · rw [if_neg e] at h ⊢
        cases hp : pos? x r with
        | none => rw [hp] at h; cases h
        | some j =>
          rw [hp] at h
          rw [ih j hp]
          exact h
  exact key _ _ h
theorem ok_Rest_written (T : Tx K mg) : FnOk P w K mg base CX0 1 T.a_Rest_written T.fd_Rest_written P_Rest_written (spWritten T) := by
  refine T.F_Rest_written.ok sc_Rest_written (fun vs H Q E h => ?_) (fun cdv A outer s H vs Q E hr h => ?_)
  · obtain ⟨a, tx, rfl, _⟩ := h
    rfl
  · obtain ⟨a, tx, rfl, ⟨C, dx, ns, vs, hC, hn, he⟩, k⟩ := h
    refine ⟨_, (pss_one (ps_ret (kpe_fld K (kv (i := 0) v_Rest_written_self)))), ?_⟩
    walk_at "ss"
    exact k_fldAt he hC.cl hC.noText (pos4 (x := "_text") (i := 0) (by decide +kernel)) rfl k
abbrev OneSp (T : Tx K mg) (sp0 : Sp) : Addr → Sp → Prop := fun C sp => IsC T C ∧ sp = sp0
theorem disp_written (T : Tx K mg) : ∀ C sp, OneSp T (spWritten T) C sp → ∃ g fd ps, Cls K C ∧ Meth K C "written" g ∧ FnOk P w K mg base CX0 1 g fd ps sp ∧ Binds K fd ps [] := by
  rintro C sp ⟨hC, rfl⟩
  refine ⟨_, _, _, hC.cl, ?_, ok_Rest_written T, T.b_Rest_written⟩
  cases hC with
  | win => exact T.me_Window_written
  | days => exact T.me_Days_written
/-- == of two rests, by their texts -/
def spRestEq (T : Tx K mg) : Sp := fun vs H Q _ => ∃ (a b : Addr) (x y : Str), vs = [.ref a, .ref b] ∧ RtTx T H a x ∧ RtTx T H b y ∧ Q (.bl (decide (x = y))) H
theorem ok_Rest_eq (T : Tx K mg) : FnOk P w K mg base CX0 1 T.a_Rest_eq T.fd_Rest_eq P_Rest_eq (spRestEq T) := by
  refine T.F_Rest_eq.ok sc_Rest_eq (fun vs H Q E h => ?_) (fun cdv A outer s H vs Q E hr h => ?_)
  · obtain ⟨a, b, x, y, rfl, _⟩ := h
    rfl
  · obtain ⟨a, b, x, y, rfl, ⟨C, dx, ns, vs, hC, hn, he⟩, ⟨C2, dx2, ns2, vs2, hC2, hn2, he2⟩, k⟩ := h
    refine ⟨_, (pss_one (ps_ret (pe_and (kcB b_isinstance (by decide) (by decide) (kc_isi K) g_Rest_eq_isinstance T.n_isinstance (pa_cons (kv (i := 1) v_Rest_eq_other) (pa_cons (kcls g_Rest_eq_Rest T.m_Rest) pa_nil))) (pe_one (pe_cmpR op_eq (kpe_fld K (kv (i := 0) v_Rest_eq_self)) (kpe_fld K (kv (i := 1) v_Rest_eq_other)) (nomark _)))))), ?_⟩
    walk_at "ss"
    refine k_isiO (ty_own hC2.ty he2) hC2.kt ?_
    walk_at "ss"
    refine k_fldAt he hC.cl hC.noText (pos4 (x := "_text") (i := 0) (by decide +kernel)) rfl ?_
    walk_at "ss"
    refine k_fldAt he2 hC2.cl hC2.noText (pos4 (x := "_text") (i := 0) (by decide +kernel)) rfl ?_
    refine k_eq rfl ?_
    have e : decide (V.str x = V.str y) = decide (x = y) := by simp
    rw [e]
    exact k
end

section
variable {w : World} {K : PySem.W.Frag} {mg : Str → Option Value} {base : Heap}
/-- a method that no rest has in its own dict -/
theorem no_meth {m : Str} {ns : List Str} {vs : List V} (h : nin m n4 = true) (h1 : nin m ["width", "every", "_borders", "first", "second"] = true) (hn : ns = nW1 ∨ ns = nD1 ∨ ns = nO1) : (FL (n4 ++ ns) vs).lookup m = none := by
  refine fl_no ?_
  unfold nin at h1
  simp only [nin, Bool.and_eq_true] at h h1 ⊢
  rcases hn with rfl | rfl | rfl <;> simp [nin, h, h1]
theorem k_rest {T : Tx K mg} {F : Addr → Prop} {H : Hp} {a : Addr} {p : Plan} {m : Str} {E : XK} {sp0 : Sp} {σ : L2.St} {Q : VK} {ta : TE} (ha : RestAt T F H a p) (h : nin m n4 = true) (h1 : nin m ["width", "every", "_borders", "first", "second"] = true)
    (hσ : ∀ Q : VK, Q (.ref a) H → ta σ H Q) (k : sp0 [.ref a] H Q E) : tMethP (OneSp T sp0) m E ta tNil σ H Q := by
  obtain ⟨C, dx, ns, vs, tx, hC, hn, _, he⟩ := ha.four
  refine hσ _ ?_
  exact ⟨a, C, dx, _, sp0, rfl, he, ⟨hC, rfl⟩, no_meth h h1 hn, k⟩
def spWinInit (T : Tx K mg) : Sp := fun vs H Q _ => ∃ (F : Addr → Prop) (a dx : Addr) (n : Int), vs = [.ref a, .int n] ∧ 1 ≤ n ∧ n ≤ 1000 ∧ H a = some (.ins T.C_Window dx []) ∧ ∀ H', SameBut a H H' → RestAt T F H' a (.win n) → Q .non H'
theorem ok_Window_init (T : Tx K mg) : FnOk P w K mg base CX0 2 T.a_Window_init T.fd_Window_init P_Window_init (spWinInit T) := by
  obtain ⟨cl, cld, csl, hce⟩ := T.ce_Window_init
  refine T.F_Window_init.ok sc_Window_init hce T.b_Window_init (fun vs H Q E h => ?_) (fun A outer s H vs Q E hr h => ?_)
  · obtain ⟨F, a, dx, n, rfl, _⟩ := h
    rfl
  · obtain ⟨F, a, dx, n, rfl, h0, h1, ha, k⟩ := h
    have nd := sc_Window_init.nd
    refine ⟨_, (psa_cons (pst_of (ps_if (pt_not (pt_val (pe_call (ok_is_number0 T) (hr.mono (by first | decide | omega)) g_Window_init_is_number T.m_is_number T.k_is_number T.b_is_number .nil pass0 (pa_cons (kv (i := 1) v_Window_init_width) (pa_cons pe_int (pa_cons pe_int pa_nil)))))) (pss_one ps_never) pss_nil))
      (psa_cons (kpst_super K T.sd_Window_init rfl rfl g_Window_init_super fr_Window_init cc_look rfl (locB_ok l_Window_init_self) (by decide) (ok_Rest_init T) (hr.mono (by decide)) T.b_Rest_init .nil pass0 (pa_cons (pe_joined (.cons pe_str (.cons (pe_fmt (kv (i := 1) v_Window_init_width)) .nil))) (pa_cons pe_int (pa_cons pe_int (pa_cons pe_int pa_nil)))))
      (psa_one (pst_of (kps_fld K (kv (i := 0) v_Window_init_self) (kv (i := 1) v_Window_init_width)))))), ?_⟩
    walk_at "ss"
    refine ⟨n, 1, 1000, rfl, h0, h1, ?_⟩
    walk_at "ss"
    refine k_sup rfl ha T.su_Window fun q H1 nq e1 s1 hq => ?_
    walk_at "ss"
    have l1 : ("window " : Str).length = 7 := by decide +kernel
    have l2 : (Str.ofString (toString n)).length ≤ 5 := len_text (k := 4) (by decide) (by omega)
    refine k_jsV (by simp only [PySem.Str.length_append, len_empty, l1]; omega) ?_
    walk_at "ss"
    refine k_fmtI (by omega) ?_
    refine k_jsV (by simp only [PySem.Str.length_append, len_empty, l1]; omega) ?_
    walk_at "ss"
    refine ⟨hq, ?_⟩
    refine ⟨a, _, dx, _, 1, 1, 0, rfl, .win, s1 _ _ ha, ?_⟩
    walk_at "ss"
    refine k_putTop T.cl_Window T.no_Window_width rfl (by decide +kernel) (by decide) ?_
    exact k _ ((SameBut.of s1).put) (.win upd_same (by show (Str.empty ++ ("window " : Str) ++ Str.ofString (toString n)).length ≤ 1000; simp only [PySem.Str.length_append, len_empty, l1]; omega))
end

section
variable {w : World} {K : PySem.W.Frag} {mg : Str → Option Value} {base : Heap}
theorem baseOf_snoc (l : List Int) (b : Int) : baseOf (l ++ [b]) = b := by simp [baseOf]
theorem asc_lt : ∀ {l : Int} {bs : List Int}, Asc l bs → ∀ b ∈ bs, l < b
  | _, [], _, b, hb => by cases hb
  | l, c :: r, h, b, hb => by
    obtain ⟨h1, h2⟩ := h
    rcases List.mem_cons.mp hb with rfl | hb
    · exact h1
    · exact Int.lt_trans h1 (asc_lt h2 b hb)
theorem txtJoin_len (a : Str) (ys : List Str) : (Txt.join a ys).length ≤ (ys.map (·.length)).sum + ys.length * a.length := by
  show (Builtin.Str.glued a ys).length ≤ _
  rw [StrLaws.glued_eq_join]
  exact StrLaws.join_length_le a ys
theorem sum_le {B : Nat} : ∀ {ys : List Str}, (∀ y ∈ ys, y.length ≤ B) → (ys.map (·.length)).sum ≤ ys.length * B
  | [], _ => Nat.zero_le _
  | y :: r, h => by
    have h1 := h y (List.mem_cons_self ..)
    have h2 := sum_le (ys := r) fun z hz => h z (List.mem_cons_of_mem _ hz)
    simp only [List.map_cons, List.sum_cons, List.length_cons, Nat.add_mul, Nat.one_mul]
    omega
def daysW (ys : List Str) (p : Int) : List Str := [("days" : Str)] ++ ys ++ [("then" : Str), Str.ofString (toString p)]
def spDaysInit (T : Tx K mg) : Sp := fun vs H Q _ => ∃ (F : Addr → Prop) (a dx l : Addr) (bs : List Int) (p : Int), (∀ x, F x → H x ≠ none) ∧ vs = [.ref a, .ref l, .int p] ∧ (Plan.days bs p).Ok ∧ H a = some (.ins T.C_Days dx []) ∧ H l = some (.lst (bs.map V.int)) ∧ ∀ H', SameBut a H H' → RestAt T F H' a (.days bs p) → Q .non H'
theorem ok_Days_init (T : Tx K mg) : FnOk P w K mg base CX0 2 T.a_Days_init T.fd_Days_init P_Days_init (spDaysInit T) := by
  obtain ⟨cl, cld, csl, hce⟩ := T.ce_Days_init
  refine T.F_Days_init.ok sc_Days_init hce T.b_Days_init (fun vs H Q E h => ?_) (fun A outer s H vs Q E hr h => ?_)
  · obtain ⟨F, a, dx, l, bs, p, _, rfl, _⟩ := h
    rfl
  · obtain ⟨F, a, dx, l, bs, p, hFH, rfl, ⟨hasc, hle, hlen, hp1, hp2⟩, ha, hl, k⟩ := h
    have nd := sc_Days_init.nd
    refine ⟨_, (psa_cons (pst_of (ps_if (pt_not (pt_val (kcB b_isinstance (by decide) (by decide) (kc_isiT K) g_Days_init_isinstance T.n_isinstance (pa_cons (kv (i := 1) v_Days_init_borders) (pa_cons (pe_tup (pa_cons (kty_list g_Days_init_list T.n_list) (pa_cons (kty_tuple g_Days_init_tuple T.n_tuple) pa_nil))) pa_nil))))) (pss_one ps_never) pss_nil))
      (psa_cons (pst_of (ps_if (pt_cmpR op_gt (kcB b_len (by decide) (by decide) (kc_len K) g_Days_init_len T.n_len (pa_cons (kv (i := 1) v_Days_init_borders) pa_nil)) (pe_glob g_Days_init_BORDERS T.m_BORDERS T.r_BORDERS) (nomark _)) (pss_one ps_never) pss_nil))
      (psa_cons (pst_of (ks_setL (i := 4) nd l_Days_init_last pe_int))
      (psa_cons (pst_of (ps_for PassesOwn.never rfl (kpi_enum K g_Days_init_enumerate T.n_enumerate (pa_cons (kv (i := 1) v_Days_init_borders) pa_nil)) (kpg_tup K 2 rfl (pgs_cons (kgL (i := 5) nd l_Days_init_at) (pgs_cons (kgL (i := 6) nd l_Days_init_border) pgs_nil))) (pss_cons (ps_if (pt_not (pt_val (pe_call (ok_is_number0 T) (hr.mono (by first | decide | omega)) g_Days_init_is_number T.m_is_number T.k_is_number T.b_is_number .nil pass0 (pa_cons (kv (i := 6) v_Days_init_border) (pa_cons (pe_op kop_add (kv (i := 4) v_Days_init_last) pe_int) (pa_cons pe_int pa_nil)))))) (pss_one ps_never) pss_nil)
      (pss_one (ks_setL (i := 4) nd l_Days_init_last (kv (i := 6) v_Days_init_border))))))
      (psa_cons (pst_of (ps_if (pt_not (pt_val (pe_call (ok_is_number0 T) (hr.mono (by first | decide | omega)) g_Days_init_is_number T.m_is_number T.k_is_number T.b_is_number .nil pass0 (pa_cons (kv (i := 2) v_Days_init_every) (pa_cons pe_int (pa_cons pe_int pa_nil)))))) (pss_one ps_never) pss_nil))
      (psa_cons (pst_of (ks_setL (i := 7) nd l_Days_init_words (pe_op kop_add (pe_op kop_add (pe_lst (pa_cons pe_str pa_nil)) (pe_lc (own := [("border", 6)]) rfl nd (kpi_list K (kv (i := 1) v_Days_init_borders)) ok_cs_Days_init_1 (fun _ _ _ _ _ => (kgL (i := 6) nd l_Days_init_1_border)) (fun _ _ _ _ _ => pts_nil) (fun _ _ _ _ _ => (kcT b_str (by decide) (by decide) kc_str g_Days_init_1_str T.n_str (pa_cons (kv (i := 6) v_Days_init_1_border) pa_nil))))) (pe_lst (pa_cons pe_str (pa_cons (kcT b_str (by decide) (by decide) kc_str g_Days_init_str T.n_str (pa_cons (kv (i := 2) v_Days_init_every) pa_nil)) pa_nil))))))
      (psa_cons (kpst_super K T.sd_Days_init rfl rfl g_Days_init_super fr_Days_init cc_look rfl (locB_ok l_Days_init_self) (by decide) (ok_Rest_init T) (hr.mono (by decide)) T.b_Rest_init .nil pass0 (pa_cons (kpe_join K pe_str (kv (i := 7) v_Days_init_words)) (pa_cons pe_int (pa_cons (kv (i := 2) v_Days_init_every) (pa_cons (kv (i := 4) v_Days_init_last) pa_nil)))))
      (psa_cons (pst_of (kps_fld K (kv (i := 0) v_Days_init_self) (kv (i := 2) v_Days_init_every)))
      (psa_one (pst_of (kps_fld K (kv (i := 0) v_Days_init_self) (kcT b_list (by decide) (by decide) (kc_list K) g_Days_init_list T.n_list (pa_cons (kv (i := 1) v_Days_init_borders) pa_nil))))))))))))), ?_⟩
    walk_at "ss"
    intro t1 n1
    generalize e1 : upd H t1 _ = H1
    have s1 := upd_sm e1 n1
    have h1 := upd_at e1
    have hl1 := s1 _ _ hl
    have ha1 := s1 _ _ ha
    clear e1
    walk_at "ss"
    refine k_df (by rw [List.length_map]; omega) ?_
    walk_at "ss"
    refine ⟨l, _, rfl, SqL.of hl1, ?_⟩
    refine k_forIt (walk_enum (xs := bs.map V.int)) (fun i σ H' => ∃ dn rs v5 v6, bs = dn ++ rs ∧ dn.length = i ∧ Asc (baseOf dn) rs ∧ σ = [some (V.ref a), some (V.ref l), some (V.int p), some (V.ref T.C_Days), some (V.int (baseOf dn)), v5, v6, none] ∧ Same H1 H') ⟨[], bs, none, none, rfl, rfl, hasc, rfl, Same.refl _⟩ ?_ ?_ ?_
    · rintro i σ H' _ ⟨dn, rs, v5, v6, _, _, _, _, sm⟩
      exact SqL.of (sm _ _ hl1)
    · rintro i x σ H' H'' hi ⟨dn, rs, v5, v6, eb, ei, hrs, rfl, sm⟩ ⟨tp, y1, y2, rfl, nt, rfl, ey1, ey2⟩
      obtain rfl : V.int (i : Nat) = y1 := Option.some.inj ey1
      have ey2 : (bs.map V.int)[i]? = some y2 := ey2
      rw [List.length_map] at hi
      cases rs with
      | nil => rw [eb, List.append_nil] at hi; omega
      | cons c r =>
        have hc : y2 = V.int c := by
          rw [eb, List.map_append, List.getElem?_append_right (by simp [ei]), List.length_map, ei] at ey2
          simp at ey2
          exact ey2.symm
        subst hc
        obtain ⟨hc1, hc2⟩ := hrs
        have hc3 := hle c (by rw [eb]; simp)
        walk_at "ss"
        refine ⟨c, baseOf dn + 1, 1000, rfl, by omega, hc3, ?_⟩
        walk_at "ss"
        exact ⟨dn ++ [c], r, _, _, by rw [eb]; simp, by simp [ei], by rw [baseOf_snoc]; exact hc2, by rw [baseOf_snoc]; rfl, sm.trans (same_new nt)⟩
    · rintro σ H2 ⟨dn, rs, v5, v6, eb, ei, hrs, rfl, sm⟩
      have er : rs = [] := by
        have := congrArg List.length eb
        rw [List.length_append, ei, List.length_map] at this
        exact List.length_eq_zero_iff.mp (by omega)
      subst er
      rw [List.append_nil] at eb
      subst eb
      have sm0 := sm
      have hl2 := sm _ _ hl1
      have ha2 := sm _ _ ha1
      walk_at "ss"
      refine ⟨p, 1, 2000, rfl, hp1, hp2, ?_⟩
      walk_at "ss"
      intro t3 n3
      generalize e3 : upd H2 t3 _ = H3
      have s3 := upd_sm e3 n3
      have h3 := upd_at e3
      clear e3
      walk_at "ss"
      refine k_iL (SqL.of (s3 _ _ hl2)) ?_
      intro D nD
      refine k_lcList (bs.map V.int) (fun i H' => ∃ ys : List Str, ys.length = i ∧ (∀ y ∈ ys, y.length ≤ 5) ∧ H' D = some (.lst (ys.map V.str)) ∧ SameBut D H3 H') ⟨[], rfl, fun y hy => (by cases hy), upd_same, (SameBut.refl _ _).put⟩ ?_ ?_ ?_
      · rintro i H' _ ⟨ys, _, _, hD, sm⟩
        exact SqL.of (sm _ _ (ne_of_none (s3 _ _ hl2) nD) (s3 _ _ hl2))
      · rintro i x H' hx ⟨ys, ey, hy, hD, sm⟩
        have hm := List.mem_of_getElem? hx
        obtain ⟨z, hz, rfl⟩ := List.mem_map.mp hm
        have hi := (List.getElem?_eq_some_iff.mp hx).1
        rw [List.length_map] at hi
        have hz1 := hle z hz
        have hz0 := asc_lt hasc z hz
        refine k_gName ?_
        refine ⟨rfl, ?_⟩
        walk_at "ss"
        refine k_str1 (by omega) ?_
        refine ⟨_, hD, small_lt (by rw [List.length_map]; omega), ys ++ [Str.ofString (toString z)], by simp [ey], ?_, by rw [upd_same, List.map_append]; rfl, sm.put⟩
        intro y hy'
        rcases List.mem_append.mp hy' with h | h
        · exact hy y h
        · rw [List.mem_singleton] at h
          subst h
          exact len_text (k := 4) (by decide) (by omega)
      · rintro H4 ⟨ys, ey, hy, hD, sm⟩
        rw [List.length_map] at ey
        have h34 := sm _ _ (ne_of_none h3 nD) h3
        have ha4 := sm _ _ (ne_of_none (s3 _ _ ha2) nD) (s3 _ _ ha2)
        have hl4 := sm _ _ (ne_of_none (s3 _ _ hl2) nD) (s3 _ _ hl2)
        have sH4 : Same H H4 := fun b o h => sm b o (ne_of_none (s3 _ _ (sm0 _ _ (s1 _ _ h))) nD) (s3 _ _ (sm0 _ _ (s1 _ _ h)))
        refine k_addL h34 hD (by simp; omega) ?_
        intro t5 n5
        generalize e5 : upd H4 t5 _ = H5
        have s5 := upd_sm e5 n5
        have h5 := upd_at e5
        clear e5
        walk_at "ss"
        refine k_str1 (by omega) ?_
        walk_at "ss"
        intro t6 n6
        generalize e6 : upd H5 t6 _ = H6
        have s6 := upd_sm e6 n6
        have h6 := upd_at e6
        clear e6
        refine k_addL (s6 _ _ h5) h6 (by simp; omega) ?_
        intro t7 n7
        generalize e7 : upd H6 t7 _ = H7
        have s7 := upd_sm e7 n7
        have h7 := upd_at e7
        clear e7
        have s47 := (s5.trans s6).trans s7
        walk_at "ss"
        refine k_sup rfl (s47 _ _ ha4) T.su_Days fun q H8 nq e8 s8 hq => ?_
        walk_at "ss"
        have l1 : ("days" : Str).length = 4 := by decide +kernel
        have l2 : ("then" : Str).length = 4 := by decide +kernel
        have l3 : (" " : Str).length = 1 := by decide +kernel
        have l4 : (Str.ofString (toString p)).length ≤ 5 := len_text (k := 4) (by decide) (by omega)
        have q7 : H8 t7 = some (.lst ((daysW ys p).map V.str)) := by
          rw [s8 _ _ h7]
          unfold daysW
          simp only [List.map_append, List.map_cons, List.map_nil]
        have lz : ∀ y ∈ daysW ys p, y.length ≤ 5 := by
          intro y hy'
          unfold daysW at hy'
          simp only [List.mem_append, List.mem_cons, List.not_mem_nil, or_false] at hy'
          rcases hy' with (rfl | h) | rfl | rfl
          · omega
          · exact hy y h
          · omega
          · exact l4
        have ll : (daysW ys p).length ≤ 15 := by
          unfold daysW
          simp only [List.length_append, List.length_cons, List.length_nil]
          omega
        have lsum := sum_le lz
        have lj := txtJoin_len " " (daysW ys p)
        have lm1 : (daysW ys p).length * 5 ≤ 15 * 5 := Nat.mul_le_mul_right 5 ll
        rw [l3] at lj
        refine k_joinL (SqL.of q7) (by rw [l3]; omega) fun out eo => ?_
        walk_at "ss"
        refine ⟨hq, ?_⟩
        refine ⟨a, _, dx, _, 1, p, baseOf bs, rfl, .days, s8 _ _ (s47 _ _ ha4), ?_⟩
        walk_at "ss"
        refine k_putTop T.cl_Days T.no_Days_every rfl (by decide +kernel) (by decide) ?_
        walk_at "ss"
        have hl8 := s8 _ _ (s47 _ _ hl4)
        have nla : l ≠ a := ne_of hl8 (s8 _ _ (s47 _ _ ha4)) (by intro z; cases z)
        refine k_listL (SqL.of ((upd_ne nla).trans hl8)) ?_
        intro l2 n9
        have na9 : a ≠ l2 := fun z => by rw [← z, upd_same] at n9; cases n9
        walk_at "ss"
        refine k_putAt ((upd_ne na9).trans upd_same) T.cl_Days T.no_Days_borders rfl (by decide +kernel) (by decide) ?_
        refine k _ ?_ (.days upd_same ((upd_ne (Ne.symm na9)).trans upd_same) (by rw [eo]; omega) (fun z => ?_))
        · refine SameBut.put ?_
          intro b o nb hb
          rw [upd_ne, upd_ne nb]
          · exact s8 _ _ (s47 _ _ (sH4 _ _ hb))
          · intro z
            rw [← z, upd_ne nb, s8 _ _ (s47 _ _ (sH4 _ _ hb))] at n9
            cases n9
        · cases hb : H l2 with
          | none => exact hFH _ z hb
          | some o =>
            rw [upd_ne (Ne.symm na9), s8 _ _ (s47 _ _ (sH4 _ _ hb))] at n9
            cases n9
end

section
variable {w : World} {K : PySem.W.Frag} {mg : Str → Option Value} {base : Heap}
theorem RestAt.upBut {T : Tx K mg} {F : Addr → Prop} {H H' : Hp} {z C dx : Addr} (hz : H z = some (.ins C dx [])) (e : SameBut z H H') : ∀ {a : Addr} {p : Plan}, RestAt T F H a p → RestAt T F H' a p := by
  intro a p h
  induction h with
  | win h ht => exact .win (e _ _ (ne_of h hz (by intro q; cases q)) h) ht
  | days h hl ht hF => exact .days (e _ _ (ne_of h hz (by intro q; cases q)) h) (e _ _ (ne_of hl hz (by intro q; cases q)) hl) ht hF
/-! ### the moments -/
def spAftW (T : Tx K mg) : Sp := fun vs H Q _ => ∃ F a t n, vs = [.ref a, .int t] ∧ RestAt T F H a (.win n) ∧ Q (.int ((Plan.win n).at t)) H
def spAftD (T : Tx K mg) : Sp := fun vs H Q _ => ∃ F a t bs p, vs = [.ref a, .int t] ∧ RestAt T F H a (.days bs p) ∧ (Plan.days bs p).Ok ∧ Q (.int ((Plan.days bs p).at t)) H
inductive RA (T : Tx K mg) : Addr → Sp → Prop where
  | win : RA T T.C_Window (spAftW T)
  | days : RA T T.C_Days (spAftD T)
theorem ok_Window_after (T : Tx K mg) : FnOk P w K mg base CX0 1 T.a_Window_after T.fd_Window_after P_Window_after (spAftW T) := by
  refine T.F_Window_after.ok sc_Window_after (fun vs H Q E h => ?_) (fun cdv A outer s H vs Q E hr h => ?_)
  · obtain ⟨F, a, t, n, rfl, _⟩ := h
    rfl
  · obtain ⟨F, a, t, n, rfl, ha, k⟩ := h
    cases ha with
    | win h ht =>
      refine ⟨_, (pss_one (ps_ret (pe_op kop_add (kv (i := 1) v_Window_after_t) (kpe_fld K (kv (i := 0) v_Window_after_self))))), ?_⟩
      walk_at "ss"
      refine k_fldAt h T.cl_Window T.no_Window_width (i := 4) (by decide +kernel) rfl ?_
      walk_at "ss"
      exact k
theorem asc_base : ∀ {l : Int} {bs : List Int}, Asc l bs → ∀ b ∈ bs, b ≤ baseOf bs
  | _, [], _, b, hb => by cases hb
  | l, [c], _, b, hb => by
    rw [List.mem_singleton] at hb
    subst hb
    exact Int.le_refl _
  | l, c :: e :: r, h, b, hb => by
    obtain ⟨h1, h2⟩ := h
    have ih := asc_base h2
    have eb : baseOf (c :: e :: r) = baseOf (e :: r) := by simp [baseOf]
    rw [eb]
    rcases List.mem_cons.mp hb with rfl | hb
    · exact Int.le_trans (Int.le_of_lt h2.1) (ih e (List.mem_cons_self ..))
    · exact ih b hb
theorem find_take {bs : List Int} {i : Nat} {t c : Int} (h : ∀ b ∈ bs.take i, ¬ t < b) (hc : bs[i]? = some c) (hi : t < c) : bs.find? (fun b => decide (t < b)) = some c := by
  have e : bs = bs.take i ++ c :: bs.drop (i + 1) := by
    obtain ⟨hi', rfl⟩ := List.getElem?_eq_some_iff.mp hc
    rw [List.getElem_cons_drop, List.take_append_drop]
  rw [e, List.find?_append, List.find?_eq_none.mpr (by simpa using h)]
  simp [hi]
theorem take_step {bs : List Int} {i : Nat} {t c : Int} (h : ∀ b ∈ bs.take i, ¬ t < b) (hc : bs[i]? = some c) (hi : ¬ t < c) : ∀ b ∈ bs.take (i + 1), ¬ t < b := by
  intro b hb
  rw [List.take_add_one, hc, List.mem_append] at hb
  rcases hb with hb | hb
  · exact h b hb
  · simp at hb
    subst hb
    exact hi
theorem dayAt_none {bs : List Int} {p t : Int} (h : ∀ b ∈ bs, ¬ t < b) : dayAt bs p t = baseOf bs + ((t - baseOf bs) / p + 1) * p := by
  unfold dayAt
  rw [List.find?_eq_none.mpr (by simpa using h)]
theorem dayAt_some {bs : List Int} {p t c : Int} (h : bs.find? (fun b => decide (t < b)) = some c) : dayAt bs p t = c := by
  unfold dayAt
  rw [h]
theorem map_int_at {bs : List Int} {i : Nat} {x : V} (h : (bs.map V.int)[i]? = some x) : ∃ c, bs[i]? = some c ∧ x = .int c := by
  rw [List.getElem?_map] at h
  cases hb : bs[i]? with
  | none => rw [hb] at h; cases h
  | some c => rw [hb] at h; exact ⟨c, rfl, (Option.some.inj h).symm⟩
theorem ok_Days_after (T : Tx K mg) : FnOk P w K mg base CX0 1 T.a_Days_after T.fd_Days_after P_Days_after (spAftD T) := by
  refine T.F_Days_after.ok sc_Days_after (fun vs H Q E h => ?_) (fun cdv A outer s H vs Q E hr h => ?_)
  · obtain ⟨F, a, t, bs, p, rfl, _⟩ := h
    rfl
  · obtain ⟨F, a, t, bs, p, rfl, ha, ⟨hasc, hle, hlen, hp1, hp2⟩, k⟩ := h
    have nd := sc_Days_after.nd
    cases ha with
    | days h hl ht hF =>
      rename_i dx l tx
      have kn : (∀ b ∈ bs, ¬ t < b) → Q (.int (baseOf bs + ((t - baseOf bs) / p + 1) * p)) H := fun hn => by
        rw [← dayAt_none hn]
        exact k
      refine ⟨_, (pss_cons (ps_if (pt_cmpR op_lt (kv (i := 1) v_Days_after_t) (kpe_fld K (kv (i := 0) v_Days_after_self)) (nomark _)) (pss_one (ps_for PassesOwn.never rfl (kpi_list K (kpe_fld K (kv (i := 0) v_Days_after_self))) (kgL (i := 2) nd l_Days_after_border) (pss_one (ps_if (pt_cmpR op_gt (kv (i := 2) v_Days_after_border) (kv (i := 1) v_Days_after_t) (nomark _)) (pss_one (ps_ret (kv (i := 2) v_Days_after_border))) pss_nil)))) pss_nil)
      (pss_one (ps_ret (pe_op kop_add (kpe_fld K (kv (i := 0) v_Days_after_self)) (pe_op op_mul (pe_op kop_add (pe_op op_fdiv (pe_op op_sub (kv (i := 1) v_Days_after_t) (kpe_fld K (kv (i := 0) v_Days_after_self))) (kpe_fld K (kv (i := 0) v_Days_after_self))) pe_int) (kpe_fld K (kv (i := 0) v_Days_after_self))))))), ?_⟩
      walk_at "ss"
      refine k_fldAt h T.cl_Days T.no_Days_bend (i := 3) (by decide +kernel) rfl ?_
      walk_at "ss"
      refine k_d (fun hb => ?_) (fun hb => ?_)
      · walk_at "ss"
        refine k_fldAt h T.cl_Days T.no_Days_borders (i := 5) (by decide +kernel) rfl ?_
        refine k_iL (SqL.of hl) ?_
        refine k_forList (bs.map V.int) (fun i σ H' => H' = H ∧ (∃ v, σ = [some (V.ref a), some (V.int t), v]) ∧ ∀ b ∈ bs.take i, ¬ t < b) ⟨rfl, ⟨none, rfl⟩, fun b hb => (by cases hb)⟩ ?_ ?_ ?_
        · rintro i σ _ _ ⟨rfl, _, _⟩
          exact SqL.of hl
        · rintro i x σ _ hx ⟨rfl, ⟨v, rfl⟩, hn⟩
          obtain ⟨c, hc, rfl⟩ := map_int_at hx
          walk_at "ss"
          refine k_d (fun h1 => ?_) (fun h1 => ?_)
          · walk_at "ss"
            have e := dayAt_some (p := p) (find_take hn hc h1)
            rw [← e]
            exact k
          · walk_at "ss"
            exact ⟨rfl, ⟨_, rfl⟩, take_step hn hc h1⟩
        · rintro σ _ ⟨rfl, ⟨v, rfl⟩, hn⟩
          rw [List.length_map, List.take_length] at hn
          walk_at "ss"
          refine k_fldAt h T.cl_Days T.no_Days_bend (i := 3) (by decide +kernel) rfl ?_
          walk_at "ss"
          refine k_fldAt h T.cl_Days T.no_Days_bend (i := 3) (by decide +kernel) rfl ?_
          walk_at "ss"
          refine k_fldAt h T.cl_Days T.no_Days_every (i := 4) (by decide +kernel) rfl ?_
          walk_at "ss"
          refine k_fldAt h T.cl_Days T.no_Days_every (i := 4) (by decide +kernel) rfl ?_
          refine k_I (.inr ⟨by omega, by omega⟩) ?_
          exact kn hn
      · walk_at "ss"
        refine k_fldAt h T.cl_Days T.no_Days_bend (i := 3) (by decide +kernel) rfl ?_
        walk_at "ss"
        refine k_fldAt h T.cl_Days T.no_Days_bend (i := 3) (by decide +kernel) rfl ?_
        walk_at "ss"
        refine k_fldAt h T.cl_Days T.no_Days_every (i := 4) (by decide +kernel) rfl ?_
        walk_at "ss"
        refine k_fldAt h T.cl_Days T.no_Days_every (i := 4) (by decide +kernel) rfl ?_
        refine k_I (.inr ⟨by omega, by omega⟩) ?_
        refine kn fun b hb' => ?_
        have := asc_base hasc b hb'
        omega
theorem k_meth {R : Addr → Sp → Prop} {m : Str} {E : XK} {ta : TE} {t : TA} {σ : L2.St} {H : Hp} {Q : VK} (h : ta σ H fun x H1 => ∃ a C dx fs sp, x = V.ref a ∧ H1 a = some (.ins C dx fs) ∧ R C sp ∧ fs.lookup m = none ∧ t σ H1 fun vs H2 => sp (x :: vs) H2 Q E) : tMethP R m E ta t σ H Q := h
/-- one method call on a rest, its forms at most d + 1 -/
theorem rest_after {T : Tx K mg} {F : Addr → Prop} {H : Hp} {a : Addr} {p : Plan} (ha : RestAt T F H a p) (ok : p.Ok) : ∃ C dx fs sp, H a = some (.ins C dx fs) ∧ RA T C sp ∧ fs.lookup ("_after" : Str) = none ∧ ∀ (t : Int) (H' : Hp) (Q : VK) (E : XK), Same H H' → Q (.int (p.at t)) H' → sp [.ref a, .int t] H' Q E := by
  have g : ∃ C dx ns vs, (ns = nW1 ∨ ns = nD1 ∨ ns = nO1) ∧ H a = some (.ins C dx (FL (n4 ++ ns) vs)) := by
    obtain ⟨C, dx, ns, vs, tx, hC, hn, _, he⟩ := ha.four
    exact ⟨C, dx, ns, _, hn, he⟩
  obtain ⟨C, dx, ns, vs, hn, he⟩ := g
  have nm := no_meth (vs := vs) (m := "_after") (by decide +kernel) (by decide +kernel) hn
  refine ⟨C, dx, FL (n4 ++ ns) vs, ?_⟩
  cases ha with
  | win h ht =>
    obtain rfl : C = T.C_Window := (HO.ins.inj (Option.some.inj (he.symm.trans h))).1
    exact ⟨_, he, .win, nm, fun t H' Q E sm k => ⟨F, a, t, _, rfl, .win (sm _ _ h) ht, k⟩⟩
  | days h hl ht hF =>
    obtain rfl : C = T.C_Days := (HO.ins.inj (Option.some.inj (he.symm.trans h))).1
    exact ⟨_, he, .days, nm, fun t H' Q E sm k => ⟨F, a, t, _, _, rfl, .days (sm _ _ h) (sm _ _ hl) ht hF, ok, k⟩⟩
theorem disp_after (T : Tx K mg) : ∀ C sp, RA T C sp → ∃ g fd ps, Cls K C ∧ Meth K C "_after" g ∧ FnOk P w K mg base CX0 1 g fd ps sp ∧ Binds K fd ps [] := by
  intro C sp hC
  cases hC with
  | win => exact ⟨_, _, _, T.cl_Window, T.me_Window_after, ok_Window_after T, T.b_Window_after⟩
  | days => exact ⟨_, _, _, T.cl_Days, T.me_Days_after, ok_Days_after T, T.b_Days_after⟩
def spCall (T : Tx K mg) : Sp := fun vs H Q _ => ∃ F a t p, vs = [.ref a, .int t] ∧ RestAt T F H a p ∧ p.Ok ∧ Q (.int (p.at t)) H
theorem ok_Rest_call (T : Tx K mg) : FnOk P w K mg base CX0 7 T.a_Rest_call T.fd_Rest_call P_Rest_call (spCall T) := by
  refine T.F_Rest_call.ok sc_Rest_call (fun vs H Q E h => ?_) (fun cdv A outer s H vs Q E hr h => ?_)
  · obtain ⟨F, a, t, p, rfl, _⟩ := h
    rfl
  · obtain ⟨F, a, t, p, rfl, ha, op, k⟩ := h
    obtain ⟨C1, dx1, fs1, sp1, e1, r1, l1, g1⟩ := rest_after ha op
    refine ⟨_, (pss_one (ps_ret (kpe_methP (disp_after T) (hr.mono (by decide)) pass0 (kv (i := 0) v_Rest_call_self) (pa_cons (kv (i := 1) v_Rest_call_t) pa_nil)))), ?_⟩
    walk_at "ss"
    refine k_meth ?_
    walk_at "ss"
    refine ⟨a, C1, dx1, fs1, sp1, rfl, e1, r1, l1, ?_⟩
    walk_at "ss"
    refine g1 _ _ _ _ (Same.refl _) ?_
    exact k
theorem disp_call (T : Tx K mg) : ∀ C sp, OneSp T (spCall T) C sp → ∃ g fd ps, StX.CallO K C g ∧ FnOk P w K mg base CX0 7 g fd ps sp ∧ Binds K fd ps [] := by
  rintro C sp ⟨hC, rfl⟩
  refine ⟨_, _, _, ?_, ok_Rest_call T, T.b_Rest_call⟩
  cases hC with
  | win => exact T.co_Window
  | days => exact T.co_Days
theorem k_thing {R : Addr → Sp → Prop} {E : XK} {tf : TE} {t : TA} {σ : L2.St} {H : Hp} {Q : VK} (h : tf σ H fun y H1 => ∃ a C sp, y = V.ref a ∧ R C sp ∧ t σ H1 fun vs H2 => (∃ dx fs, H2 a = some (.ins C dx fs)) ∧ sp (V.ref a :: vs) H2 Q E) : tCallP R E tf t σ H Q := h
theorem rest_call {T : Tx K mg} {F : Addr → Prop} {H : Hp} {a : Addr} {p : Plan} (ha : RestAt T F H a p) (ok : p.Ok) : ∃ C, OneSp T (spCall T) C (spCall T) ∧ ∀ (t : Int) (H' : Hp) (Q : VK) (E : XK), Same H H' → Q (.int (p.at t)) H' → (∃ dx fs, H' a = some (.ins C dx fs)) ∧ spCall T [.ref a, .int t] H' Q E := by
  obtain ⟨C, dx, ns, vs, tx, hC, _, _, he⟩ := ha.four
  exact ⟨C, ⟨hC, rfl⟩, fun t H' Q E sm k => ⟨⟨_, _, sm _ _ he⟩, F, a, t, p, rfl, ha.up sm, ok, k⟩⟩
end

theorem at_gt : ∀ {p : Plan}, p.Ok → ∀ t, t < p.at t
  | .win w, h, t => by show t < t + w; have := h.1; omega
  | .days bs p, ⟨_, _, _, hp, _⟩, t => by
    show t < dayAt bs p t
    cases hf : bs.find? (fun b => decide (t < b)) with
    | some c =>
      rw [dayAt_some hf]
      simpa using List.find?_some hf
    | none =>
      have := List.find?_eq_none.mp hf
      rw [dayAt_none (by simpa using this)]
      have := Int.lt_ediv_add_one_mul_self (t - baseOf bs) (b := p) (by omega)
      omega
  | .op o a b, ⟨ha, hb, _, _⟩, t => by
    have h1 := at_gt ha t
    have h2 := at_gt hb t
    have h3 := at_gt hb (a.at t)
    cases o
    · show t < mx _ _; unfold mx; split <;> omega
    · show t < mn _ _; unfold mn; split <;> omega
    · show t < b.at (a.at t); omega
theorem find_min : ∀ {l : Int} {bs : List Int} {t c d : Int}, Asc l bs → bs.find? (fun b => decide (t < b)) = some c → d ∈ bs → t < d → c ≤ d
  | _, [], _, _, _, _, h, _, _ => by cases h
  | l, b :: r, t, c, d, ⟨h1, h2⟩, h, hd, ht => by
    by_cases e : t < b
    · have : c = b := by simpa [List.find?_cons, e] using h.symm
      subst this
      rcases List.mem_cons.mp hd with rfl | hd
      · exact Int.le_refl _
      · exact Int.le_of_lt (asc_lt h2 d hd)
    · have h : r.find? (fun b => decide (t < b)) = some c := by simpa [List.find?_cons, e] using h
      rcases List.mem_cons.mp hd with rfl | hd
      · omega
      · exact find_min h2 h hd ht
theorem base_mem {bs : List Int} (h : bs ≠ []) : baseOf bs ∈ bs := by
  unfold baseOf
  rw [List.getLast?_eq_some_getLast h]
  exact List.getLast_mem h
theorem at_mono : ∀ {p : Plan}, p.Ok → ∀ {t u : Int}, t ≤ u → p.at t ≤ p.at u
  | .win w, h, t, u, e => by show t + w ≤ u + w; omega
  | .days bs p, ⟨ha, _, _, hp, _⟩, t, u, e => by
    show dayAt bs p t ≤ dayAt bs p u
    cases hu : bs.find? (fun b => decide (u < b)) with
    | some d =>
      rw [dayAt_some hu]
      have h1 : u < d := by simpa using List.find?_some hu
      have h2 := List.mem_of_find?_eq_some hu
      cases ht : bs.find? (fun b => decide (t < b)) with
      | some c =>
        rw [dayAt_some ht]
        exact find_min ha ht h2 (by omega)
      | none =>
        have := List.find?_eq_none.mp ht d h2
        simp at this
        omega
    | none =>
      have hn : ∀ b ∈ bs, ¬ u < b := by simpa using List.find?_eq_none.mp hu
      rw [dayAt_none hn]
      cases ht : bs.find? (fun b => decide (t < b)) with
      | some c =>
        rw [dayAt_some ht]
        have h2 := List.mem_of_find?_eq_some ht
        have h3 := asc_base ha c h2
        have h4 := hn _ (base_mem (List.ne_nil_of_mem h2))
        have h5 : 0 ≤ (u - baseOf bs) / p := Int.ediv_nonneg (by omega) (by omega)
        have h6 : 0 ≤ ((u - baseOf bs) / p + 1) * p := Int.mul_nonneg (by omega) (by omega)
        omega
      | none =>
        rw [dayAt_none (by simpa using List.find?_eq_none.mp ht)]
        have h5 : (t - baseOf bs) / p ≤ (u - baseOf bs) / p := Int.ediv_le_ediv (by omega) (by omega)
        have h6 : ((t - baseOf bs) / p + 1) * p ≤ ((u - baseOf bs) / p + 1) * p := Int.mul_le_mul_of_nonneg_right (by omega) (by omega)
        omega
  | .op o a b, ⟨ha, hb, _, _⟩, t, u, e => by
    have h1 := at_mono ha e
    have h2 := at_mono hb e
    have h3 := at_mono hb h1
    cases o
    · show mx _ _ ≤ mx _ _; unfold mx; split <;> split <;> omega
    · show mn _ _ ≤ mn _ _; unfold mn; split <;> split <;> omega
    · exact h3

abbrev Us := List (Int × Int)
def cum (us : Us) (x : Int) : Int := (us.map fun z => if z.1 < x then z.2 else 0).sum
def wsum (us : Us) (lo hi : Int) : Int := (us.map fun z => if lo ≤ z.1 ∧ z.1 < hi then z.2 else 0).sum
def tot1 (us : Us) (m : Int) : Int := (us.map fun z => if z.1 = m then z.2 else 0).sum
def pre (us : Us) (A : List Int) : Int := (us.map fun z => if z.1 ∈ A then z.2 else 0).sum
theorem wsum_cum {lo hi : Int} (h : lo ≤ hi) : ∀ us : Us, wsum us lo hi = cum us hi - cum us lo
  | [] => rfl
  | z :: us => by
    have ih := wsum_cum h us
    unfold wsum cum at ih ⊢
    simp only [List.map_cons, List.sum_cons]
    rw [ih]
    split <;> split <;> split <;> omega
theorem cum_pre {x : Int} {A : List Int} : ∀ {us : Us}, (∀ z ∈ us, z.1 < x ↔ z.1 ∈ A) → cum us x = pre us A
  | [], _ => rfl
  | z :: us, h => by
    have ih := cum_pre (us := us) fun y hy => h y (List.mem_cons_of_mem _ hy)
    have h1 := h z List.mem_cons_self
    unfold cum pre at ih ⊢
    simp only [List.map_cons, List.sum_cons]
    rw [ih]
    by_cases e : z.1 < x
    · rw [if_pos e, if_pos (h1.mp e)]
    · rw [if_neg e, if_neg (fun q => e (h1.mpr q))]
theorem pre_snoc {A : List Int} {m : Int} (hm : m ∉ A) : ∀ us : Us, pre us (A ++ [m]) = pre us A + tot1 us m
  | [] => rfl
  | z :: us => by
    have ih := pre_snoc hm us
    unfold pre tot1 at ih ⊢
    simp only [List.map_cons, List.sum_cons]
    rw [ih]
    by_cases e : z.1 = m
    · have e1 : z.1 ∈ A ++ [m] := by rw [e]; simp
      have e2 : ¬ z.1 ∈ A := by rw [e]; exact hm
      rw [if_pos e1, if_neg e2, if_pos e]
      omega
    · by_cases e1 : z.1 ∈ A
      · rw [if_pos (List.mem_append_left _ e1), if_pos e1, if_neg e]
        omega
      · have e2 : ¬ z.1 ∈ A ++ [m] := by simp [e1, e]
        rw [if_neg e2, if_neg e1, if_neg e]
        omega
theorem tot1_snoc (us : Us) (m n x : Int) : tot1 (us ++ [(m, n)]) x = tot1 us x + if m = x then n else 0 := by
  unfold tot1
  rw [List.map_append, List.sum_append]
  simp
theorem tot1_none {m : Int} : ∀ {us : Us}, (∀ z ∈ us, z.1 ≠ m) → tot1 us m = 0
  | [], _ => rfl
  | z :: us, h => by
    have ih := tot1_none (us := us) fun y hy => h y (List.mem_cons_of_mem _ hy)
    unfold tot1 at ih ⊢
    simp only [List.map_cons, List.sum_cons]
    rw [ih, if_neg (h z List.mem_cons_self)]
    rfl
theorem wsum_nn {lo hi : Int} : ∀ {us : Us}, (∀ z ∈ us, 1 ≤ z.2) → 0 ≤ wsum us lo hi
  | [], _ => Int.le_refl _
  | z :: us, h => by
    have ih := wsum_nn (lo := lo) (hi := hi) (us := us) fun y hy => h y (List.mem_cons_of_mem _ hy)
    have h1 := h z List.mem_cons_self
    unfold wsum at ih ⊢
    simp only [List.map_cons, List.sum_cons]
    split <;> omega
theorem wsum_pos {lo hi : Int} : ∀ {us : Us} {y : Int × Int}, (∀ z ∈ us, 1 ≤ z.2) → y ∈ us → lo ≤ y.1 → y.1 < hi → 1 ≤ wsum us lo hi
  | z :: us, y, h, hy, h0, h1 => by
    have nn := wsum_nn (lo := lo) (hi := hi) (us := us) fun y hy => h y (List.mem_cons_of_mem _ hy)
    have h2 := h z List.mem_cons_self
    rcases List.mem_cons.mp hy with rfl | hy
    · unfold wsum at nn ⊢
      simp only [List.map_cons, List.sum_cons]
      rw [if_pos ⟨h0, h1⟩]
      omega
    · have ih := wsum_pos (us := us) (fun y hy => h y (List.mem_cons_of_mem _ hy)) hy h0 h1
      unfold wsum at ih ⊢
      simp only [List.map_cons, List.sum_cons]
      split <;> omega
theorem wsum_le {lo hi hi' : Int} (hh : hi ≤ hi') : ∀ {us : Us}, (∀ z ∈ us, 1 ≤ z.2) → wsum us lo hi ≤ wsum us lo hi'
  | [], _ => Int.le_refl _
  | z :: us, h => by
    have ih := wsum_le (lo := lo) hh (us := us) fun y hy => h y (List.mem_cons_of_mem _ hy)
    have h1 := h z List.mem_cons_self
    unfold wsum at ih ⊢
    simp only [List.map_cons, List.sum_cons]
    split <;> split <;> omega
theorem wsum_none {lo hi : Int} : ∀ {us : Us}, (∀ z ∈ us, ¬ (lo ≤ z.1 ∧ z.1 < hi)) → wsum us lo hi = 0
  | [], _ => rfl
  | z :: us, h => by
    have ih := wsum_none (us := us) fun y hy => h y (List.mem_cons_of_mem _ hy)
    unfold wsum at ih ⊢
    simp only [List.map_cons, List.sum_cons]
    rw [ih, if_neg (h z List.mem_cons_self)]
    rfl
theorem wsum_lo {lo lo' hi : Int} (hl : lo ≤ lo') : ∀ {us : Us}, (∀ z ∈ us, ¬ (lo ≤ z.1 ∧ z.1 < lo')) → wsum us lo hi = wsum us lo' hi
  | [], _ => rfl
  | z :: us, h => by
    have ih := wsum_lo (hi := hi) hl (us := us) fun y hy => h y (List.mem_cons_of_mem _ hy)
    have h1 := h z List.mem_cons_self
    unfold wsum at ih ⊢
    simp only [List.map_cons, List.sum_cons]
    rw [ih]
    split <;> split <;> omega
/-- the least moment from s on -/
theorem next_use (s : Int) : ∀ us : Us, (∀ z ∈ us, z.1 < s) ∨ ∃ y ∈ us, s ≤ y.1 ∧ ∀ z ∈ us, ¬ (s ≤ z.1 ∧ z.1 < y.1)
  | [] => .inl fun z hz => by cases hz
  | x :: us => by
    rcases next_use s us with h | ⟨y, hy, h0, h1⟩
    · by_cases e : s ≤ x.1
      · refine .inr ⟨x, List.mem_cons_self, e, fun z hz => ?_⟩
        rcases List.mem_cons.mp hz with rfl | hz
        · omega
        · have := h z hz; omega
      · refine .inl fun z hz => ?_
        rcases List.mem_cons.mp hz with rfl | hz
        · omega
        · exact h z hz
    · by_cases e : s ≤ x.1 ∧ x.1 < y.1
      · refine .inr ⟨x, List.mem_cons_self, e.1, fun z hz => ?_⟩
        rcases List.mem_cons.mp hz with rfl | hz
        · omega
        · have := h1 z hz; omega
      · refine .inr ⟨y, List.mem_cons_of_mem _ hy, h0, fun z hz => ?_⟩
        rcases List.mem_cons.mp hz with rfl | hz
        · exact e
        · exact h1 z hz
/-- the best of a row of moments -/
def Best (f : Int → Int) (A : List Int) (v : Int) (st : Option Int) : Prop := (A = [] ∧ v = 0 ∧ st = none) ∨ ∃ m ∈ A, st = some m ∧ v = f m ∧ (∀ y ∈ A, f y ≤ v) ∧ ∀ y ∈ A, y < m → f y < v
theorem best_nil (f : Int → Int) : Best f [] 0 none := .inl ⟨rfl, rfl, rfl⟩
theorem best_up {f : Int → Int} {A : List Int} {v s : Int} {st : Option Int} (h : Best f A v st) (hp : v < f s) : Best f (A ++ [s]) (f s) (some s) := by
  refine .inr ⟨s, by simp, rfl, rfl, fun y hy => ?_, fun y hy hl => ?_⟩
  · rcases List.mem_append.mp hy with hy | hy
    · rcases h with ⟨rfl, _⟩ | ⟨m, _, _, _, h1, _⟩
      · cases hy
      · have := h1 y hy; omega
    · rw [List.mem_singleton.mp hy]; exact Int.le_refl _
  · rcases List.mem_append.mp hy with hy | hy
    · rcases h with ⟨rfl, _⟩ | ⟨m, _, _, _, h1, _⟩
      · cases hy
      · have := h1 y hy; omega
    · rw [List.mem_singleton.mp hy] at hl; omega
theorem best_stay {f : Int → Int} {A : List Int} {v s : Int} {st : Option Int} (h : Best f A v st) (hs : ∀ y ∈ A, y ≤ s) (h1 : 1 ≤ f s) (hp : ¬ v < f s) : Best f (A ++ [s]) v st := by
  rcases h with ⟨rfl, rfl, _⟩ | ⟨m, hm, e1, e2, k1, k2⟩
  · omega
  · refine .inr ⟨m, List.mem_append_left _ hm, e1, e2, fun y hy => ?_, fun y hy hl => ?_⟩
    · rcases List.mem_append.mp hy with hy | hy
      · exact k1 y hy
      · rw [List.mem_singleton.mp hy]; omega
    · rcases List.mem_append.mp hy with hy | hy
      · exact k2 y hy hl
      · have := hs m hm
        rw [List.mem_singleton.mp hy] at hl
        omega
theorem best_same {f : Int → Int} {A B : List Int} {v v' : Int} {st st' : Option Int} (h : Best f A v st) (h' : Best f B v' st') (hAB : ∀ m, m ∈ A ↔ m ∈ B) : v = v' ∧ st = st' := by
  rcases h with ⟨rfl, rfl, rfl⟩ | ⟨m, hm, rfl, e2, k1, k2⟩
  · rcases h' with ⟨rfl, rfl, rfl⟩ | ⟨m, hm, rfl, e2, k1, k2⟩
    · exact ⟨rfl, rfl⟩
    · have := (hAB m).mpr hm
      cases this
  · rcases h' with ⟨rfl, rfl, rfl⟩ | ⟨m', hm', rfl, e2', k1', k2'⟩
    · have := (hAB m).mp hm
      cases this
    · have a1 := k1' m ((hAB m).mp hm)
      have a2 := k1 m' ((hAB m').mpr hm')
      have a3 : ¬ m < m' := fun q => by have := k2' m ((hAB m).mp hm) q; omega
      have a4 : ¬ m' < m := fun q => by have := k2 m' ((hAB m').mpr hm') q; omega
      have e : m = m' := by omega
      subst e
      exact ⟨by omega, rfl⟩
def wOf (p : Plan) (us : Us) : Int → Int := fun s => wsum us s (p.at s)
def stV : Option Int → V
  | none => .non
  | some m => .int m
abbrev Full (p : Plan) (us : Us) (v : Int) (st : Option Int) : Prop := Best (wOf p us) (us.map (·.1)) v st
theorem full_same {p : Plan} {us : Us} {v v' : Int} {st st' : Option Int} (h : Full p us v st) (h' : Full p us v' st') : v = v' ∧ st = st' := best_same h h' fun _ => Iff.rfl
theorem full_of {p : Plan} {us : Us} {A : List Int} {v : Int} {st : Option Int} (h : Best (wOf p us) A v st) (hA : ∀ m, m ∈ A ↔ m ∈ us.map (·.1)) : Full p us v st := by
  rcases h with ⟨rfl, rfl, rfl⟩ | ⟨m, hm, e1, e2, k1, k2⟩
  · refine .inl ⟨?_, rfl, rfl⟩
    cases h : us.map (·.1) with
    | nil => rfl
    | cons x r =>
      have := (hA x).mpr (by rw [h]; exact List.mem_cons_self)
      cases this
  · exact .inr ⟨m, (hA m).mp hm, e1, e2, fun y hy => k1 y ((hA y).mpr hy), fun y hy hl => k2 y ((hA y).mpr hy) hl⟩
theorem w_one {p : Plan} (op : p.Ok) {us : Us} (hu : ∀ z ∈ us, 1 ≤ z.2) {m : Int} (hm : m ∈ us.map (·.1)) : 1 ≤ wOf p us m := by
  obtain ⟨z, hz, rfl⟩ := List.mem_map.mp hm
  exact wsum_pos hu hz (Int.le_refl _) (at_gt op _)
/-- no stretch of any moment has more than that of a use -/
theorem w_max {p : Plan} (op : p.Ok) {us : Us} (hu : ∀ z ∈ us, 1 ≤ z.2) {v : Int} {st : Option Int} (h : Full p us v st) (s : Int) : wOf p us s ≤ v := by
  have h0 : 0 ≤ v := by
    rcases h with ⟨_, rfl, _⟩ | ⟨m, hm, _, _, k1, _⟩
    · exact Int.le_refl _
    · have := w_one op hu hm; have := k1 m hm; omega
  rcases next_use s us with hn | ⟨y, hy, h1, h2⟩
  · rw [wOf, wsum_none (fun z hz q => by have := hn z hz; omega)]
    exact h0
  · have e := wsum_lo (hi := p.at s) h1 h2
    have e1 := wsum_le (lo := y.1) (at_mono op h1) hu
    have hm : y.1 ∈ us.map (·.1) := List.mem_map.mpr ⟨y, hy, rfl⟩
    have e2 : wOf p us y.1 ≤ v := by
      rcases h with ⟨e, _⟩ | ⟨_, _, _, _, k1, _⟩
      · rw [e] at hm; cases hm
      · exact k1 _ hm
    unfold wOf at e2 ⊢
    omega

/-! ### the fullest stretch -/
section
variable {w : World} {K : PySem.W.Frag} {mg : Str → Option Value} {base : Heap}
abbrev UL := List (Addr × Int × Int)
def usL (l : UL) : Us := l.map (·.2)
abbrev rfU (l : UL) : List V := l.map fun z => V.ref z.1
def PairsAt (H : Hp) (l : UL) : Prop := ∀ z ∈ l, H z.1 = some (.tup [.int z.2.1, .int z.2.2])
theorem PairsAt.up {H H' : Hp} {l : UL} (h : PairsAt H l) (e : Same H H') : PairsAt H' l := fun z hz => e _ _ (h z hz)
structure DIs (kvs : List (Key × V)) (us : Us) : Prop where
  keys : ∃ ks : List Int, kvs.map (·.1) = ks.map Sum.inl ∧ ks.Nodup ∧ (∀ m, m ∈ ks ↔ m ∈ us.map (·.1)) ∧ ks.length ≤ us.length
  val : ∀ m, valV kvs (.inl m) = if m ∈ us.map (·.1) then some (.int (tot1 us m)) else none
theorem dis_nil : DIs [] [] := ⟨⟨[], rfl, List.nodup_nil, fun m => Iff.rfl, Nat.le_refl _⟩, fun m => by rw [if_neg (by simp)]; rfl⟩
theorem keys_put {kvs : List (Key × V)} {k : Key} {v : V} : (putK kvs k v).map (·.1) = if (valV kvs k).isSome = true then kvs.map (·.1) else kvs.map (·.1) ++ [k] := by
  unfold putK
  rw [valV_any]
  by_cases h : (valV kvs k).isSome = true
  · rw [if_pos h, if_pos h, List.map_map]
    congr 1
    funext x
    show (if x.1 = k then (x.1, v) else x).1 = x.1
    split <;> rfl
  · rw [if_neg h, if_neg h, List.map_append]
    rfl
theorem dis_get {kvs : List (Key × V)} {us : Us} (h : DIs kvs us) (m : Int) : (valV kvs (.inl m)).getD (.int 0) = .int (tot1 us m) := by
  rw [h.val m]
  by_cases e : m ∈ us.map (·.1)
  · rw [if_pos e]; rfl
  · rw [if_neg e, tot1_none (fun z hz q => e (List.mem_map.mpr ⟨z, hz, q⟩))]
    rfl
theorem dis_put {kvs : List (Key × V)} {us : Us} (h : DIs kvs us) (m n : Int) : DIs (putK kvs (.inl m) (.int (tot1 us m + n))) (us ++ [(m, n)]) := by
  obtain ⟨ks, hk, nd, hm, hl⟩ := h.keys
  refine ⟨?_, fun x => ?_⟩
  · rw [keys_put, h.val m]
    by_cases e : m ∈ us.map (·.1)
    · rw [if_pos e]
      refine ⟨ks, (if_pos rfl).trans hk, nd, fun x => ?_, by rw [List.length_append]; simp; omega⟩
      rw [List.map_append, hm x]
      constructor
      · exact fun q => List.mem_append_left _ q
      · intro q
        rcases List.mem_append.mp q with q | q
        · exact q
        · rw [List.mem_singleton.mp q]; exact e
    · rw [if_neg e]
      refine ⟨ks ++ [m], by rw [if_neg (by simp), hk, List.map_append]; rfl, ?_, fun x => ?_, by rw [List.length_append, List.length_append]; simp; omega⟩
      · rw [List.nodup_append]
        refine ⟨nd, by simp, fun x hx y hy q => ?_⟩
        rw [List.mem_singleton.mp hy] at q
        exact e ((hm m).mp (q ▸ hx))
      · rw [List.map_append, List.mem_append, List.mem_append, hm x]
        simp
  · rw [valV_put, tot1_snoc, h.val x]
    have em : x ∈ (us ++ [(m, n)]).map (·.1) ↔ x ∈ us.map (·.1) ∨ x = m := by rw [List.map_append, List.mem_append]; simp
    by_cases e : x = m
    · subst e
      rw [if_pos rfl, if_pos rfl, if_pos (em.mpr (.inr rfl))]
    · rw [if_neg (fun q => e (Sum.inl.inj q)), if_neg (Ne.symm e), Int.add_zero]
      by_cases e1 : x ∈ us.map (·.1)
      · rw [if_pos e1, if_pos (em.mpr (.inl e1))]
      · rw [if_neg e1, if_neg (fun q => (em.mp q).elim e1 e)]
theorem usL_take (l : UL) (i : Nat) {a : Addr} {m n : Int} (h : l[i]? = some (a, m, n)) : usL (l.take (i + 1)) = usL (l.take i) ++ [(m, n)] := by
  unfold usL
  rw [List.take_add_one, h, List.map_append]
  rfl
theorem rfU_at {l : UL} {i : Nat} {x : V} (h : (rfU l)[i]? = some x) : ∃ a m n, l[i]? = some (a, m, n) ∧ x = .ref a := by
  rw [List.getElem?_map] at h
  cases e : l[i]? with
  | none => rw [e] at h; cases h
  | some z => rw [e] at h; exact ⟨z.1, z.2.1, z.2.2, rfl, (Option.some.inj h).symm⟩
def UsesAt (H : Hp) (u : Addr) (l : UL) : Prop := (H u = some (.lst (rfU l)) ∨ H u = some (.tup (rfU l))) ∧ PairsAt H l ∧ l.length ≤ 30 ∧ ∀ z ∈ usL l, 1 ≤ z.2
theorem UsesAt.up {H H' : Hp} {u : Addr} {l : UL} (h : UsesAt H u l) (e : Same H H') : UsesAt H' u l := ⟨h.1.imp (e _ _) (e _ _), h.2.1.up e, h.2.2⟩
theorem strict {ys : List Int} (hp : ys.Pairwise (· ≤ ·)) (hn : ys.Nodup) : ∀ {i j : Nat} {x y : Int}, ys[i]? = some x → ys[j]? = some y → (x < y ↔ i < j) := by
  have lt : ∀ {i j : Nat} {x y : Int}, ys[i]? = some x → ys[j]? = some y → i < j → x < y := by
    intro i j x y hi hj h
    obtain ⟨h1, rfl⟩ := List.getElem?_eq_some_iff.mp hi
    obtain ⟨h2, rfl⟩ := List.getElem?_eq_some_iff.mp hj
    have a := List.pairwise_iff_getElem.mp hp i j h1 h2 h
    have b := List.pairwise_iff_getElem.mp hn i j h1 h2 h
    omega
  intro i j x y hi hj
  constructor
  · intro h
    by_cases e : i < j
    · exact e
    · by_cases e2 : j < i
      · have := lt hj hi e2; omega
      · obtain rfl : i = j := by omega
        rw [hi] at hj
        cases hj
        omega
  · exact lt hi hj
theorem mem_take_iff {ys : List Int} (hn : ys.Nodup) {j : Nat} {x : Int} (hj : ys[j]? = some x) (k : Nat) : x ∈ ys.take k ↔ j < k := by
  constructor
  · intro h
    obtain ⟨i, hi⟩ := List.mem_iff_getElem?.mp h
    rw [List.getElem?_take] at hi
    split at hi
    · rename_i hik
      obtain ⟨h1, e1⟩ := List.getElem?_eq_some_iff.mp hi
      obtain ⟨h2, e2⟩ := List.getElem?_eq_some_iff.mp hj
      by_cases a1 : i < j
      · exact absurd (e1.trans e2.symm) (List.pairwise_iff_getElem.mp hn i j h1 h2 a1)
      · by_cases a2 : j < i
        · exact absurd (e2.trans e1.symm) (List.pairwise_iff_getElem.mp hn j i h2 h1 a2)
        · omega
    · cases hi
  · intro h
    refine List.mem_iff_getElem?.mpr ⟨j, ?_⟩
    rw [List.getElem?_take, if_pos h]
    exact hj
/-- the places below a bound are the first ones -/
theorem pre_of {us : Us} {ys : List Int} (hn : ys.Nodup) (hm : ∀ m, m ∈ ys ↔ m ∈ us.map (·.1)) {k : Nat} {x : Int} (hx : ∀ j m, ys[j]? = some m → (m < x ↔ j < k)) : cum us x = pre us (ys.take k) := by
  refine cum_pre fun z hz => ?_
  obtain ⟨j, hj⟩ := List.mem_iff_getElem?.mp ((hm z.1).mpr (List.mem_map.mpr ⟨z, hz, rfl⟩))
  rw [hx j _ hj, mem_take_iff hn hj]
theorem pre_next {us : Us} {ys : List Int} (hn : ys.Nodup) {k : Nat} {m : Int} (hk : ys[k]? = some m) : pre us (ys.take (k + 1)) = pre us (ys.take k) + tot1 us m := by
  rw [List.take_add_one, hk]
  exact pre_snoc (fun h => by have := (mem_take_iff hn hk k).mp h; omega) us
def spFull (T : Tx K mg) : Sp := fun vs H Q _ => ∃ (F : Addr → Prop) (a u : Addr) (p : Plan) (l : UL), vs = [.ref a, .ref u] ∧ RestAt T F H a p ∧ p.Ok ∧ UsesAt H u l ∧
  ∀ (v : Int) (st : Option Int) (t : Addr) (H' : Hp), Same H H' → H' t = some (.tup [.int v, stV st]) → Full p (usL l) v st → Q (.ref t) H'
theorem ok_fullest (T : Tx K mg) : FnOk P w K mg base CX0 8 T.a_fullest T.fd_fullest P_fullest (spFull T) := by
  refine T.F_fullest.ok sc_fullest (fun vs H Q E h => ?_) (fun cdv A outer s H vs Q E hr h => ?_)
  · obtain ⟨F, a, u, p, l, rfl, _⟩ := h
    rfl
  · obtain ⟨F, a, u, p, l, rfl, ha, op, ⟨hu, hpl, hlen, hpos⟩, k⟩ := h
    have nd := sc_fullest.nd
    obtain ⟨C1, hC1, kC1⟩ := rest_call ha op
    refine ⟨_, (pss_cons (ks_setL (i := 2) nd l_fullest_totals pe_dnewK)
      (kss_meet (ps_for PassesOwn.never rfl (kpi_seq K (kv (i := 1) v_fullest_uses)) (kpg_tup K 2 rfl (pgs_cons (kgL (i := 3) nd l_fullest_moment) (pgs_cons (kgL (i := 4) nd l_fullest_n) pgs_nil))) (pss_one (ps_asg (pe_op kop_add (pe_dget2 (hu_of hr) (kv (i := 2) v_fullest_totals) (kv (i := 3) v_fullest_moment) pe_int ⟨rfl, rfl, rfl, rfl⟩) (kv (i := 4) v_fullest_n)) (pg_sub (kv (i := 2) v_fullest_totals) (kv (i := 3) v_fullest_moment) (set_dict (hu_of hr))))))
      (pss_cons (ks_setL (i := 5) nd l_fullest_moments (kcB b_sorted (by decide) (by decide) (kc_sortedDI rfl) g_fullest_sorted T.n_sorted (pa_cons (kv (i := 2) v_fullest_totals) pa_nil)))
      (pss_cons (ps_asg (pe_tup (pa_cons pe_int (pa_cons pe_non pa_nil))) (kpg_tup K 2 rfl (pgs_cons (kgL (i := 6) nd l_fullest_most) (pgs_cons (kgL (i := 7) nd l_fullest_start) pgs_nil))))
      (pss_cons (ps_asg2 pe_int (kgL (i := 8) nd l_fullest_count) (kgL (i := 9) nd l_fullest_behind))
      (pss_cons (ps_for PassesOwn.never rfl (kpi_list K (kv (i := 5) v_fullest_moments)) (kgL (i := 10) nd l_fullest_s) (pss_cons (ks_setL (i := 11) nd l_fullest_end (kpe_callP (disp_call T) (hr.mono (by decide)) pass0 (kv (i := 0) v_fullest_rest) (pa_cons (kv (i := 10) v_fullest_s) pa_nil)))
      (kss_meet (ps_while PassesOwn.never (PW.pt (pw_and (pt_cmpR op_lt (kv (i := 9) v_fullest_behind) (kcB b_len (by decide) (by decide) (kc_len K) g_fullest_len T.n_len (pa_cons (kv (i := 5) v_fullest_moments) pa_nil)) (nomark _)) (pw_and1 (pt_cmpR op_lt (pe_ix (kix K) (kv (i := 5) v_fullest_moments) (kv (i := 9) v_fullest_behind) (fun _ _ => rfl)) (kv (i := 11) v_fullest_end) (nomark _))))) (pss_cons (ps_aug (i := 8) nd rfl (.inl (locB_ok l_fullest_count)) (pe_dget (hu_of hr) (kv (i := 2) v_fullest_totals) (pe_ix (kix K) (kv (i := 5) v_fullest_moments) (kv (i := 9) v_fullest_behind) (fun _ _ => rfl)) (fun _ _ => rfl)) ip_add)
      (pss_one (ps_aug (i := 9) nd rfl (.inl (locB_ok l_fullest_behind)) pe_int ip_add))))
      (kss_meet (ps_if (pt_cmpR op_gt (kv (i := 8) v_fullest_count) (kv (i := 6) v_fullest_most) (nomark _)) (pss_one (ps_par (i := 6) (j := 7) rfl nd rfl rfl (by decide) (locB_ok l_fullest_most) (locB_ok l_fullest_start) (pa_cons (kv (i := 8) v_fullest_count) (pa_cons (kv (i := 10) v_fullest_s) pa_nil)) (by rfl))) pss_nil)
      (pss_one (ps_aug (i := 8) nd rfl (.inl (locB_ok l_fullest_count)) (pe_dget (hu_of hr) (kv (i := 2) v_fullest_totals) (kv (i := 10) v_fullest_s) (fun _ _ => rfl)) ip_sub))))))
      (pss_one (ps_ret (pe_tup (pa_cons (kv (i := 6) v_fullest_most) (pa_cons (kv (i := 7) v_fullest_start) pa_nil))))))))))), ?_⟩
    walk_at "ss"
    refine k_dnew ?_
    intro d nd1
    walk_at "ss"
    refine k_meet (fun σ H' => ∃ (kvs : List (Key × V)) (v3 v4 : Option V), σ = [some (.ref a), some (.ref u), some (.ref d), v3, v4, none, none, none, none, none, none, none] ∧ H' = upd H d (.dK kvs) ∧ DIs kvs (usL l)) ?_ ?_
    · walk_at "ss"
      rcases hu with hu | hu
      · refine k_seqL ?_
        walk_at "ss"
        refine k_iL (SqL.of (same_new nd1 _ _ hu)) ?_
        refine k_forIt (walk_L (xs := rfU l)) (fun i σ H' => ∃ (kvs : List (Key × V)) (v3 v4 : Option V), σ = [some (.ref a), some (.ref u), some (.ref d), v3, v4, none, none, none, none, none, none, none] ∧ H' = upd H d (.dK kvs) ∧ DIs kvs (usL (l.take i))) ⟨[], none, none, rfl, rfl, dis_nil⟩ ?_ ?_ ?_
        · rintro i σ H' _ ⟨kvs, v3, v4, rfl, rfl, _⟩
          exact SqL.of (same_new nd1 _ _ hu)
        · rintro i x σ H' H2 _ ⟨kvs, v3, v4, rfl, rfl, hd⟩ ⟨rfl, hx⟩
          obtain ⟨t, m, n, hi, rfl⟩ := rfU_at hx
          have ht := same_new (o := .dK kvs) nd1 _ _ (hpl _ (List.mem_of_getElem? hi))
          have hil := (List.getElem?_eq_some_iff.mp hi).1
          walk_at "ss"
          refine k_dget2 ?_
          walk_at "ss"
          refine ⟨d, rfl, .inl ⟨kvs, .inl upd_same⟩, ?_⟩
          walk_at "ss"
          refine ⟨_, DGet.k (k := Sum.inl m) upd_same, ?_⟩
          rw [dis_get hd m]
          walk_at "ss"
          obtain ⟨ks, hk, _, _, hl2⟩ := hd.keys
          have hkl : kvs.length ≤ l.length := by
            have e := congrArg List.length hk
            rw [List.length_map, List.length_map] at e
            rw [e]
            refine Nat.le_trans hl2 ?_
            unfold usL
            rw [List.length_map, List.length_take]
            omega
          refine k_setD (DPut.k (k := Sum.inl m) upd_same (small_lt (by omega))) ?_
          rw [upd_upd]
          refine ⟨_, _, _, rfl, rfl, ?_⟩
          rw [usL_take l i hi]
          exact dis_put hd m n
        · rintro σ H' ⟨kvs, v3, v4, rfl, rfl, hd⟩
          walk_at "ss"
          refine ⟨kvs, v3, v4, rfl, rfl, ?_⟩
          rw [List.length_map, List.take_length] at hd
          exact hd
      · refine k_seqT ?_
        walk_at "ss"
        refine k_iT (SqT.of (same_new nd1 _ _ hu)) ?_
        refine k_forIt (walk_T (xs := rfU l)) (fun i σ H' => ∃ (kvs : List (Key × V)) (v3 v4 : Option V), σ = [some (.ref a), some (.ref u), some (.ref d), v3, v4, none, none, none, none, none, none, none] ∧ H' = upd H d (.dK kvs) ∧ DIs kvs (usL (l.take i))) ⟨[], none, none, rfl, rfl, dis_nil⟩ ?_ ?_ ?_
        · rintro i σ H' _ ⟨kvs, v3, v4, rfl, rfl, _⟩
          exact SqT.of (same_new nd1 _ _ hu)
        · rintro i x σ H' H2 _ ⟨kvs, v3, v4, rfl, rfl, hd⟩ ⟨rfl, hx⟩
          obtain ⟨t, m, n, hi, rfl⟩ := rfU_at hx
          have ht := same_new (o := .dK kvs) nd1 _ _ (hpl _ (List.mem_of_getElem? hi))
          have hil := (List.getElem?_eq_some_iff.mp hi).1
          walk_at "ss"
          refine k_dget2 ?_
          walk_at "ss"
          refine ⟨d, rfl, .inl ⟨kvs, .inl upd_same⟩, ?_⟩
          walk_at "ss"
          refine ⟨_, DGet.k (k := Sum.inl m) upd_same, ?_⟩
          rw [dis_get hd m]
          walk_at "ss"
          obtain ⟨ks, hk, _, _, hl2⟩ := hd.keys
          have hkl : kvs.length ≤ l.length := by
            have e := congrArg List.length hk
            rw [List.length_map, List.length_map] at e
            rw [e]
            refine Nat.le_trans hl2 ?_
            unfold usL
            rw [List.length_map, List.length_take]
            omega
          refine k_setD (DPut.k (k := Sum.inl m) upd_same (small_lt (by omega))) ?_
          rw [upd_upd]
          refine ⟨_, _, _, rfl, rfl, ?_⟩
          rw [usL_take l i hi]
          exact dis_put hd m n
        · rintro σ H' ⟨kvs, v3, v4, rfl, rfl, hd⟩
          walk_at "ss"
          refine ⟨kvs, v3, v4, rfl, rfl, ?_⟩
          rw [List.length_map, List.take_length] at hd
          exact hd
    · rintro σ H' ⟨kvs, v3, v4, rfl, rfl, hd⟩
      obtain ⟨ks, hk, ndk, hmem, hl2⟩ := hd.keys
      walk_at "ss"
      have hkl : ks.length ≤ 30 := by
        refine Nat.le_trans hl2 ?_
        unfold usL
        rw [List.length_map]
        exact hlen
      refine ⟨d, kvs, ks, rfl, .inl upd_same, hk, by omega, fun ys q perm hpw nq => ?_⟩
      generalize eH : upd (upd H d (.dK kvs)) q _ = H2
      have sm2 : Same H H2 := eH ▸ (same_new nd1).trans (same_new nq)
      have hd2 : H2 d = some (.dK kvs) := by
        rw [← eH, upd_ne (ne_of_none upd_same nq)]
        exact upd_same
      have hq2 : H2 q = some (.lst (ys.map V.int)) := upd_at eH
      clear eH
      have hny : ys.Nodup := perm.nodup_iff.mpr ndk
      have hmy : ∀ m, m ∈ ys ↔ m ∈ (usL l).map (·.1) := fun m => (perm.mem_iff).trans (hmem m)
      have hly : ys.length ≤ 30 := by rw [perm.length_eq]; exact hkl
      have dget : ∀ {H3 : Hp} {x : Int}, H3 d = some (.dK kvs) → x ∈ ys → DGet H3 d (.int x) (some (.int (tot1 (usL l) x))) := fun {H3 x} h hx => by
        have z := DGet.k (k := Sum.inl x) h
        rw [hd.val x, if_pos ((hmy x).mp hx)] at z
        exact z
      walk_at "ss"
      intro tp ntp
      generalize eH : upd H2 tp _ = H3
      have sm3 := sm2.trans (upd_sm eH ntp)
      have hd3 := upd_sm eH ntp _ _ hd2
      have hq3 := upd_sm eH ntp _ _ hq2
      have htp := upd_at eH
      clear eH
      walk_at "ss"
      refine k_asg2 ?_
      walk_at "ss"
      refine k_iL (SqL.of hq3) ?_
      refine k_forList (ys.map V.int) (fun i σ H' => H3 = H' ∧ ∃ (v : Int) (st : Option Int) (c : Int) (n : Nat) (v3 v4 v10 v11 : Option V), σ = [some (.ref a), some (.ref u), some (.ref d), v3, v4, some (.ref q), some (.int v), some (stV st), some (.int c), some (.int (n : Nat)), v10, v11] ∧ n ≤ ys.length ∧ i ≤ n ∧
        c = pre (usL l) (ys.take n) - pre (usL l) (ys.take i) ∧ Best (wOf p (usL l)) (ys.take i) v st ∧ ∀ (j i' : Nat) (m s' : Int), j < n → i ≤ i' → ys[j]? = some m → ys[i']? = some s' → m < p.at s')
        ⟨rfl, 0, none, 0, 0, v3, v4, none, none, rfl, Nat.zero_le _, Nat.le_refl _, (Int.sub_self _).symm, best_nil _, fun j i' m s' h => absurd h (Nat.not_lt_zero _)⟩ ?_ ?_ ?_
      · rintro i σ H' _ ⟨rfl, _⟩
        exact SqL.of hq3
      · rintro i x σ H' hx ⟨rfl, v, st, c, n, v3, v4, v10, v11, rfl, hn1, hn2, hc, hB, hlt⟩
        obtain ⟨s, hs, rfl⟩ := map_int_at hx
        have hgt := at_gt op s
        walk_at "ss"
        refine k_thing ?_
        walk_at "ss"
        refine ⟨a, C1, _, rfl, hC1, ?_⟩
        walk_at "ss"
        refine kC1 _ _ _ _ sm3 ?_
        walk_at "ss"
        refine k_meet (fun σ H' => H3 = H' ∧ ∃ (c : Int) (n : Nat), σ = [some (.ref a), some (.ref u), some (.ref d), v3, v4, some (.ref q), some (.int v), some (stV st), some (.int c), some (.int (n : Nat)), some (.int s), some (.int (p.at s))] ∧ n ≤ ys.length ∧
          c = pre (usL l) (ys.take n) - pre (usL l) (ys.take i) ∧ (∀ (j : Nat) (m : Int), j < n → ys[j]? = some m → m < p.at s) ∧ ∀ (j : Nat) (m : Int), n ≤ j → ys[j]? = some m → p.at s ≤ m) ?_ ?_
        · refine k_while (fun g σ H' => H3 = H' ∧ ∃ (c : Int) (n : Nat), σ = [some (.ref a), some (.ref u), some (.ref d), v3, v4, some (.ref q), some (.int v), some (stV st), some (.int c), some (.int (n : Nat)), some (.int s), some (.int (p.at s))] ∧ n ≤ ys.length ∧ g = ys.length - n ∧
            c = pre (usL l) (ys.take n) - pre (usL l) (ys.take i) ∧ ∀ (j : Nat) (m : Int), j < n → ys[j]? = some m → m < p.at s) (ys.length - n) ⟨rfl, c, n, rfl, hn1, rfl, hc, fun j m h1 h2 => hlt j i m s h1 (Nat.le_refl _) h2 hs⟩ ?_
          rintro g σ H' ⟨rfl, c, n, rfl, hn1, rfl, hc, hlt⟩
          walk_at "ss"
          refine k_d (fun h1 => ?_) (fun h1 => ?_)
          · have hn : n < ys.length := by
              rw [List.length_map] at h1
              omega
            obtain ⟨x, hx⟩ : ∃ x, ys[n]? = some x := ⟨_, List.getElem?_eq_getElem hn⟩
            have hxi : atI (ys.map V.int) (n : Int) = some (.int x) := atI_nat (by rw [List.getElem?_map, hx]; rfl)
            walk_at "ss"
            refine k_d (fun h2 => ?_) (fun h2 => ?_)
            · refine ⟨fun σ' H' => H3 = H' ∧ σ' = [some (.ref a), some (.ref u), some (.ref d), v3, v4, some (.ref q), some (.int v), some (stV st), some (.int (c + tot1 (usL l) x)), some (.int ((n : Nat) + 1)), some (.int s), some (.int (p.at s))], ?_, ?_⟩
              · rintro σ' H' ⟨rfl, rfl⟩
                refine ⟨ys.length - (n + 1), by omega, rfl, _, n + 1, rfl, hn, rfl, by rw [pre_next hny hx]; omega, fun j m hj hm => ?_⟩
                by_cases e : j < n
                · exact hlt j m e hm
                · obtain rfl : j = n := by omega
                  rw [hx] at hm
                  cases hm
                  exact h2
              · walk_at "ss"
                refine k_aug rfl ?_
                refine k_dget ?_
                walk_at "ss"
                refine ⟨d, _, rfl, dget hd3 (List.mem_of_getElem? hx), ?_⟩
                refine k_ipI ?_
                refine k_aug rfl ?_
                walk_at "ss"
                refine k_ipI ?_
                exact ⟨rfl, rfl⟩
            · refine ⟨rfl, c, n, rfl, hn1, hc, hlt, fun j m hj hm => ?_⟩
              by_cases e : j = n
              · subst e
                rw [hx] at hm
                cases hm
                omega
              · have := (strict hpw hny hx hm).mpr (by omega)
                omega
          · refine ⟨rfl, c, n, rfl, hn1, hc, hlt, fun j m hj hm => ?_⟩
            have := (List.getElem?_eq_some_iff.mp hm).1
            rw [List.length_map] at h1
            omega
        · rintro σ H' ⟨rfl, c, n, rfl, hn1, hc, hlt2, hge⟩
          have hin : i < n := by
            by_cases e : i < n
            · exact e
            · have := hge i s (by omega) hs
              omega
          have hcw : c = wOf p (usL l) s := by
            have e1 := pre_of (us := usL l) hny hmy (k := n) (x := p.at s) fun j m hj => ⟨fun h => by
              by_cases e : j < n
              · exact e
              · have := hge j m (by omega) hj
                omega, fun h => hlt2 j m h hj⟩
            have e2 := pre_of (us := usL l) hny hmy (k := i) (x := s) fun j m hj => strict hpw hny hj hs
            rw [wOf, wsum_cum (by omega), hc, e1, e2]
          have etk : ys.take (i + 1) = ys.take i ++ [s] := by rw [List.take_add_one, hs]; rfl
          have hms : s ∈ ys := List.mem_of_getElem? hs
          refine k_meet (fun σ H' => H3 = H' ∧ ∃ (v : Int) (st : Option Int), σ = [some (.ref a), some (.ref u), some (.ref d), v3, v4, some (.ref q), some (.int v), some (stV st), some (.int c), some (.int (n : Nat)), some (.int s), some (.int (p.at s))] ∧ Best (wOf p (usL l)) (ys.take (i + 1)) v st) ?_ ?_
          · walk_at "ss"
            refine k_d (fun h1 => ?_) (fun h1 => ?_)
            · walk_at "ss"
              refine ⟨rfl, c, some s, rfl, ?_⟩
              rw [etk, hcw]
              exact best_up hB (by omega)
            · walk_at "ss"
              refine ⟨rfl, v, st, rfl, ?_⟩
              rw [etk]
              refine best_stay hB (fun y hy => ?_) (w_one op hpos ((hmy s).mp hms)) (by omega)
              obtain ⟨j, hj⟩ := List.mem_iff_getElem?.mp hy
              rw [List.getElem?_take] at hj
              split at hj
              · rename_i hji
                have := (strict hpw hny hj hs).mpr hji
                omega
              · cases hj
          · rintro σ H' ⟨rfl, v, st, rfl, hB⟩
            walk_at "ss"
            refine k_aug rfl ?_
            refine k_dget ?_
            walk_at "ss"
            refine ⟨d, _, rfl, dget hd3 hms, ?_⟩
            refine k_ipI ?_
            refine ⟨rfl, v, st, _, n, v3, v4, _, _, rfl, hn1, hin, by rw [pre_next hny hs]; omega, hB, fun j i' m s' h1 h2 h3 h4 => ?_⟩
            have h5 := hlt2 j m h1 h3
            have h6 := (strict hpw hny hs h4).mpr (by omega)
            have h7 := at_mono op (t := s) (u := s') (by omega)
            omega
      · rintro σ H' ⟨rfl, v, st, c, n, v3, v4, v10, v11, rfl, hn1, hn2, hc, hB, hlt⟩
        rw [List.length_map, List.take_length] at hB
        walk_at "ss"
        intro t nt
        exact k v st t _ (sm3.trans (same_new nt)) upd_same (full_of hB hmy)
end

section
variable {w : World} {K : PySem.W.Frag} {mg : Str → Option Value} {base : Heap}
/-! ### like, through and through -/
inductive Sc : V → Prop where
  | int (i : Int) : Sc (.int i)
  | str (s : Str) : Sc (.str s)
  | bl (b : Bool) : Sc (.bl b)
  | non : Sc .non
def Eqd (H : Hp) : Nat → V → V → Prop
  | 0, x, y => x = y ∧ Sc x
  | d + 1, x, y => (x = y ∧ Sc x) ∨ (∃ a ks, x = .ref a ∧ y = .ref a ∧ H a = some (.dK ks) ∧ OkD ks) ∨ ∃ a b xs ys, x = .ref a ∧ y = .ref b ∧ ((H a = some (.lst xs) ∧ H b = some (.lst ys)) ∨ (H a = some (.tup xs) ∧ H b = some (.tup ys))) ∧ xs.length = ys.length ∧ xs.length ≤ 50 ∧
      ∀ (i : Nat) u v, xs[i]? = some u → ys[i]? = some v → Eqd H d u v
theorem Eqd.up {H H' : Hp} (e : Same H H') : ∀ {d : Nat} {x y : V}, Eqd H d x y → Eqd H' d x y
  | 0, _, _, h => h
  | d + 1, _, _, .inl h => .inl h
  | d + 1, _, _, .inr (.inl ⟨a, ks, e1, e2, h, k⟩) => .inr (.inl ⟨a, ks, e1, e2, e _ _ h, k⟩)
  | d + 1, _, _, .inr (.inr ⟨a, b, xs, ys, e1, e2, h, hl, hl2, k⟩) => .inr (.inr ⟨a, b, xs, ys, e1, e2, h.imp (fun h => ⟨e _ _ h.1, e _ _ h.2⟩) (fun h => ⟨e _ _ h.1, e _ _ h.2⟩), hl, hl2, fun i u v hu hv => (k i u v hu hv).up e⟩)
theorem Eqd.sc {H : Hp} {x : V} (h : Sc x) : ∀ d, Eqd H d x x
  | 0 => ⟨rfl, h⟩
  | _ + 1 => .inl ⟨rfl, h⟩
theorem ScB.s {v : V} (h : ScB v) : Sc v := by
  cases h with
  | int i => exact .int i
  | str z h => exact .str z
  | bl b => exact .bl b
  | non => exact .non
theorem Gd.eqd {F : Addr → Prop} {H : Hp} : ∀ {d : Nat} {v : V}, Gd F H d v → Eqd H d v v
  | 0, _, h => ⟨rfl, h.s⟩
  | d + 1, _, .inl h => .inl ⟨rfl, h.s⟩
  | d + 1, _, .inr (.inl ⟨a, xs, e1, _, h, hl, k⟩) => .inr (.inr ⟨a, a, xs, xs, e1, e1, h.imp (fun h => ⟨h, h⟩) (fun h => ⟨h, h⟩), rfl, hl, fun i u v hu hv => by
      rw [hu] at hv
      cases hv
      exact (k u (List.mem_of_getElem? hu)).eqd⟩)
  | d + 1, _, .inr (.inr ⟨a, ks, e1, _, h, k⟩) => .inr (.inl ⟨a, ks, e1, e1, h, k⟩)
theorem Eqd.succ {H : Hp} : ∀ {d : Nat} {x y : V}, Eqd H d x y → Eqd H (d + 1) x y
  | 0, _, _, h => .inl h
  | d + 1, _, _, .inl h => .inl h
  | d + 1, _, _, .inr (.inl h) => .inr (.inl h)
  | d + 1, _, _, .inr (.inr ⟨a, b, xs, ys, e1, e2, h, hl, hl2, k⟩) => .inr (.inr ⟨a, b, xs, ys, e1, e2, h, hl, hl2, fun i u v hu hv => (k i u v hu hv).succ⟩)
theorem eqR_same {K : PySem.W.Frag} {H : Hp} {a : Addr} {ks : List (Key × V)} (h : H a = some (.dK ks)) (k : OkD ks) : EqR K H (EqV K H 1) (.ref a) (.ref a) := by
  refine .inr ⟨a, a, ks, ks, rfl, rfl, h, h, rfl, fun p hp => ?_⟩
  rcases k with rfl | ⟨k, v, rfl, hv⟩
  · cases hp
  · rw [List.mem_singleton] at hp
    subst hp
    refine ⟨v, by simp [valV], ?_⟩
    rcases hv with hv | ⟨b, rfl⟩
    · exact .inl ⟨rfl, hv⟩
    · exact .inr (.inl ⟨b, rfl, rfl⟩)
/-- ==: of plain values, and of dicts -/
def rEqX (K : PySem.W.Frag) : R2 := fun x y H Q => rEq x y H Q ∨ rEqV K x y H Q
theorem kop_eqX {X : Cx} (K : PySem.W.Frag) (hu : X.A.units + 64 < cLine) (hK : X.K = K := by rfl) : OpR X (compareOp .Eq) (rEqX K) := by
  subst hK
  intro pins s σ H x y v u Q I rx ry h
  exact h.elim (op_eq pins s σ H x y v u Q I rx ry) (op_eqV hu pins s σ H x y v u Q I rx ry)
theorem isoI {K : PySem.W.Frag} {H : Hp} {v : V} {tp : String} {b : Bool} {Q : VK} (ty : TyX K H v (.type tp)) {T1 : String} (h1 : kitB tp T1 = some b) (k : Q (.bl b) H) : rIsi K [v, .ty T1] H Q := k_isi ty h1 k
theorem isoT {K : PySem.W.Frag} {H : Hp} {v : V} {tp : String} {p : Addr} {Q : VK} (ty : TyX K H v (.type tp)) (h : H p = some (.tup [.ty "list", .ty "tuple"])) (h1 : kitB tp "list" = some false) (h2 : kitB tp "tuple" = some false) (k : Q (.bl false) H) : rIsiT K [v, .ref p] H Q := k_isiT h ty h1 h2 k
def spLike : Nat → Sp
  | 0 => fun _ _ _ _ => False
  | d + 1 => fun vs H Q _ => ∃ x y, vs = [x, y] ∧ Eqd H d x y ∧ ∀ H', Same H H' → Q (.bl true) H'
theorem ok_like0 (T : Tx K mg) (d : Nat) (ih : FnOk P w K mg base CX0 (d + 1) T.a_like T.fd_like P_like (spLike d)) : FnOk P w K mg base CX0 (d + 2) T.a_like T.fd_like P_like (spLike (d + 1)) := by
  refine T.F_like.ok sc_like (fun vs H Q E h => ?_) (fun cdv A outer s H vs Q E hr h => ?_)
  · obtain ⟨x, y, rfl, _⟩ := h
    rfl
  · obtain ⟨x, y, rfl, h⟩ := h
    have nd := sc_like.nd
    refine ⟨_, (pss_cons (ps_if (pt_val (kcB b_isinstance (by decide) (by decide) (kc_isiT K) g_like_isinstance T.n_isinstance (pa_cons (kv (i := 1) v_like_law_due) (pa_cons (pe_tup (pa_cons (kty_list g_like_list T.n_list) (pa_cons (kty_tuple g_like_tuple T.n_tuple) pa_nil))) pa_nil)))) (pss_cons (ps_if (PW.pt (pw_or (pt_cmpR op_ne (kcB b_isinstance (by decide) (by decide) (kc_isi K) g_like_isinstance T.n_isinstance (pa_cons (kv (i := 0) v_like_law_told) (pa_cons (kty_list g_like_list T.n_list) pa_nil))) (kcB b_isinstance (by decide) (by decide) (kc_isi K) g_like_isinstance T.n_isinstance (pa_cons (kv (i := 1) v_like_law_due) (pa_cons (kty_list g_like_list T.n_list) pa_nil))) (nomark _)) (pw_or1 (pt_cmpR op_ne (kcB b_isinstance (by decide) (by decide) (kc_isi K) g_like_isinstance T.n_isinstance (pa_cons (kv (i := 0) v_like_law_told) (pa_cons (kty_tuple g_like_tuple T.n_tuple) pa_nil))) (kcB b_isinstance (by decide) (by decide) (kc_isi K) g_like_isinstance T.n_isinstance (pa_cons (kv (i := 1) v_like_law_due) (pa_cons (kty_tuple g_like_tuple T.n_tuple) pa_nil))) (nomark _))))) (pss_one (ps_ret pe_bl)) pss_nil)
      (pss_one (ps_ret (pe_and (pe_cmpR op_eq (kcB b_len (by decide) (by decide) (kc_len K) g_like_len T.n_len (pa_cons (kv (i := 0) v_like_law_told) pa_nil)) (kcB b_len (by decide) (by decide) (kc_len K) g_like_len T.n_len (pa_cons (kv (i := 1) v_like_law_due) pa_nil)) (nomark _)) (pe_one (kcB b_all (by decide) (by decide) (cr_all rfl) g_like_all T.n_all (pa_cons (pe_lc (own := [("_law_a", 2), ("_law_b", 3)]) rfl nd (RZ.pi_zipA g_like_zip T.n_zip (pa_cons (kv (i := 0) v_like_law_told) (pa_cons (kv (i := 1) v_like_law_due) pa_nil))) ok_cs_like_1 (fun _ _ _ _ _ => (kpg_tup K 2 rfl (pgs_cons (kgL (i := 2) nd l_like_1_law_a) (pgs_cons (kgL (i := 3) nd l_like_1_law_b) pgs_nil)))) (fun _ _ _ _ _ => pts_nil) (fun _ _ _ _ _ => (pe_call ih (hr.mono (by first | decide | omega)) g_like_1_law_like T.m_like T.k_like T.b_like .nil pass0 (pa_cons (kv (i := 2) v_like_1_law_a) (pa_cons (kv (i := 3) v_like_1_law_b) pa_nil))))) pa_nil))))))) pss_nil)
      (pss_cons (ps_if (PW.pt (pw_or (pt_cmpR op_isN (kv (i := 1) v_like_law_due) pe_non (nomark _)) (pw_or1 (pt_cmpR op_isN (kv (i := 0) v_like_law_told) pe_non (nomark _))))) (pss_one (ps_ret (pe_and (pe_cmpR op_isN (kv (i := 1) v_like_law_due) pe_non (nomark _)) (pe_one (pe_cmpR op_isN (kv (i := 0) v_like_law_told) pe_non (nomark _)))))) pss_nil)
      (pss_cons (ps_if (PW.pt (pw_or (pt_val (kcB b_isinstance (by decide) (by decide) (kc_isiT K) g_like_isinstance T.n_isinstance (pa_cons (kv (i := 0) v_like_law_told) (pa_cons (pe_tup (pa_cons (kty_list g_like_list T.n_list) (pa_cons (kty_tuple g_like_tuple T.n_tuple) pa_nil))) pa_nil)))) (pw_or1 (pt_cmpR op_ne (kcB b_isinstance (by decide) (by decide) (kc_isi K) g_like_isinstance T.n_isinstance (pa_cons (kv (i := 0) v_like_law_told) (pa_cons (kty_bool g_like_bool T.n_bool) pa_nil))) (kcB b_isinstance (by decide) (by decide) (kc_isi K) g_like_isinstance T.n_isinstance (pa_cons (kv (i := 1) v_like_law_due) (pa_cons (kty_bool g_like_bool T.n_bool) pa_nil))) (nomark _))))) (pss_one (ps_ret pe_bl)) pss_nil)
      (pss_cons (ps_if (PW.pt (pw_or (pt_cmpR op_ne (kcB b_isinstance (by decide) (by decide) (kc_isi K) g_like_isinstance T.n_isinstance (pa_cons (kv (i := 0) v_like_law_told) (pa_cons (kty_str g_like_str T.n_str) pa_nil))) (kcB b_isinstance (by decide) (by decide) (kc_isi K) g_like_isinstance T.n_isinstance (pa_cons (kv (i := 1) v_like_law_due) (pa_cons (kty_str g_like_str T.n_str) pa_nil))) (nomark _)) (pw_or1 (pt_cmpR op_ne (kcB b_isinstance (by decide) (by decide) (kc_isi K) g_like_isinstance T.n_isinstance (pa_cons (kv (i := 0) v_like_law_told) (pa_cons (kty_int g_like_int T.n_int) pa_nil))) (kcB b_isinstance (by decide) (by decide) (kc_isi K) g_like_isinstance T.n_isinstance (pa_cons (kv (i := 1) v_like_law_due) (pa_cons (kty_int g_like_int T.n_int) pa_nil))) (nomark _))))) (pss_one (ps_ret pe_bl)) pss_nil)
      (pss_cons (ps_if (pt_cmpR op_ne (kcB b_isinstance (by decide) (by decide) (kc_isi K) g_like_isinstance T.n_isinstance (pa_cons (kv (i := 0) v_like_law_told) (pa_cons (kty_dict g_like_dict T.n_dict) pa_nil))) (kcB b_isinstance (by decide) (by decide) (kc_isi K) g_like_isinstance T.n_isinstance (pa_cons (kv (i := 1) v_like_law_due) (pa_cons (kty_dict g_like_dict T.n_dict) pa_nil))) (nomark _)) (pss_one (ps_ret pe_bl)) pss_nil)
      (pss_one (ps_ret (kcT b_bool (by decide) (by decide) kc_bool g_like_bool T.n_bool (pa_cons (pe_cmpR (kop_eqX K hr.units) (kv (i := 0) v_like_law_told) (kv (i := 1) v_like_law_due) (nomark _)) pa_nil))))))))), ?_⟩
    have nn : ∀ z : Int, ¬ V.int z = V.non := fun z e => by cases e
    have ns : ∀ z : Str, ¬ V.str z = V.non := fun z e => by cases e
    have nb : ∀ z : Bool, ¬ V.bl z = V.non := fun z e => by cases e
    obtain ⟨hE, k⟩ := h
    have nr : ∀ z : Addr, ¬ V.ref z = V.non := fun z e => by cases e
    have key : (x = y ∧ Sc x) ∨ (∃ a ks, x = .ref a ∧ y = .ref a ∧ H a = some (.dK ks) ∧ OkD ks) ∨ ∃ (m : Nat) (a b : Addr) (xs ys : List V), d = m + 1 ∧ x = .ref a ∧ y = .ref b ∧ ((H a = some (.lst xs) ∧ H b = some (.lst ys)) ∨ (H a = some (.tup xs) ∧ H b = some (.tup ys))) ∧ xs.length = ys.length ∧ xs.length ≤ 50 ∧
        ∀ (i : Nat) u v, xs[i]? = some u → ys[i]? = some v → Eqd H m u v := by
      cases d with
      | zero => exact .inl hE
      | succ m =>
        rcases hE with h | h | ⟨a, b, xs, ys, e1, e2, h, hl, hl2, kk⟩
        · exact .inl h
        · exact .inr (.inl h)
        · exact .inr (.inr ⟨m, a, b, xs, ys, rfl, e1, e2, h, hl, hl2, kk⟩)
    clear hE
    rcases key with ⟨rfl, hx⟩ | ⟨a, ks, rfl, rfl, hd, hk⟩ | ⟨m, a, b, xs, ys, rfl, rfl, rfl, hh, hlen, hl, hs⟩
    · walk_at "ss"
      intro p1 n1
      cases hx with
      | int i =>
        walk_at "ss"
        refine ⟨rfl, ?_⟩
        walk_at "ss"
        refine k_df (fun e => by cases e) ?_
        walk_at "ss"
        refine ⟨rfl, ?_⟩
        walk_at "ss"
        refine k_df (fun e => by cases e) ?_
        walk_at "ss"
        intro p2 n2
        walk_at "ss"
        refine k_ne rfl ?_
        walk_at "ss"
        refine k_nt rfl ?_
        walk_at "ss"
        refine k_ne rfl ?_
        walk_at "ss"
        refine k_nt rfl ?_
        walk_at "ss"
        refine k_ne rfl ?_
        walk_at "ss"
        refine k_nt rfl ?_
        walk_at "ss"
        refine k_ne rfl ?_
        walk_at "ss"
        refine k_nt rfl ?_
        walk_at "ss"
        first
          | (refine .inl (k_eq rfl ?_)
             rw [decide_eq_true rfl]
             exact k _ ((same_new n1).trans (same_new n2)))
      | str i =>
        walk_at "ss"
        refine ⟨rfl, ?_⟩
        walk_at "ss"
        refine k_df (fun e => by cases e) ?_
        walk_at "ss"
        refine ⟨rfl, ?_⟩
        walk_at "ss"
        refine k_df (fun e => by cases e) ?_
        walk_at "ss"
        intro p2 n2
        walk_at "ss"
        refine k_ne rfl ?_
        walk_at "ss"
        refine k_nt rfl ?_
        walk_at "ss"
        refine k_ne rfl ?_
        walk_at "ss"
        refine k_nt rfl ?_
        walk_at "ss"
        refine k_ne rfl ?_
        walk_at "ss"
        refine k_nt rfl ?_
        walk_at "ss"
        refine k_ne rfl ?_
        walk_at "ss"
        refine k_nt rfl ?_
        walk_at "ss"
        first
          | (refine .inl (k_eq rfl ?_)
             rw [decide_eq_true rfl]
             exact k _ ((same_new n1).trans (same_new n2)))
      | bl i =>
        walk_at "ss"
        refine ⟨rfl, ?_⟩
        walk_at "ss"
        refine k_df (fun e => by cases e) ?_
        walk_at "ss"
        refine ⟨rfl, ?_⟩
        walk_at "ss"
        refine k_df (fun e => by cases e) ?_
        walk_at "ss"
        intro p2 n2
        walk_at "ss"
        refine k_ne rfl ?_
        walk_at "ss"
        refine k_nt rfl ?_
        walk_at "ss"
        refine k_ne rfl ?_
        walk_at "ss"
        refine k_nt rfl ?_
        walk_at "ss"
        refine k_ne rfl ?_
        walk_at "ss"
        refine k_nt rfl ?_
        walk_at "ss"
        refine k_ne rfl ?_
        walk_at "ss"
        refine k_nt rfl ?_
        walk_at "ss"
        first
          | (refine .inl (k_eq rfl ?_)
             rw [decide_eq_true rfl]
             exact k _ ((same_new n1).trans (same_new n2)))
      | non =>
        walk_at "ss"
        refine ⟨rfl, ?_⟩
        walk_at "ss"
        refine k_dt rfl ?_
        walk_at "ss"
        refine ⟨rfl, ?_⟩
        walk_at "ss"
        refine k_dt rfl ?_
        walk_at "ss"
        refine ⟨rfl, ?_⟩
        rw [decide_eq_true rfl]
        exact k _ (same_new n1)
    · walk_at "ss"
      intro p1 n1
      have s1 := same_new (o := .tup [V.ty "list", V.ty "tuple"]) n1
      have hd1 := s1 _ _ hd
      walk_at "ss"
      try refine isoT (TyX.base (.dK hd1)) upd_same kb_dict_list kb_dict_tuple ?_
      walk_at "ss"
      refine ⟨rfl, ?_⟩
      walk_at "ss"
      refine k_df (nr _) ?_
      walk_at "ss"
      refine ⟨rfl, ?_⟩
      walk_at "ss"
      refine k_df (nr _) ?_
      walk_at "ss"
      intro p2 n2
      have hd2 := same_new (o := .tup [V.ty "list", V.ty "tuple"]) n2 _ _ hd1
      walk_at "ss"
      try refine isoT (TyX.base (.dK hd2)) upd_same kb_dict_list kb_dict_tuple ?_
      walk_at "ss"
      refine k_ne rfl ?_
      walk_at "ss"
      refine k_nt rfl ?_
      walk_at "ss"
      refine k_ne rfl ?_
      walk_at "ss"
      refine k_nt rfl ?_
      walk_at "ss"
      refine k_ne rfl ?_
      walk_at "ss"
      refine k_nt rfl ?_
      walk_at "ss"
      refine k_ne rfl ?_
      walk_at "ss"
      refine k_nt rfl ?_
      walk_at "ss"
      refine .inr ⟨1, by decide, eqR_same hd2 hk, ?_⟩
      walk_at "ss"
      exact k _ ((same_new n1).trans (same_new n2))
    · rcases hh with ⟨ha, hb⟩ | ⟨ha, hb⟩
      · walk_at "ss"
        intro p np
        generalize e1 : upd H p _ = H1
        have s1 := upd_sm e1 np
        have hp := upd_at e1
        clear e1
        have ha1 := s1 _ _ ha
        have hb1 := s1 _ _ hb
        walk_at "ss"
        refine k_ne rfl ?_
        walk_at "ss"
        refine k_nt rfl ?_
        walk_at "ss"
        refine k_ne rfl ?_
        walk_at "ss"
        refine k_nt rfl ?_
        walk_at "ss"
        refine k_dt (by omega) ?_
        walk_at "ss"
        refine k_iZipA ?_
        walk_at "ss"
        refine ⟨a, b, xs, ys, rfl, zL ⟨SqL.of ha1, SqL.of hb1, ?_⟩⟩
        intro D nD
        refine k_lcIt (n := xs.length) (walk_zipL (xs := xs) (ys := ys) (by omega)) (fun i H' => ∃ bs : List Bool, H' D = some (.lst (bs.map V.bl)) ∧ bs.length = i ∧ (∀ z ∈ bs, z = true) ∧ Same H1 H') ⟨[], upd_same, rfl, fun z hz => (by cases hz), same_new nD⟩ ?_ ?_ ?_
        · rintro i H' _ ⟨bs, _, _, _, sm⟩
          exact ⟨SqL.of (sm _ _ ha1), SqL.of (sm _ _ hb1)⟩
        · rintro i x H' H'' hi ⟨bs, hD, hlen, hall, sm⟩ ⟨tp, y1, y2, rfl, nt, rfl, ey1, ey2⟩
          have hyt : (upd H' tp (.tup [y1, y2])) tp = some (.tup [y1, y2]) := upd_same
          walk_at "ss"
          refine ⟨rfl, ?_⟩
          walk_at "ss"
          refine ⟨y1, y2, rfl, (hs i y1 y2 ey1 ey2).up ((s1.trans sm).trans (same_new nt)), fun H3 s3 => ?_⟩
          have hD3 := s3 _ _ (same_new nt _ _ hD)
          refine ⟨_, hD3, small_lt (by rw [List.length_map]; omega), bs ++ [true], by rw [upd_same, List.map_append]; rfl, by simp [hlen], ?_, same_put ((sm.trans (same_new nt)).trans s3) nD⟩
          intro z hz
          rcases List.mem_append.mp hz with hz | hz
          · exact hall z hz
          · exact List.mem_singleton.mp hz
        · rintro H' ⟨bs, hD, hlen, hall, sm⟩
          walk_at "ss"
          refine ⟨D, bs, rfl, SqL.of hD, ?_⟩
          have : bs.all id = true := List.all_eq_true.mpr fun z hz => hall z hz
          rw [this]
          exact k _ (s1.trans sm)
      · walk_at "ss"
        intro p np
        generalize e1 : upd H p _ = H1
        have s1 := upd_sm e1 np
        have hp := upd_at e1
        clear e1
        have ha1 := s1 _ _ ha
        have hb1 := s1 _ _ hb
        walk_at "ss"
        refine k_ne rfl ?_
        walk_at "ss"
        refine k_nt rfl ?_
        walk_at "ss"
        refine k_ne rfl ?_
        walk_at "ss"
        refine k_nt rfl ?_
        walk_at "ss"
        refine k_dt (by omega) ?_
        walk_at "ss"
        refine k_iZipA ?_
        walk_at "ss"
        refine ⟨a, b, xs, ys, rfl, zT ⟨SqT.of ha1, SqT.of hb1, ?_⟩⟩
        intro D nD
        refine k_lcIt (n := xs.length) (walk_zipT (xs := xs) (ys := ys) (by omega)) (fun i H' => ∃ bs : List Bool, H' D = some (.lst (bs.map V.bl)) ∧ bs.length = i ∧ (∀ z ∈ bs, z = true) ∧ Same H1 H') ⟨[], upd_same, rfl, fun z hz => (by cases hz), same_new nD⟩ ?_ ?_ ?_
        · rintro i H' _ ⟨bs, _, _, _, sm⟩
          exact ⟨SqT.of (sm _ _ ha1), SqT.of (sm _ _ hb1)⟩
        · rintro i x H' H'' hi ⟨bs, hD, hlen, hall, sm⟩ ⟨tp, y1, y2, rfl, nt, rfl, ey1, ey2⟩
          have hyt : (upd H' tp (.tup [y1, y2])) tp = some (.tup [y1, y2]) := upd_same
          walk_at "ss"
          refine ⟨rfl, ?_⟩
          walk_at "ss"
          refine ⟨y1, y2, rfl, (hs i y1 y2 ey1 ey2).up ((s1.trans sm).trans (same_new nt)), fun H3 s3 => ?_⟩
          have hD3 := s3 _ _ (same_new nt _ _ hD)
          refine ⟨_, hD3, small_lt (by rw [List.length_map]; omega), bs ++ [true], by rw [upd_same, List.map_append]; rfl, by simp [hlen], ?_, same_put ((sm.trans (same_new nt)).trans s3) nD⟩
          intro z hz
          rcases List.mem_append.mp hz with hz | hz
          · exact hall z hz
          · exact List.mem_singleton.mp hz
        · rintro H' ⟨bs, hD, hlen, hall, sm⟩
          walk_at "ss"
          refine ⟨D, bs, rfl, SqL.of hD, ?_⟩
          have : bs.all id = true := List.all_eq_true.mpr fun z hz => hall z hz
          rw [this]
          exact k _ (s1.trans sm)
theorem okr_like (T : Tx K mg) : ∀ d, FnOk P w K mg base CX0 (d + 1) T.a_like T.fd_like P_like (spLike d)
  | 0 => ⟨fun _ _ _ _ h => h.elim, fun _ _ _ _ _ _ _ _ _ _ _ _ _ h => h.elim⟩
  | d + 1 => ok_like0 T d (okr_like T d)
theorem ok_like (T : Tx K mg) : FnOk P w K mg base CX0 5 T.a_like T.fd_like P_like (spLike 4) := okr_like T 4
end

section
variable {w : World} {K : PySem.W.Frag} {mg : Str → Option Value} {base : Heap}
/-! ### the errors -/
theorem k_mkO {C : Addr} {sp : Sp} {dvs : List V} {ta : TA} {σ : L2.St} {H : Hp} {Q : XK} (h : ta σ H fun vs H1 => vs.length ≤ 1000 ∧ ∀ a, H1 a = none → sp (.ref a :: (vs ++ dvs)) (upd H1 a (exo a C none))
  (fun v H2 => v = .non ∧ ∃ (d : Addr) (fs : List (Str × V)), H2 a = some (exo a C (some d)) ∧ H2 d = some (exd d fs) ∧ H1 d = none ∧ Q (.ref C) (some d) (upd (del H2 a) d (.xd fs))) (fun _ _ _ => False)) : tMkO C sp dvs ta σ H Q := h
def spInvalidNameI (T : Tx K mg) : Sp := fun vs H Q _ => ∃ (a : Addr) (x : V), vs = [.ref a, x] ∧ H a = some (exo a T.C_InvalidName none) ∧ ∀ (H' : Hp) (d : Addr), H d = none → d ≠ a → SameBut a H H' → H' a = some (exo a T.C_InvalidName (some d)) → H' d = some (exd d [("code", .str "InvalidName"), ("value", x)]) → Q .non H'
theorem ok_InvalidName_init (T : Tx K mg) : FnOk P w K mg base CX0 1 T.a_InvalidName_init T.fd_InvalidName_init P_InvalidName_init (spInvalidNameI T) := by
  obtain ⟨cl, cld, csl, hce⟩ := T.ce_InvalidName_init
  refine T.F_InvalidName_init.ok sc_InvalidName_init hce T.b_InvalidName_init (fun vs H Q E h => ?_) (fun A outer s H vs Q E hr h => ?_)
  · obtain ⟨a, x, rfl, _⟩ := h
    rfl
  · obtain ⟨a, x, rfl, ha, k⟩ := h
    have nd := sc_InvalidName_init.nd
    refine ⟨_, (psa_cons (pst_supE T.sd_InvalidName_init rfl rfl g_InvalidName_init_super fr_InvalidName_init cc_look rfl (locB_ok l_InvalidName_init_self) (pa_cons pe_str pa_nil))
      (psa_cons (pst_of (ps_ost (kv (i := 0) v_InvalidName_init_self) (kv (i := 1) v_InvalidName_init_value)))
      (psa_one (pst_of (ps_ost (kv (i := 0) v_InvalidName_init_self) pe_str))))), ?_⟩
    refine k_supE (a := a) (C := T.C_InvalidName) rfl ha T.se_InvalidName fun q nq => ?_
    have naq : a ≠ q := ne_of_none ha nq
    walk_at "ss"
    refine ⟨by decide, upd_same, (upd_ne naq).trans ha, ?_⟩
    walk_at "ss"
    refine k_ost ?_
    walk_at "ss"
    refine ⟨a, _, rfl, T.oex_InvalidName, T.no_InvalidName_value, .inl ⟨(upd_ne naq).trans ha, fun d nd1 nda => ?_⟩⟩
    have ndH : H d = none := (up_none nd1).1
    walk_at "ss"
    dsimp only
    refine k_ost ?_
    walk_at "ss"
    refine ⟨a, _, rfl, T.oex_InvalidName, T.no_InvalidName_code, .inr ⟨d, _, upd_same, (upd_ne nda).trans upd_same, by simp, ?_⟩⟩
    refine k _ d ndH nda ?_ ((upd_ne (Ne.symm nda)).trans upd_same) upd_same
    intro b o nb hb
    have nbd : b ≠ d := ne_of_none hb ndH
    have nbq : b ≠ q := ne_of_none hb nq
    rw [upd_ne nbd, upd_ne nb, upd_ne nbd, upd_ne nbq]
    exact hb
theorem raise_InvalidName (T : Tx K mg) {H : Hp} {v : V} {Q : XK} (h : ∀ (H' : Hp) (d : Addr), Same H H' → H' d = some (.xd [("code", .str "InvalidName"), ("value", v)]) → Q (.ref T.C_InvalidName) (some d) H') : [v].length ≤ 1000 ∧ ∀ a, H a = none → spInvalidNameI T (.ref a :: ([v] ++ [])) (upd H a (exo a T.C_InvalidName none))
    (fun v2 H2 => v2 = .non ∧ ∃ (d : Addr) (fs : List (Str × V)), H2 a = some (exo a T.C_InvalidName (some d)) ∧ H2 d = some (exd d fs) ∧ H d = none ∧ Q (.ref T.C_InvalidName) (some d) (upd (del H2 a) d (.xd fs))) (fun _ _ _ => False) := by
  refine ⟨by simp, fun x nx => ⟨x, v, rfl, upd_same, fun H' d nd1 ndx sb hx hd => ⟨rfl, d, _, hx, hd, (up_none nd1).1, ?_⟩⟩⟩
  refine h _ d ?_ upd_same
  intro z o hz
  have nzx : z ≠ x := ne_of_none hz nx
  have nzd : z ≠ d := ne_of_none hz (up_none nd1).1
  rw [upd_ne nzd, del_ne nzx]
  exact sb _ _ nzx ((upd_ne nzx).trans hz)
def spInvalidNumberI (T : Tx K mg) : Sp := fun vs H Q _ => ∃ (a : Addr) (x : V), vs = [.ref a, x] ∧ H a = some (exo a T.C_InvalidNumber none) ∧ ∀ (H' : Hp) (d : Addr), H d = none → d ≠ a → SameBut a H H' → H' a = some (exo a T.C_InvalidNumber (some d)) → H' d = some (exd d [("code", .str "InvalidNumber"), ("value", x)]) → Q .non H'
theorem ok_InvalidNumber_init (T : Tx K mg) : FnOk P w K mg base CX0 1 T.a_InvalidNumber_init T.fd_InvalidNumber_init P_InvalidNumber_init (spInvalidNumberI T) := by
  obtain ⟨cl, cld, csl, hce⟩ := T.ce_InvalidNumber_init
  refine T.F_InvalidNumber_init.ok sc_InvalidNumber_init hce T.b_InvalidNumber_init (fun vs H Q E h => ?_) (fun A outer s H vs Q E hr h => ?_)
  · obtain ⟨a, x, rfl, _⟩ := h
    rfl
  · obtain ⟨a, x, rfl, ha, k⟩ := h
    have nd := sc_InvalidNumber_init.nd
    refine ⟨_, (psa_cons (pst_supE T.sd_InvalidNumber_init rfl rfl g_InvalidNumber_init_super fr_InvalidNumber_init cc_look rfl (locB_ok l_InvalidNumber_init_self) (pa_cons pe_str pa_nil))
      (psa_cons (pst_of (ps_ost (kv (i := 0) v_InvalidNumber_init_self) (kv (i := 1) v_InvalidNumber_init_value)))
      (psa_one (pst_of (ps_ost (kv (i := 0) v_InvalidNumber_init_self) pe_str))))), ?_⟩
    refine k_supE (a := a) (C := T.C_InvalidNumber) rfl ha T.se_InvalidNumber fun q nq => ?_
    have naq : a ≠ q := ne_of_none ha nq
    walk_at "ss"
    refine ⟨by decide, upd_same, (upd_ne naq).trans ha, ?_⟩
    walk_at "ss"
    refine k_ost ?_
    walk_at "ss"
    refine ⟨a, _, rfl, T.oex_InvalidNumber, T.no_InvalidNumber_value, .inl ⟨(upd_ne naq).trans ha, fun d nd1 nda => ?_⟩⟩
    have ndH : H d = none := (up_none nd1).1
    walk_at "ss"
    dsimp only
    refine k_ost ?_
    walk_at "ss"
    refine ⟨a, _, rfl, T.oex_InvalidNumber, T.no_InvalidNumber_code, .inr ⟨d, _, upd_same, (upd_ne nda).trans upd_same, by simp, ?_⟩⟩
    refine k _ d ndH nda ?_ ((upd_ne (Ne.symm nda)).trans upd_same) upd_same
    intro b o nb hb
    have nbd : b ≠ d := ne_of_none hb ndH
    have nbq : b ≠ q := ne_of_none hb nq
    rw [upd_ne nbd, upd_ne nb, upd_ne nbd, upd_ne nbq]
    exact hb
theorem raise_InvalidNumber (T : Tx K mg) {H : Hp} {v : V} {Q : XK} (h : ∀ (H' : Hp) (d : Addr), Same H H' → H' d = some (.xd [("code", .str "InvalidNumber"), ("value", v)]) → Q (.ref T.C_InvalidNumber) (some d) H') : [v].length ≤ 1000 ∧ ∀ a, H a = none → spInvalidNumberI T (.ref a :: ([v] ++ [])) (upd H a (exo a T.C_InvalidNumber none))
    (fun v2 H2 => v2 = .non ∧ ∃ (d : Addr) (fs : List (Str × V)), H2 a = some (exo a T.C_InvalidNumber (some d)) ∧ H2 d = some (exd d fs) ∧ H d = none ∧ Q (.ref T.C_InvalidNumber) (some d) (upd (del H2 a) d (.xd fs))) (fun _ _ _ => False) := by
  refine ⟨by simp, fun x nx => ⟨x, v, rfl, upd_same, fun H' d nd1 ndx sb hx hd => ⟨rfl, d, _, hx, hd, (up_none nd1).1, ?_⟩⟩⟩
  refine h _ d ?_ upd_same
  intro z o hz
  have nzx : z ≠ x := ne_of_none hz nx
  have nzd : z ≠ d := ne_of_none hz (up_none nd1).1
  rw [upd_ne nzd, del_ne nzx]
  exact sb _ _ nzx ((upd_ne nzx).trans hz)
def spInvalidRestI (T : Tx K mg) : Sp := fun vs H Q _ => ∃ (a : Addr) (x : V), vs = [.ref a, x] ∧ H a = some (exo a T.C_InvalidRest none) ∧ ∀ (H' : Hp) (d : Addr), H d = none → d ≠ a → SameBut a H H' → H' a = some (exo a T.C_InvalidRest (some d)) → H' d = some (exd d [("code", .str "InvalidRest"), ("value", x)]) → Q .non H'
theorem ok_InvalidRest_init (T : Tx K mg) : FnOk P w K mg base CX0 1 T.a_InvalidRest_init T.fd_InvalidRest_init P_InvalidRest_init (spInvalidRestI T) := by
  obtain ⟨cl, cld, csl, hce⟩ := T.ce_InvalidRest_init
  refine T.F_InvalidRest_init.ok sc_InvalidRest_init hce T.b_InvalidRest_init (fun vs H Q E h => ?_) (fun A outer s H vs Q E hr h => ?_)
  · obtain ⟨a, x, rfl, _⟩ := h
    rfl
  · obtain ⟨a, x, rfl, ha, k⟩ := h
    have nd := sc_InvalidRest_init.nd
    refine ⟨_, (psa_cons (pst_supE T.sd_InvalidRest_init rfl rfl g_InvalidRest_init_super fr_InvalidRest_init cc_look rfl (locB_ok l_InvalidRest_init_self) (pa_cons pe_str pa_nil))
      (psa_cons (pst_of (ps_ost (kv (i := 0) v_InvalidRest_init_self) (kv (i := 1) v_InvalidRest_init_value)))
      (psa_one (pst_of (ps_ost (kv (i := 0) v_InvalidRest_init_self) pe_str))))), ?_⟩
    refine k_supE (a := a) (C := T.C_InvalidRest) rfl ha T.se_InvalidRest fun q nq => ?_
    have naq : a ≠ q := ne_of_none ha nq
    walk_at "ss"
    refine ⟨by decide, upd_same, (upd_ne naq).trans ha, ?_⟩
    walk_at "ss"
    refine k_ost ?_
    walk_at "ss"
    refine ⟨a, _, rfl, T.oex_InvalidRest, T.no_InvalidRest_value, .inl ⟨(upd_ne naq).trans ha, fun d nd1 nda => ?_⟩⟩
    have ndH : H d = none := (up_none nd1).1
    walk_at "ss"
    dsimp only
    refine k_ost ?_
    walk_at "ss"
    refine ⟨a, _, rfl, T.oex_InvalidRest, T.no_InvalidRest_code, .inr ⟨d, _, upd_same, (upd_ne nda).trans upd_same, by simp, ?_⟩⟩
    refine k _ d ndH nda ?_ ((upd_ne (Ne.symm nda)).trans upd_same) upd_same
    intro b o nb hb
    have nbd : b ≠ d := ne_of_none hb ndH
    have nbq : b ≠ q := ne_of_none hb nq
    rw [upd_ne nbd, upd_ne nb, upd_ne nbd, upd_ne nbq]
    exact hb
theorem raise_InvalidRest (T : Tx K mg) {H : Hp} {v : V} {Q : XK} (h : ∀ (H' : Hp) (d : Addr), Same H H' → H' d = some (.xd [("code", .str "InvalidRest"), ("value", v)]) → Q (.ref T.C_InvalidRest) (some d) H') : [v].length ≤ 1000 ∧ ∀ a, H a = none → spInvalidRestI T (.ref a :: ([v] ++ [])) (upd H a (exo a T.C_InvalidRest none))
    (fun v2 H2 => v2 = .non ∧ ∃ (d : Addr) (fs : List (Str × V)), H2 a = some (exo a T.C_InvalidRest (some d)) ∧ H2 d = some (exd d fs) ∧ H d = none ∧ Q (.ref T.C_InvalidRest) (some d) (upd (del H2 a) d (.xd fs))) (fun _ _ _ => False) := by
  refine ⟨by simp, fun x nx => ⟨x, v, rfl, upd_same, fun H' d nd1 ndx sb hx hd => ⟨rfl, d, _, hx, hd, (up_none nd1).1, ?_⟩⟩⟩
  refine h _ d ?_ upd_same
  intro z o hz
  have nzx : z ≠ x := ne_of_none hz nx
  have nzd : z ≠ d := ne_of_none hz (up_none nd1).1
  rw [upd_ne nzd, del_ne nzx]
  exact sb _ _ nzx ((upd_ne nzx).trans hz)
inductive Er where | name | num | rest
def Er.S : Er → Str
  | .name => "InvalidName"
  | .num => "InvalidNumber"
  | .rest => "InvalidRest"
def Er.C (T : Tx K mg) : Er → Addr
  | .name => T.C_InvalidName
  | .num => T.C_InvalidNumber
  | .rest => T.C_InvalidRest
/-- the error e with the value v leaves, all else as it was -/
def Goes (T : Tx K mg) (H : Hp) (E : XK) (e : Er) (v : V) : Prop := ∀ (H' : Hp) (d : Addr), Same H H' → H' d = some (.xd [("code", .str e.S), ("value", v)]) → E (.ref (e.C T)) (some d) H'
end

section
variable {w : World} {K : PySem.W.Frag} {mg : Str → Option Value} {base : Heap}
/-! ### rules -/
theorem k_gRest {T : Tx K mg} {H : Hp} {v : V} {Q : VK} (h : Gv H v) (k : Q (.bl false) H) : rIsi K [v, .ref T.C_Rest] H Q := by
  cases h with
  | int i => exact k_isiO (TyX.base (.int _)) T.kb_int_Rest k
  | str z h => exact k_isiO (TyX.base (.str _)) T.kb_str_Rest k
  | bl b => exact k_isiO (TyX.base (.bl _)) T.kb_bool_Rest k
  | non => exact k_isiO (TyX.base .non) T.kb_NoneType_Rest k
  | lst h => exact k_isiO (TyX.base (.lst h)) T.kb_list_Rest k
  | tup h => exact k_isiO (TyX.base (.tup h)) T.kb_tuple_Rest k
  | dic h => exact k_isiO (TyX.base (.dK h)) T.kb_dict_Rest k
abbrev nR : List Str := ["name", "chips", "rest"]
def spRuleI (T : Tx K mg) : Sp := fun vs H Q E => ∃ (a dx : Addr) (v0 v1 v2 : V), vs = [.ref a, v0, v1, v2] ∧ H a = some (.ins T.C_Rule dx []) ∧ Gv H v0 ∧ Gv H v1 ∧ (Gv H v2 ∨ ∃ r tx, v2 = .ref r ∧ RtTx T H r tx) ∧
  (nameV v0 = false → Goes T H E .name v0) ∧ (nameV v0 = true → numV v1 1 1000 = false → Goes T H E .num v1) ∧ (nameV v0 = true → numV v1 1 1000 = true → Gv H v2 → Goes T H E .rest v2) ∧
  (nameV v0 = true → numV v1 1 1000 = true → (∃ r tx, v2 = .ref r ∧ RtTx T H r tx) → Q .non (upd H a (.ins T.C_Rule dx (FL nR [v0, v1, v2]))))
theorem ok_Rule_init (T : Tx K mg) : FnOk P w K mg base (L2.CX P w) 3 T.a_Rule_init T.fd_Rule_init P_Rule_init (spRuleI T) := by
  refine T.F_Rule_init.okX sc_Rule_init (fun vs H Q E h => ?_) (fun cdv A outer s H vs Q E hr h => ?_)
  · obtain ⟨a, dx, v0, v1, v2, rfl, _⟩ := h
    rfl
  · obtain ⟨a, dx, v0, v1, v2, rfl, ha, h0, h1, h2, k0, k1, k2, k3⟩ := h
    have nd := sc_Rule_init.nd
    refine ⟨_, (pss_cons (ps_if (pt_not (pt_val (pe_call (ok_is_name T) (hr.mono (by first | decide | omega)) g_Rule_init_is_name T.m_is_name T.k_is_name T.b_is_name .nil pass0 (pa_cons (kv (i := 1) v_Rule_init_name) pa_nil)))) (pss_one (ps_raise rfl (takes_of rfl rfl rfl rfl) (pmk_oex T.oex_InvalidName T.ii_InvalidName T.ti_InvalidName (ok_InvalidName_init T) (hr.mono (by first | decide | omega)) T.b_InvalidName_init .nil pass0 g_Rule_init_InvalidName T.m_InvalidName (pa_cons (kv (i := 1) v_Rule_init_name) pa_nil)))) pss_nil)
      (pss_cons (ps_if (pt_not (pt_val (pe_call (ok_is_number T) (hr.mono (by first | decide | omega)) g_Rule_init_is_number T.m_is_number T.k_is_number T.b_is_number .nil pass0 (pa_cons (kv (i := 2) v_Rule_init_chips) (pa_cons pe_int (pa_cons pe_int pa_nil)))))) (pss_one (ps_raise rfl (takes_of rfl rfl rfl rfl) (pmk_oex T.oex_InvalidNumber T.ii_InvalidNumber T.ti_InvalidNumber (ok_InvalidNumber_init T) (hr.mono (by first | decide | omega)) T.b_InvalidNumber_init .nil pass0 g_Rule_init_InvalidNumber T.m_InvalidNumber (pa_cons (kv (i := 2) v_Rule_init_chips) pa_nil)))) pss_nil)
      (pss_cons (ps_if (pt_not (pt_val (kcB b_isinstance (by decide) (by decide) (kc_isi K) g_Rule_init_isinstance T.n_isinstance (pa_cons (kv (i := 3) v_Rule_init_rest) (pa_cons (kcls g_Rule_init_Rest T.m_Rest) pa_nil))))) (pss_one (ps_raise rfl (takes_of rfl rfl rfl rfl) (pmk_oex T.oex_InvalidRest T.ii_InvalidRest T.ti_InvalidRest (ok_InvalidRest_init T) (hr.mono (by first | decide | omega)) T.b_InvalidRest_init .nil pass0 g_Rule_init_InvalidRest T.m_InvalidRest (pa_cons (kv (i := 3) v_Rule_init_rest) pa_nil)))) pss_nil)
      (pss_cons (kps_fld K (kv (i := 0) v_Rule_init_self) (kv (i := 1) v_Rule_init_name))
      (pss_cons (kps_fld K (kv (i := 0) v_Rule_init_self) (kv (i := 2) v_Rule_init_chips))
      (pss_one (kps_fld K (kv (i := 0) v_Rule_init_self) (kv (i := 3) v_Rule_init_rest)))))))), ?_⟩
    walk_at "ss"
    refine ⟨v0, rfl, h0, ?_⟩
    cases e0 : nameV v0 with
    | false =>
      walk_at "ss"
      show tMkO _ _ _ _ _ _ _
      refine k_mkO ?_
      walk_at "ss"
      exact raise_InvalidName T (k0 e0)
    | true =>
      walk_at "ss"
      refine ⟨v1, 1, 1000, rfl, h1, ?_⟩
      cases e1 : numV v1 1 1000 with
      | false =>
        walk_at "ss"
        show tMkO _ _ _ _ _ _ _
        refine k_mkO ?_
        walk_at "ss"
        exact raise_InvalidNumber T (k1 e0 e1)
      | true =>
        walk_at "ss"
        rcases h2 with h2 | ⟨r, tx, rfl, hr2⟩
        · refine k_gRest h2 ?_
          walk_at "ss"
          show tMkO _ _ _ _ _ _ _
          refine k_mkO ?_
          walk_at "ss"
          exact raise_InvalidRest T (k2 e0 e1 h2)
        · obtain ⟨C, dx1, ns, vs, hC, hn, he⟩ := id hr2
          refine k_isiO (ty_own hC.ty he) hC.kt ?_
          walk_at "ss"
          refine k_putAt (ns := []) (vs := []) ha T.cl_Rule T.no_Rule_name rfl (by decide +kernel) (by decide) ?_
          walk_at "ss"
          refine k_putTop T.cl_Rule T.no_Rule_chips rfl (by decide +kernel) (by decide) ?_
          walk_at "ss"
          refine k_putTop T.cl_Rule T.no_Rule_rest rfl (by decide +kernel) (by decide) ?_
          exact k3 e0 e1 ⟨r, tx, rfl, hr2⟩
/-- a rule with this name, these chips, a rest with this text -/
def RuleX (T : Tx K mg) (H : Hp) (a : Addr) (nm : Str) (c : Int) (tx : Str) : Prop := ∃ (dx r : Addr), H a = some (.ins T.C_Rule dx (FL nR [.str nm, .int c, .ref r])) ∧ RtTx T H r tx
theorem RuleX.up {T : Tx K mg} {H H' : Hp} {a : Addr} {nm : Str} {c : Int} {tx : Str} (h : RuleX T H a nm c tx) (e : Same H H') : RuleX T H' a nm c tx := by
  obtain ⟨dx, r, h1, h2⟩ := h
  exact ⟨dx, r, e _ _ h1, h2.up e⟩
def ruleTx (nm : Str) (c : Int) (tx : Str) : Str := Str.empty ++ nm ++ (" " : Str) ++ Str.ofString (toString c) ++ (" " : Str) ++ tx
def spRuleStr (T : Tx K mg) : Sp := fun vs H Q _ => ∃ (a : Addr) (nm tx : Str) (c : Int), vs = [.ref a] ∧ RuleX T H a nm c tx ∧ nm.length ≤ 100 ∧ tx.length ≤ 1000 ∧ 0 ≤ c ∧ c ≤ 1000 ∧ Q (.str (ruleTx nm c tx)) H
theorem k_restT {T : Tx K mg} {H : Hp} {a : Addr} {tx m : Str} {E : XK} {sp0 : Sp} {σ : L2.St} {Q : VK} {ta : TE} (ha : RtTx T H a tx) (h : nin m n4 = true) (h1 : nin m ["width", "every", "_borders", "first", "second"] = true)
    (hσ : ∀ Q : VK, Q (.ref a) H → ta σ H Q) (k : sp0 [.ref a] H Q E) : tMethP (OneSp T sp0) m E ta tNil σ H Q := by
  obtain ⟨C, dx, ns, vs, hC, hn, he⟩ := ha
  refine hσ _ ?_
  exact ⟨a, C, dx, _, sp0, rfl, he, ⟨hC, rfl⟩, no_meth h h1 hn, k⟩
theorem ok_Rule_str (T : Tx K mg) : FnOk P w K mg base CX0 2 T.a_Rule_str T.fd_Rule_str P_Rule_str (spRuleStr T) := by
  refine T.F_Rule_str.ok sc_Rule_str (fun vs H Q E h => ?_) (fun cdv A outer s H vs Q E hr h => ?_)
  · obtain ⟨a, nm, tx, c, rfl, _⟩ := h
    rfl
  · obtain ⟨a, nm, tx, c, rfl, ⟨dx, r, hR, hr1⟩, l1, l2, c0, c1, k⟩ := h
    have nd := sc_Rule_str.nd
    refine ⟨_, (pss_one (ps_ret (pe_joined (.cons (pe_fmt (kpe_fld K (kv (i := 0) v_Rule_str_self))) (.cons pe_str (.cons (pe_fmt (kpe_fld K (kv (i := 0) v_Rule_str_self))) (.cons pe_str (.cons (pe_fmt (kpe_methP0 (disp_written T) (hr.mono (by decide)) pass0 (kpe_fld K (kv (i := 0) v_Rule_str_self)))) .nil)))))))), ?_⟩
    have ls : (" " : Str).length = 1 := by decide +kernel
    have lc : (Str.ofString (toString c)).length ≤ 5 := len_text (k := 4) (by decide) (by omega)
    walk_at "ss"
    refine k_fldAt hR T.cl_Rule T.no_Rule_name (i := 0) (by decide +kernel) rfl ?_
    refine k_fmtS (by omega) ?_
    refine k_jsV (by simp only [PySem.Str.length_append, len_empty]; omega) ?_
    walk_at "ss"
    refine k_jsV (by simp only [PySem.Str.length_append, len_empty, ls]; omega) ?_
    walk_at "ss"
    refine k_fldAt hR T.cl_Rule T.no_Rule_chips (i := 1) (by decide +kernel) rfl ?_
    refine k_fmtI (by omega) ?_
    refine k_jsV (by simp only [PySem.Str.length_append, len_empty, ls]; omega) ?_
    walk_at "ss"
    refine k_jsV (by simp only [PySem.Str.length_append, len_empty, ls]; omega) ?_
    walk_at "ss"
    refine k_restT hr1 (by decide +kernel) (by decide +kernel) (fun Q q => k_fld (k_var rfl (k_fldAt hR T.cl_Rule T.no_Rule_rest (i := 2) (by decide +kernel) rfl q))) ⟨r, tx, rfl, hr1, ?_⟩
    refine k_fmtS (by omega) ?_
    refine k_jsV (by simp only [PySem.Str.length_append, len_empty, ls]; omega) ?_
    walk_at "ss"
    exact k
/-- == of two rests: either class asks Rest's own -/
def rEqR (T : Tx K mg) : R2 := fun x y H Q => ∃ (a b : Addr) (tx ty : Str), x = .ref a ∧ y = .ref b ∧ RtTx T H a tx ∧ RtTx T H b ty ∧ Q (.bl (decide (tx = ty))) H
theorem kop_eqR {X : Cx} (T : Tx K mg) (Fn : FnOk X.prog X.w K X.mg X.base CX0 1 T.a_Rest_eq T.fd_Rest_eq P_Rest_eq (spRestEq T)) (room : Room 1 X.A) (hK : X.K = K := by rfl) : OpR X (compareOp .Eq) (rEqR T) := by
  subst hK
  intro pins s σ H x y v u Q I rx ry hh
  obtain ⟨a, b, tx, ty, rfl, rfl, h1, h2, q⟩ := hh
  have go : spRestEq T [.ref a, .ref b] H Q E0 := ⟨a, b, tx, ty, rfl, h1, h2, q⟩
  obtain ⟨C1, dx1, ns1, vs1, hC1, _, he1⟩ := h1
  obtain ⟨C2, dx2, ns2, vs2, hC2, _, he2⟩ := h2
  cases hC1 with
  | win => cases hC2 with
    | win => exact op_eqO T.eqf_Window T.eqi_Window Fn room T.b_Rest_eq pass0 pins s σ H _ _ v u Q I rx ry ⟨a, dx1, _, rfl, he1, .ins he2 T.nf_Window, go⟩
    | days => exact op_eqO T.eqf_Window T.eqi_Window Fn room T.b_Rest_eq pass0 pins s σ H _ _ v u Q I rx ry ⟨a, dx1, _, rfl, he1, .ins he2 T.nf_Window_Days, go⟩
  | days => cases hC2 with
    | win => exact op_eqO T.eqf_Days T.eqi_Days Fn room T.b_Rest_eq pass0 pins s σ H _ _ v u Q I rx ry ⟨a, dx1, _, rfl, he1, .ins he2 T.nf_Days_Window, go⟩
    | days => exact op_eqO T.eqf_Days T.eqi_Days Fn room T.b_Rest_eq pass0 pins s σ H _ _ v u Q I rx ry ⟨a, dx1, _, rfl, he1, .ins he2 T.nf_Days, go⟩
def eqX (nm nm2 : Str) (c c2 : Int) (tx tx2 : Str) : Bool := decide (nm = nm2) && (decide (c = c2) && decide (tx = tx2))
def spRuleEq (T : Tx K mg) : Sp := fun vs H Q _ => ∃ (a : Addr) (nm tx : Str) (c : Int) (y : V), vs = [.ref a, y] ∧ RuleX T H a nm c tx ∧ ((((∃ z, y = .str z) ∨ (∃ i, y = .int i)) ∧ Q (.bl false) H) ∨ ∃ (b : Addr) (nm2 tx2 : Str) (c2 : Int), y = .ref b ∧ RuleX T H b nm2 c2 tx2 ∧ Q (.bl (eqX nm nm2 c c2 tx tx2)) H)
theorem dec_str {a b : Str} : decide (V.str a = V.str b) = decide (a = b) := by simp
theorem dec_int2 {a b : Int} : decide (V.int a = V.int b) = decide (a = b) := by simp
theorem ok_Rule_eq (T : Tx K mg) : FnOk P w K mg base CX0 2 T.a_Rule_eq T.fd_Rule_eq P_Rule_eq (spRuleEq T) := by
  refine T.F_Rule_eq.ok sc_Rule_eq (fun vs H Q E h => ?_) (fun cdv A outer s H vs Q E hr h => ?_)
  · obtain ⟨a, nm, tx, c, y, rfl, _⟩ := h
    rfl
  · obtain ⟨a, nm, tx, c, y, rfl, ⟨dx, r, hR, hr1⟩, hy⟩ := h
    have nd := sc_Rule_eq.nd
    refine ⟨_, (pss_cons (ps_if (pt_not (pt_val (kcB b_isinstance (by decide) (by decide) (kc_isi K) g_Rule_eq_isinstance T.n_isinstance (pa_cons (kv (i := 1) v_Rule_eq_other) (pa_cons (kcls g_Rule_eq_Rule T.m_Rule) pa_nil))))) (pss_one (ps_ret pe_bl)) pss_nil)
      (pss_one (ps_ret (pe_and (pe_cmpR op_eq (kpe_fld K (kv (i := 0) v_Rule_eq_self)) (kpe_fld K (kv (i := 1) v_Rule_eq_other)) (nomark _)) (pe_and (pe_cmpR op_eq (kpe_fld K (kv (i := 0) v_Rule_eq_self)) (kpe_fld K (kv (i := 1) v_Rule_eq_other)) (nomark _)) (pe_one (pe_cmpR (kop_eqR T (ok_Rest_eq T) (hr.mono (by decide))) (kpe_fld K (kv (i := 0) v_Rule_eq_self)) (kpe_fld K (kv (i := 1) v_Rule_eq_other)) (nomark _)))))))), ?_⟩
    walk_at "ss"
    rcases hy with ⟨⟨z, rfl⟩ | ⟨i, rfl⟩, k⟩ | ⟨b, nm2, tx2, c2, rfl, ⟨dx2, r2, hR2, hr2⟩, k⟩
    · refine k_isiO (TyX.base (.str _)) T.kb_str_Rule ?_
      walk_at "ss"
      exact k
    · refine k_isiO (TyX.base (.int _)) T.kb_int_Rule ?_
      walk_at "ss"
      exact k
    · refine k_isiO (ty_own T.ty_Rule hR2) T.kt_Rule_Rule ?_
      walk_at "ss"
      refine k_fldAt hR T.cl_Rule T.no_Rule_name (i := 0) (by decide +kernel) rfl ?_
      walk_at "ss"
      refine k_fldAt hR2 T.cl_Rule T.no_Rule_name (i := 0) (by decide +kernel) rfl ?_
      refine k_eq rfl ?_
      rw [dec_str]
      refine ⟨_, rfl, ?_⟩
      unfold eqX at k
      refine k_d (fun h1 => ?_) (fun h1 => ?_)
      · rw [decide_eq_true h1, Bool.true_and] at k
        walk_at "ss"
        refine k_fldAt hR T.cl_Rule T.no_Rule_chips (i := 1) (by decide +kernel) rfl ?_
        walk_at "ss"
        refine k_fldAt hR2 T.cl_Rule T.no_Rule_chips (i := 1) (by decide +kernel) rfl ?_
        walk_at "ss"
        refine k_d (fun h2 => ?_) (fun h2 => ?_)
        · rw [decide_eq_true h2, Bool.true_and] at k
          walk_at "ss"
          refine k_fldAt hR T.cl_Rule T.no_Rule_rest (i := 2) (by decide +kernel) rfl ?_
          walk_at "ss"
          refine k_fldAt hR2 T.cl_Rule T.no_Rule_rest (i := 2) (by decide +kernel) rfl ?_
          exact ⟨r, r2, tx, tx2, rfl, rfl, hr1, hr2, k⟩
        · rw [decide_eq_false h2, Bool.false_and] at k
          exact k
      · rw [decide_eq_false h1, Bool.false_and] at k
        exact k
end

section
variable {w : World} {K : PySem.W.Frag} {mg : Str → Option Value} {base : Heap}
theorem k_make {C : Addr} {sp : Sp} {dvs : List V} {E : XK} {t : TA} {σ : L2.St} {H : Hp} {Q : VK} (h : t σ H fun vs H1 => ∀ x dx, H1 x = none → H1 dx = none → dx ≠ x →
  sp (.ref x :: (vs ++ dvs)) (upd (upd H1 dx (.own x)) x (.ins C dx [])) (fun v H2 => v = .non ∧ Q (.ref x) H2) E) : tMake C sp dvs E t σ H Q := h
theorem same_made {x dx : Addr} {H : Hp} {C : Addr} {fs : List (Str × V)} (hx : H x = none) (hd : H dx = none) (ne : dx ≠ x) : Same H (upd (upd H dx (.own x)) x (.ins C dx fs)) := fun b o h => by
  rw [upd_ne (ne_of_none h hx), upd_ne (ne_of_none h hd)]
  exact h
/-! ### the rules of a ladder -/
abbrev NoF : Addr → Prop := fun _ => False
def RuleW (T : Tx K mg) (H : Hp) (a : Addr) (nm : Str) (c : Int) (p : Plan) : Prop := ∃ (dx r : Addr), H a = some (.ins T.C_Rule dx (FL nR [.str nm, .int c, .ref r])) ∧ RestAt T NoF H r p
theorem RuleW.up {T : Tx K mg} {H H' : Hp} {a : Addr} {nm : Str} {c : Int} {p : Plan} (h : RuleW T H a nm c p) (e : Same H H') : RuleW T H' a nm c p := by
  obtain ⟨dx, r, h1, h2⟩ := h
  exact ⟨dx, r, e _ _ h1, h2.up e⟩
theorem RuleW.x {T : Tx K mg} {H : Hp} {a : Addr} {nm : Str} {c wd : Int} (h : RuleW T H a nm c (.win wd)) : RuleX T H a nm c (winTx wd) := by
  obtain ⟨dx, r, h1, h2⟩ := h
  exact ⟨dx, r, h1, h2.winTx⟩
theorem RuleW.put {T : Tx K mg} {H : Hp} {a L : Addr} {nm : Str} {c wd : Int} {xs ys : List V} (h : RuleW T H a nm c (.win wd)) (hL : H L = some (.lst xs)) : RuleW T (upd H L (.lst ys)) a nm c (.win wd) := by
  obtain ⟨dx, r, h1, h2⟩ := h
  cases h2 with
  | win h2 ht => exact ⟨dx, r, (upd_ne (ne_of h1 hL (by intro q; cases q))).trans h1, .win ((upd_ne (ne_of h2 hL (by intro q; cases q))).trans h2) ht⟩
def lnm (z : Str) (k : Nat) : Str := Str.empty ++ z ++ Str.ofString (toString ((k : Nat) : Int))
def LadAt (T : Tx K mg) (H : Hp) (t : Addr) (z : Str) (s e : Int) (n : Nat) : Prop := ∃ rs : List Addr, H t = some (.lst (rs.map V.ref)) ∧ rs.length = n ∧ ∀ (i : Nat) (r : Addr), rs[i]? = some r → RuleW T H r (lnm z i) (s + i) (.win ((i + 1) * e))
theorem LadAt.up {T : Tx K mg} {H H' : Hp} {t : Addr} {z : Str} {s e : Int} {n : Nat} (h : LadAt T H t z s e n) (q : Same H H') : LadAt T H' t z s e n := by
  obtain ⟨rs, h1, h2, h3⟩ := h
  exact ⟨rs, q _ _ h1, h2, fun i r hr => (h3 i r hr).up q⟩
def badS (v1 v2 v3 : V) : Bool := !numV v3 1 9 || (match v1, v2, v3 with
  | .int s, .int e, .int k => decide (1000 < s + k - 1) || decide (1000 < e * k)
  | _, _, _ => true)
def ladBad (v0 v1 v2 v3 : V) : Option (Er × V) :=
  if nameH v0 7 = false then some (.name, v0) else if numV v1 1 1000 = false then some (.num, v1) else if numV v2 1 1000 = false then some (.num, v2) else if badS v1 v2 v3 = true then some (.num, v3) else none
structure LadOk (v0 v1 v2 v3 : V) (z : Str) (s e : Int) (n : Nat) : Prop where
  e0 : v0 = .str z
  e1 : v1 = .int s
  e2 : v2 = .int e
  e3 : v3 = .int (n : Nat)
  nm : nameV (.str z) = true
  l7 : z.length ≤ 7
  s0 : 1 ≤ s
  n0 : 1 ≤ n
  n1 : n ≤ 9
  x0 : 1 ≤ e
  sn : s + n - 1 ≤ 1000
  en : e * n ≤ 1000
theorem ladOk_of {v0 v1 v2 v3 : V} (h : ladBad v0 v1 v2 v3 = none) : ∃ z s e n, LadOk v0 v1 v2 v3 z s e n := by
  unfold ladBad at h
  by_cases h0 : nameH v0 7 = false
  · rw [if_pos h0] at h; cases h
  rw [if_neg h0] at h
  by_cases h1 : numV v1 1 1000 = false
  · rw [if_pos h1] at h; cases h
  rw [if_neg h1] at h
  by_cases h2 : numV v2 1 1000 = false
  · rw [if_pos h2] at h; cases h
  rw [if_neg h2] at h
  by_cases h3 : badS v1 v2 v3 = true
  · rw [if_pos h3] at h; cases h
  obtain ⟨z, rfl, a1, a2⟩ := nameH_s (by simpa using h0)
  obtain ⟨s, rfl, b1, b2⟩ := numV_i (by simpa using h1)
  obtain ⟨e, rfl, c1, c2⟩ := numV_i (by simpa using h2)
  have h4 : numV v3 1 9 = true := by
    unfold badS at h3
    cases hq : numV v3 1 9 with
    | true => rfl
    | false => rw [hq] at h3; exact absurd rfl h3
  obtain ⟨k, rfl, d1, d2⟩ := numV_i h4
  obtain ⟨n, rfl⟩ := Int.eq_ofNat_of_zero_le (show 0 ≤ k by omega)
  have h5 : (!numV (.int (n : Int)) 1 9 || (decide (1000 < s + (n : Int) - 1) || decide (1000 < e * (n : Int)))) = false := by simpa [badS] using h3
  rw [h4] at h5
  simp only [Bool.not_true, Bool.false_or, Bool.or_eq_false_iff, decide_eq_false_iff_not] at h5
  exact ⟨z, s, e, n, rfl, rfl, rfl, rfl, a1, by omega, b1, by omega, by omega, c1, by omega, by omega⟩
theorem digit_text {k : Nat} (h : k ≤ 9) : Str.ofString (toString ((k : Nat) : Int)) = ⟨#[48 + k]⟩ := by
  have : k = 0 ∨ k = 1 ∨ k = 2 ∨ k = 3 ∨ k = 4 ∨ k = 5 ∨ k = 6 ∨ k = 7 ∨ k = 8 ∨ k = 9 := by omega
  rcases this with rfl | rfl | rfl | rfl | rfl | rfl | rfl | rfl | rfl | rfl <;> decide +kernel
theorem lnm_cps (z : Str) {k : Nat} (h : k ≤ 9) : (lnm z k).cps.toList = z.cps.toList ++ [48 + k] := by
  unfold lnm
  rw [PySem.Str.empty_append, digit_text h, PySem.Str.cps_append, Array.toList_append]
theorem lnm_len (z : Str) {k : Nat} (h : k ≤ 9) : (lnm z k).length = z.length + 1 := by
  rw [str_len, lnm_cps z h, str_len, List.length_append]
  rfl
theorem lnm_name {z : Str} {k : Nat} (h : k ≤ 9) (hn : nameV (.str z) = true) (h7 : z.length ≤ 7) : nameV (.str (lnm z k)) = true := by
  show nameD (lnm z k).cps.toList = true
  rw [lnm_cps z h]
  have hn : nameD z.cps.toList = true := hn
  have hl := str_len z
  cases hc : z.cps.toList with
  | nil => rw [hc] at hn; cases hn
  | cons c r =>
    rw [hc] at hn hl
    have hn : (decide (r.length + 1 ≤ 8) && inL c && (c :: r).all fun d => inL d || inD d) = true := hn
    rw [Bool.and_eq_true, Bool.and_eq_true] at hn
    show (decide ((r ++ [48 + k]).length + 1 ≤ 8) && inL c && (c :: (r ++ [48 + k])).all fun d => inL d || inD d) = true
    simp only [List.length_cons] at hl
    have hd : inD (48 + k) = true := decide_eq_true ((mem_digs _).mpr (by omega))
    have e : ((c :: (r ++ [48 + k])).all fun d => inL d || inD d) = true := by
      rw [← List.cons_append, List.all_append, hn.2]
      simp [hd]
    rw [hn.1.2, e, decide_eq_true (by rw [List.length_append]; simp; omega)]
    rfl
def spLad (T : Tx K mg) : Sp := fun vs H Q E => ∃ (v0 v1 v2 v3 : V), vs = [v0, v1, v2, v3] ∧ Gv H v0 ∧ Gv H v1 ∧ Gv H v2 ∧ Gv H v3 ∧ (∀ e v, ladBad v0 v1 v2 v3 = some (e, v) → Goes T H E e v) ∧
  (∀ z s e n, LadOk v0 v1 v2 v3 z s e n → ladBad v0 v1 v2 v3 = none → ∀ (t : Addr) (H' : Hp), Same H H' → LadAt T H' t z s e n → Q (.ref t) H')
theorem Goes.up {T : Tx K mg} {H H' : Hp} {E : XK} {e : Er} {v : V} (h : Goes T H E e v) (q : Same H H') : Goes T H' E e v := fun H2 d s hd => h H2 d (q.trans s) hd
theorem mul_le {i n : Nat} {e : Int} (h : i + 1 ≤ n) (he : 1 ≤ e) : 1 ≤ ((i : Int) + 1) * e ∧ ((i : Int) + 1) * e ≤ e * n := by
  have a : ((i : Int) + 1) * 1 ≤ ((i : Int) + 1) * e := Int.mul_le_mul_of_nonneg_left he (by omega)
  have b : ((i : Int) + 1) * e ≤ (n : Int) * e := Int.mul_le_mul_of_nonneg_right (by omega) (by omega)
  rw [Int.mul_comm e]
  omega
theorem ok_ladder (T : Tx K mg) : FnOk P w K mg base (L2.CX P w) 6 T.a_ladder T.fd_ladder P_ladder (spLad T) := by
  refine T.F_ladder.okX sc_ladder (fun vs H Q E h => ?_) (fun cdv A outer s H vs Q E hr h => ?_)
  · obtain ⟨v0, v1, v2, v3, rfl, _⟩ := h
    rfl
  · obtain ⟨v0, v1, v2, v3, rfl, g0, g1, g2, g3, kb, kg⟩ := h
    have nd := sc_ladder.nd
    refine ⟨_, (pss_cons (ps_if (PW.pt (pw_or (pt_not (pt_val (pe_call (ok_is_name T) (hr.mono (by first | decide | omega)) g_ladder_is_name T.m_is_name T.k_is_name T.b_is_name .nil pass0 (pa_cons (kv (i := 0) v_ladder_name) pa_nil)))) (pw_or1 (pt_cmpR op_gt (kcB b_len (by decide) (by decide) (kc_len K) g_ladder_len T.n_len (pa_cons (kv (i := 0) v_ladder_name) pa_nil)) pe_int (nomark _))))) (pss_one (ps_raise rfl (takes_of rfl rfl rfl rfl) (pmk_oex T.oex_InvalidName T.ii_InvalidName T.ti_InvalidName (ok_InvalidName_init T) (hr.mono (by first | decide | omega)) T.b_InvalidName_init .nil pass0 g_ladder_InvalidName T.m_InvalidName (pa_cons (kv (i := 0) v_ladder_name) pa_nil)))) pss_nil)
      (pss_cons (ps_for (passes_of rfl) rfl (kpi_tup K (pe_tup (pa_cons (kv (i := 1) v_ladder_size) (pa_cons (kv (i := 2) v_ladder_every) pa_nil)))) (kgL (i := 4) nd l_ladder_value) (pss_one (ps_if (pt_not (pt_val (pe_call (ok_is_number T) (hr.mono (by first | decide | omega)) g_ladder_is_number T.m_is_number T.k_is_number T.b_is_number .nil pass0 (pa_cons (kv (i := 4) v_ladder_value) (pa_cons pe_int (pa_cons pe_int pa_nil)))))) (pss_one (ps_raise rfl (takes_of rfl rfl rfl rfl) (pmk_oex T.oex_InvalidNumber T.ii_InvalidNumber T.ti_InvalidNumber (ok_InvalidNumber_init T) (hr.mono (by first | decide | omega)) T.b_InvalidNumber_init .nil pass0 g_ladder_InvalidNumber T.m_InvalidNumber (pa_cons (kv (i := 4) v_ladder_value) pa_nil)))) pss_nil)))
      (pss_cons (ps_if (PW.pt (pw_or (pt_not (pt_val (pe_call (ok_is_number T) (hr.mono (by first | decide | omega)) g_ladder_is_number T.m_is_number T.k_is_number T.b_is_number .nil pass0 (pa_cons (kv (i := 3) v_ladder_steps) (pa_cons pe_int (pa_cons pe_int pa_nil)))))) (pw_or (pt_cmpR op_gt (pe_op op_sub (pe_op kop_add (kv (i := 1) v_ladder_size) (kv (i := 3) v_ladder_steps)) pe_int) pe_int (nomark _)) (pw_or1 (pt_cmpR op_gt (pe_op op_mul (kv (i := 2) v_ladder_every) (kv (i := 3) v_ladder_steps)) pe_int (nomark _)))))) (pss_one (ps_raise rfl (takes_of rfl rfl rfl rfl) (pmk_oex T.oex_InvalidNumber T.ii_InvalidNumber T.ti_InvalidNumber (ok_InvalidNumber_init T) (hr.mono (by first | decide | omega)) T.b_InvalidNumber_init .nil pass0 g_ladder_InvalidNumber T.m_InvalidNumber (pa_cons (kv (i := 3) v_ladder_steps) pa_nil)))) pss_nil)
      (pss_one (ps_ret (pe_lc (own := [("k", 5)]) rfl nd (pi_range1 g_ladder_range T.n_range (pa_cons (kv (i := 3) v_ladder_steps) pa_nil)) ok_cs_ladder_1 (fun _ _ _ _ _ => (kgL (i := 5) nd l_ladder_1_k)) (fun _ _ _ _ _ => pts_nil) (fun _ _ _ _ _ => (pe_make T.mk_Rule (ok_Rule_init T) (hr.mono (by first | decide | omega)) g_ladder_1_Rule T.m_Rule T.b_Rule_init .nil passE (pa_cons (pe_joined (.cons (pe_fmt (kv (i := 0) v_ladder_1_name)) (.cons (pe_fmt (kv (i := 5) v_ladder_1_k)) .nil))) (pa_cons (pe_op kop_add (kv (i := 1) v_ladder_1_size) (kv (i := 5) v_ladder_1_k)) (pa_cons (pe_make T.mk_Window (ok_Window_init T) (hr.mono (by first | decide | omega)) g_ladder_1_Window T.m_Window T.b_Window_init .nil pass0 (pa_cons (pe_op op_mul (pe_op kop_add (kv (i := 5) v_ladder_1_k) pe_int) (kv (i := 2) v_ladder_1_every)) pa_nil)) pa_nil))))))))))), ?_⟩
    walk_at "ss"
    refine ⟨v0, rfl, g0, ?_⟩
    have bad0 : nameH v0 7 = false → Goes T H E .name v0 := fun h => kb _ _ (by unfold ladBad; rw [if_pos h])
    have goon : nameH v0 7 = true → (∀ D : Ends, D.rt = Q → True) → True := fun _ _ => trivial
    cases e0 : nameV v0 with
    | false =>
      walk_at "ss"
      show tMkO _ _ _ _ _ _ _
      refine k_mkO ?_
      walk_at "ss"
      exact raise_InvalidName T (bad0 (by unfold nameH; rw [e0]; rfl))
    | true =>
      obtain ⟨z, rfl, hz⟩ : ∃ z, v0 = .str z ∧ z.length ≤ 100 := by
        cases g0 <;> first | exact ⟨_, rfl, by assumption⟩ | cases e0
      walk_at "ss"
      refine k_lenS (small_size (by omega)) ?_
      walk_at "ss"
      refine k_d (fun h7 => ?_) (fun h7 => ?_)
      · walk_at "ss"
        show tMkO _ _ _ _ _ _ _
        refine k_mkO ?_
        walk_at "ss"
        refine raise_InvalidName T (bad0 ?_)
        show (nameV (.str z) && decide ((z.length : Int) ≤ 7)) = false
        rw [decide_eq_false (by omega), Bool.and_false]
      · have hn : nameH (.str z) 7 = true := by
          show (nameV (.str z) && decide ((z.length : Int) ≤ 7)) = true
          rw [e0, decide_eq_true (by omega)]; rfl
        walk_at "ss"
        intro tp ntp
        generalize eH : upd H tp _ = H1
        have s1 := upd_sm eH ntp
        have htp := upd_at eH
        clear eH
        refine k_iT (SqT.of htp) ?_
        refine k_forTup [v1, v2] (fun i σ H' => H1 = H' ∧ (∃ u1 u2, σ = [some (.str z), some v1, some v2, some v3, u1, u2]) ∧ (1 ≤ i → numV v1 1 1000 = true) ∧ (2 ≤ i → numV v2 1 1000 = true)) ⟨rfl, ⟨_, _, rfl⟩, fun h => absurd h (by decide), fun h => absurd h (by decide)⟩ ?_ ?_ ?_
        · rintro i σ H' _ ⟨rfl, _⟩
          exact SqT.of htp
        · rintro i x σ H' hx ⟨rfl, ⟨u1, u2, rfl⟩, n1, n2⟩
          have gx : Gv H1 x := by
            have hm := List.mem_of_getElem? hx
            simp only [List.mem_cons, List.not_mem_nil, or_false] at hm
            rcases hm with rfl | rfl
            · exact g1.up s1
            · exact g2.up s1
          walk_at "ss"
          refine ⟨x, 1, 1000, rfl, gx, ?_⟩
          cases ex : numV x 1 1000 with
          | false =>
            walk_at "ss"
            show tMkO _ _ _ _ _ _ _
            refine k_mkO ?_
            walk_at "ss"
            refine raise_InvalidNumber T ?_
            refine Goes.up (kb .num x ?_) s1
            unfold ladBad
            rw [if_neg (by rw [hn]; decide)]
            cases i with
            | zero =>
              obtain rfl : v1 = x := Option.some.inj hx
              rw [if_pos ex]
            | succ j =>
              cases j with
              | zero =>
                obtain rfl : v2 = x := Option.some.inj hx
                rw [if_neg (by rw [n1 (by omega)]; decide), if_pos ex]
              | succ j => cases j <;> cases hx
          | true =>
            walk_at "ss"
            refine ⟨rfl, ⟨_, _, rfl⟩, fun _ => ?_, fun h => ?_⟩
            · cases i with
              | zero =>
                obtain rfl : v1 = x := Option.some.inj hx
                exact ex
              | succ j => exact n1 (by omega)
            · cases i with
              | zero => exact absurd h (by decide)
              | succ j =>
                cases j with
                | zero =>
                  obtain rfl : v2 = x := Option.some.inj hx
                  exact ex
                | succ j => cases j <;> cases hx
        · rintro σ H' ⟨rfl, ⟨u1, u2, rfl⟩, n1, n2⟩
          obtain ⟨sz, rfl, hs0, hs1⟩ := numV_i (n1 (by simp))
          obtain ⟨ev, rfl, he0, he1⟩ := numV_i (n2 (by simp))
          have lb : ladBad (.str z) (.int sz) (.int ev) v3 = if badS (.int sz) (.int ev) v3 = true then some (.num, v3) else none := by
            unfold ladBad
            rw [if_neg (by rw [hn]; decide), if_neg (by rw [numV_t hs0 hs1]; decide), if_neg (by rw [numV_t he0 he1]; decide)]
          walk_at "ss"
          refine ⟨v3, 1, 9, rfl, g3.up s1, ?_⟩
          have bad3 : badS (.int sz) (.int ev) v3 = true → Goes T H1 E .num v3 := fun h => Goes.up (kb .num v3 (by rw [lb, if_pos h])) s1
          cases e3 : numV v3 1 9 with
          | false =>
            walk_at "ss"
            show tMkO _ _ _ _ _ _ _
            refine k_mkO ?_
            walk_at "ss"
            exact raise_InvalidNumber T (bad3 (by unfold badS; rw [e3]; rfl))
          | true =>
            obtain ⟨kk, rfl, hk0, hk1⟩ := numV_i e3
            obtain ⟨n, rfl⟩ := Int.eq_ofNat_of_zero_le (show 0 ≤ kk by omega)
            have eb : badS (.int sz) (.int ev) (.int (n : Int)) = (decide (1000 < sz + (n : Int) - 1) || decide (1000 < ev * (n : Int))) := by
              show (!numV (.int (n : Int)) 1 9 || _) = _
              rw [e3]; rfl
            walk_at "ss"
            refine k_d (fun h1 => ?_) (fun h1 => ?_)
            · walk_at "ss"
              show tMkO _ _ _ _ _ _ _
              refine k_mkO ?_
              walk_at "ss"
              exact raise_InvalidNumber T (bad3 (by rw [eb, decide_eq_true h1]; rfl))
            · walk_at "ss"
              refine k_d (fun h2 => ?_) (fun h2 => ?_)
              · walk_at "ss"
                show tMkO _ _ _ _ _ _ _
                refine k_mkO ?_
                walk_at "ss"
                exact raise_InvalidNumber T (bad3 (by rw [eb, decide_eq_true h2, Bool.or_true]))
              · have hnone : ladBad (.str z) (.int sz) (.int ev) (.int (n : Int)) = none := by
                  rw [lb, eb, decide_eq_false h1, decide_eq_false h2]; rfl
                have ok : LadOk (.str z) (.int sz) (.int ev) (.int (n : Int)) z sz ev n := ⟨rfl, rfl, rfl, rfl, e0, by omega, hs0, by omega, by omega, he0, by omega, by omega⟩
                walk_at "ss"
                refine k_r1 ⟨by omega, by omega⟩ ?_
                intro D nD
                refine k_lcRange (n := n) (fun i H' => ∃ rs : List Addr, H' D = some (.lst (rs.map V.ref)) ∧ rs.length = i ∧ Same H1 H' ∧ ∀ (j : Nat) (r : Addr), rs[j]? = some r → RuleW T H' r (lnm z j) (sz + j) (.win ((j + 1) * ev)))
                  ⟨[], upd_same, rfl, same_new nD, fun j r h => by simp at h⟩ ?_ ?_
                · rintro i H' hi ⟨rs, hD, hlen, sm, hrs⟩
                  have hm := mul_le (i := i) (n := n) (e := ev) (by omega) he0
                  have hln := lnm_len z (k := i) (by omega)
                  refine k_gName ?_
                  refine ⟨rfl, ?_⟩
                  walk_at "ss"
                  refine k_make ?_
                  walk_at "ss"
                  have lk : (Str.ofString (toString ((0 : Int) + (i : Nat)))).length ≤ 5 := len_text (k := 4) (by decide) (by omega)
                  refine k_fmtS (by omega) ?_
                  refine k_jsV (by simp only [PySem.Str.length_append, len_empty]; omega) ?_
                  walk_at "ss"
                  refine k_fmtI (by omega) ?_
                  refine k_jsV (by simp only [PySem.Str.length_append, len_empty]; omega) ?_
                  walk_at "ss"
                  refine k_make ?_
                  walk_at "ss"
                  intro x dx nx ndx ne
                  refine ⟨NoF, x, dx, ((0 : Int) + i + 1) * ev, rfl, by rw [Int.zero_add]; omega, by rw [Int.zero_add]; omega, upd_same, fun H2 sb2 hw => ⟨rfl, ?_⟩⟩
                  have s2 := SameBut.made nx ndx ne sb2
                  walk_at "ss"
                  intro y dy ny ndy ney
                  have s3 := same_made (C := T.C_Rule) (fs := []) ny ndy ney
                  have hw3 := hw.up s3
                  have enm : Str.empty ++ z ++ Str.ofString (toString ((0 : Int) + (i : Nat))) = lnm z i := by
                    rw [Int.zero_add]; rfl
                  rw [enm]
                  refine ⟨y, dy, _, _, _, rfl, upd_same, .str _ (by omega), .int _, .inr ⟨x, _, rfl, hw3.winTx⟩, fun h => ?_, fun _ h => ?_, fun _ _ h => ?_, fun _ _ _ => ⟨rfl, ?_⟩⟩
                  · rw [lnm_name (by omega) e0 (by omega)] at h; cases h
                  · rw [numV_t (by omega) (by omega)] at h; cases h
                  · exfalso
                    obtain ⟨C, dx9, ns9, vs9, _, _, he9⟩ := hw3.winTx
                    cases h with
                    | lst h => rw [he9] at h; cases h
                    | tup h => rw [he9] at h; cases h
                    | dic h => rw [he9] at h; cases h
                  · rw [upd_upd]
                    generalize eH : upd (upd H2 dy (.own y)) y _ = H3
                    have s23 : Same H2 H3 := by rw [← eH]; exact same_made ny ndy ney
                    have hy : H3 y = some (.ins T.C_Rule dy (FL nR [.str (lnm z i), .int (sz + (0 + (i : Int))), .ref x])) := by rw [← eH]; exact upd_same
                    clear eH
                    have hw4 := hw.up s23
                    have hD3 := s23 _ _ (s2 _ _ hD)
                    refine ⟨_, hD3, small_lt (by rw [List.length_map]; omega), rs ++ [y], by rw [upd_same, List.map_append]; rfl, by simp [hlen], same_put ((sm.trans s2).trans s23) nD, fun j r hr => ?_⟩
                    by_cases hj : j < rs.length
                    · rw [List.getElem?_append_left hj] at hr
                      exact (((hrs j r hr).up s2).up s23).put hD3
                    · rw [List.getElem?_append_right (by omega)] at hr
                      have hj2 : j - rs.length = 0 := by
                        have := (List.getElem?_eq_some_iff.mp hr).1
                        simp at this
                        omega
                      rw [hj2] at hr
                      obtain rfl : y = r := Option.some.inj hr
                      obtain rfl : j = i := by omega
                      refine RuleW.put ⟨dy, x, ?_, ?_⟩ hD3
                      · rw [hy, Int.zero_add]
                      · rw [Int.zero_add] at hw4; exact hw4
                · rintro H' ⟨rs, hD, hlen, sm, hrs⟩
                  exact kg z sz ev n ok hnone D H' (s1.trans sm) ⟨rs, hD, hlen, hrs⟩
end

section
variable {w : World} {K : PySem.W.Frag} {mg : Str → Option Value} {base : Heap}
def spWithin (T : Tx K mg) : Sp := fun vs H Q _ => ∃ (a u : Addr) (nm : Str) (c : Int) (p : Plan) (l : UL), vs = [.ref a, .ref u] ∧ RuleW T H a nm c p ∧ p.Ok ∧ UsesAt H u l ∧
  ∀ (v : Int) (st : Option Int) (H' : Hp), Same H H' → Full p (usL l) v st → Q (.bl (decide (v ≤ c))) H'
theorem ok_is_within (T : Tx K mg) : FnOk P w K mg base CX0 9 T.a_is_within T.fd_is_within P_is_within (spWithin T) := by
  refine T.F_is_within.ok sc_is_within (fun vs H Q E h => ?_) (fun cdv A outer s H vs Q E hr h => ?_)
  · obtain ⟨a, u, nm, c, p, l, rfl, _⟩ := h
    rfl
  · obtain ⟨a, u, nm, c, p, l, rfl, ⟨dx, r, hR, hr1⟩, op, hu, k⟩ := h
    have nd := sc_is_within.nd
    refine ⟨_, (pss_one (ps_ret (pe_cmpR op_le (pe_ix (kix K) (pe_call (ok_fullest T) (hr.mono (by first | decide | omega)) g_is_within_fullest T.m_fullest T.k_fullest T.b_fullest .nil pass0 (pa_cons (kpe_fld K (kv (i := 0) v_is_within_rule)) (pa_cons (kv (i := 1) v_is_within_uses) pa_nil))) pe_int (fun _ _ => rfl)) (kpe_fld K (kv (i := 0) v_is_within_rule)) (nomark _)))), ?_⟩
    walk_at "ss"
    refine k_fldAt hR T.cl_Rule T.no_Rule_rest (i := 2) (by decide +kernel) rfl ?_
    walk_at "ss"
    refine ⟨NoF, r, u, p, l, rfl, hr1, op, hu, fun v st t H1 sm ht hf => ?_⟩
    have hR1 := sm _ _ hR
    walk_at "ss"
    refine k_fldAt hR1 T.cl_Rule T.no_Rule_chips (i := 1) (by decide +kernel) rfl ?_
    walk_at "ss"
    exact k v st _ sm hf
/-! ### drawn values -/
theorem g_none {G0 G : Hp} {t : Addr} (sm : Same G0 G) (n : G t = none) : G0 t = none := by
  cases hz : G0 t with
  | none => rfl
  | some o => exact absurd (sm _ _ hz) (by rw [n]; intro z; cases z)
theorem k_disp1 {tk tv : TE} {σ : L2.St} {H : Hp} {Q : VK} (h : ∀ p, H p = none → tk σ (upd H p (.dK [])) fun x H1 => tv σ H1 fun y H2 => H2 p = some (.dK []) ∧ ∃ kvs : List (Key × V), [(x, y)] = kvs.map (fun kv => (kV kv.1, kv.2)) ∧ kvs.length ≤ 15 ∧ Q (.ref p) (upd H2 p (.dK (mergeK [] kvs)))) : tDisp [(tk, tv)] σ H Q := h
def It (G G' : Hp) (x : V) : Prop := ScB x ∨ ∃ a, x = .ref a ∧ G' a = some (.tup [.int 1, .int 2]) ∧ G a = none
theorem It.gd {F : Addr → Prop} {G G' : Hp} {x : V} (h : It G G' x) (hFG : ∀ a, F a → G a = none → False) : Gd F G' 1 x := by
  rcases h with h | ⟨a, rfl, h, n⟩
  · exact .inl h
  · refine .inr (.inl ⟨a, _, rfl, fun z => hFG a z n, .inr h, by decide, fun x hx => ?_⟩)
    simp only [List.mem_cons, List.not_mem_nil, or_false] at hx
    rcases hx with rfl | rfl <;> exact .int _
/-- data that is not the number 8 -/
def Ov (F : Addr → Prop) (G : Hp) (v : V) : Prop := Gd F G 2 v ∧ v ≠ .int 8
theorem ov {F : Addr → Prop} {G : Hp} {v : V} (h : Gd F G 2 v) (n : v ≠ .int 8 := by simp) : Ov F G v := ⟨h, n⟩
def spOdd (K : PySem.W.Frag) : Sp := fun vs H Q _ => ∃ (F : Addr → Prop) (G0 G : Hp) (b : Addr) (β : HO), vs = [.ref b] ∧ H = upd G b β ∧ Bag K G0 G b β ∧ (∀ a, F a → G a = none → False) ∧ ∀ (v : V) (G' : Hp) (β' : HO), Same G G' → Bag K G0 G' b β' → Ov F G' v → Q v (upd G' b β')
theorem ok_odd (T : Tx K mg) : FnOk P w K mg base CX0 3 T.a_odd T.fd_odd P_odd (spOdd K) := by
  refine T.F_odd.ok sc_odd (fun vs H Q E h => ?_) (fun cdv A outer s H vs Q E hr h => ?_)
  · obtain ⟨F, G0, G, b, β, rfl, _⟩ := h
    rfl
  · obtain ⟨F, G0, G, b, β, rfl, rfl, hb, hFG, k⟩ := h
    have nd := sc_odd.nd
    refine ⟨_, (pss_cons (ks_setL (i := 1) nd l_odd_law_pick (pe_call (ok_draw T) (hr.mono (by first | decide | omega)) g_odd_law_draw T.m_draw T.k_draw T.b_draw .nil pass0 (pa_cons (kv (i := 0) v_odd_law_bag_here) (pa_cons pe_int pa_nil))))
      (pss_cons (ps_if (pt_cmpR op_eq (kv (i := 1) v_odd_law_pick) pe_int (nomark _)) (pss_one (ps_ret (pe_call (ok_of T) (hr.mono (by first | decide | omega)) g_odd_law_of T.m_of T.k_of T.b_of .nil pass0 (pa_cons (kv (i := 0) v_odd_law_bag_here) (pa_cons (pe_lst (pa_cons pe_non (pa_cons pe_bl (pa_cons pe_bl pa_nil)))) pa_nil))))) pss_nil)
      (pss_cons (ps_if (pt_cmpR op_eq (kv (i := 1) v_odd_law_pick) pe_int (nomark _)) (pss_one (ps_ret (pe_call (ok_of T) (hr.mono (by first | decide | omega)) g_odd_law_of T.m_of T.k_of T.b_of .nil pass0 (pa_cons (kv (i := 0) v_odd_law_bag_here) (pa_cons (pe_lst (pa_cons pe_int (pa_cons pe_int (pa_cons (pe_un un_neg pe_int) (pa_cons pe_int (pa_cons pe_int (pa_cons pe_int (pa_cons pe_int (pa_cons (pe_un un_neg pe_int) pa_nil))))))))) pa_nil))))) pss_nil)
      (pss_cons (ps_if (pt_cmpR op_eq (kv (i := 1) v_odd_law_pick) pe_int (nomark _)) (pss_one (ps_ret (pe_call (ok_of T) (hr.mono (by first | decide | omega)) g_odd_law_of T.m_of T.k_of T.b_of .nil pass0 (pa_cons (kv (i := 0) v_odd_law_bag_here) (pa_cons (pe_lst (pa_cons pe_str (pa_cons pe_str (pa_cons pe_str (pa_cons pe_str (pa_cons pe_str (pa_cons pe_str (pa_cons pe_str (pa_cons pe_str pa_nil))))))))) pa_nil))))) pss_nil)
      (pss_cons (ps_if (pt_cmpR op_eq (kv (i := 1) v_odd_law_pick) pe_int (nomark _)) (pss_one (ps_ret (kcT b_tuple (by decide) (by decide) (kc_tuple K) g_odd_tuple T.n_tuple (pa_cons (pe_lc (own := [("_law_k", 2)]) rfl nd (pi_range1 g_odd_range T.n_range (pa_cons (pe_call (ok_draw T) (hr.mono (by first | decide | omega)) g_odd_law_draw T.m_draw T.k_draw T.b_draw .nil pass0 (pa_cons (kv (i := 0) v_odd_law_bag_here) (pa_cons pe_int pa_nil))) pa_nil)) ok_cs_odd_2 (fun _ _ _ _ _ => (kgL (i := 2) nd l_odd_2_law_k)) (fun _ _ _ _ _ => pts_nil) (fun _ _ _ _ _ => (pe_call (ok_of T) (hr.mono (by first | decide | omega)) g_odd_2_law_of T.m_of T.k_of T.b_of .nil pass0 (pa_cons (kv (i := 0) v_odd_2_law_bag_here) (pa_cons (pe_lst (pa_cons pe_int (pa_cons pe_str (pa_cons pe_non (pa_cons pe_bl (pa_cons pe_int pa_nil)))))) pa_nil))))) pa_nil)))) pss_nil)
      (pss_cons (ps_if (pt_cmpR op_eq (kv (i := 1) v_odd_law_pick) pe_int (nomark _)) (pss_one (ps_ret (pe_lc (own := [("_law_k", 2)]) rfl nd (pi_range1 g_odd_range T.n_range (pa_cons (pe_call (ok_draw T) (hr.mono (by first | decide | omega)) g_odd_law_draw T.m_draw T.k_draw T.b_draw .nil pass0 (pa_cons (kv (i := 0) v_odd_law_bag_here) (pa_cons pe_int pa_nil))) pa_nil)) ok_cs_odd_1 (fun _ _ _ _ _ => (kgL (i := 2) nd l_odd_1_law_k)) (fun _ _ _ _ _ => pts_nil) (fun _ _ _ _ _ => (pe_call (ok_of T) (hr.mono (by first | decide | omega)) g_odd_1_law_of T.m_of T.k_of T.b_of .nil pass0 (pa_cons (kv (i := 0) v_odd_1_law_bag_here) (pa_cons (pe_lst (pa_cons pe_int (pa_cons pe_str (pa_cons pe_non (pa_cons pe_bl (pa_cons (pe_tup (pa_cons pe_int (pa_cons pe_int pa_nil))) pa_nil)))))) pa_nil))))))) pss_nil)
      (pss_one (ps_ret (pe_call (ok_of T) (hr.mono (by first | decide | omega)) g_odd_law_of T.m_of T.k_of T.b_of .nil pass0 (pa_cons (kv (i := 0) v_odd_law_bag_here) (pa_cons (pe_lst (pa_cons pe_dnewK (pa_cons (pe_disp (pps_cons pe_str pe_int pps_nil) (by rfl) (by rfl) (fun z => by cases z) (by decide)) (pa_cons (pe_disp (pps_cons pe_int (pe_lst (pa_cons pe_int pa_nil)) pps_nil) (by rfl) (by rfl) (fun z => by cases z) (by decide)) (pa_cons (pe_disp (pps_cons pe_str (pe_disp (pps_cons pe_str (pe_tup (pa_cons pe_int (pa_cons pe_non pa_nil))) pps_nil) (by rfl) (by rfl) (fun z => by cases z) (by decide)) pps_nil) (by rfl) (by rfl) (fun z => by cases z) (by decide)) pa_nil))))) pa_nil))))))))))), ?_⟩
    walk_at "ss"
    refine k_draw hb (by decide) (by decide) fun pick β1 e0 e1 hb1 => ?_
    walk_at "ss"
    refine k_d (fun _ => ?_) (fun _ => ?_)
    · walk_at "ss"
      intro l nt_l
      rw [upd_swap (up_none nt_l).2]
      generalize eG_l : upd _ l _ = G1
      obtain ⟨nb1, sm1, hl, nt_l, nG_l⟩ := new_facts hb1.nb nt_l eG_l
      clear eG_l
      have hb2 := hb1.up sm1 nb1
      walk_at "ss"
      refine k_of hb2 (SqL.of hl) (by simp) (by simp) fun v β3 hv hb3 => ?_
      refine k v G1 β3 sm1 hb3 ?_
      simp only [List.mem_cons, List.not_mem_nil, or_false] at hv
      rcases hv with rfl | rfl | rfl
      · exact ov (Gd.sc .non 2)
      · exact ov (Gd.sc (.bl _) 2)
      · exact ov (Gd.sc (.bl _) 2)
    walk_at "ss"
    refine k_d (fun _ => ?_) (fun _ => ?_)
    · walk_at "ss"
      intro l nt_l
      rw [upd_swap (up_none nt_l).2]
      generalize eG_l : upd _ l _ = G1
      obtain ⟨nb1, sm1, hl, nt_l, nG_l⟩ := new_facts hb1.nb nt_l eG_l
      clear eG_l
      have hb2 := hb1.up sm1 nb1
      walk_at "ss"
      refine k_of hb2 (SqL.of hl) (by simp) (by simp) fun v β3 hv hb3 => ?_
      refine k v G1 β3 sm1 hb3 ?_
      simp only [List.mem_cons, List.not_mem_nil, or_false] at hv
      rcases hv with rfl | rfl | rfl | rfl | rfl | rfl | rfl | rfl <;> exact ov (Gd.sc (.int _) 2)
    walk_at "ss"
    refine k_d (fun _ => ?_) (fun _ => ?_)
    · walk_at "ss"
      intro l nt_l
      rw [upd_swap (up_none nt_l).2]
      generalize eG_l : upd _ l _ = G1
      obtain ⟨nb1, sm1, hl, nt_l, nG_l⟩ := new_facts hb1.nb nt_l eG_l
      clear eG_l
      have hb2 := hb1.up sm1 nb1
      walk_at "ss"
      refine k_of hb2 (SqL.of hl) (by simp) (by simp) fun v β3 hv hb3 => ?_
      refine k v G1 β3 sm1 hb3 ?_
      simp only [List.mem_cons, List.not_mem_nil, or_false] at hv
      rcases hv with rfl | rfl | rfl | rfl | rfl | rfl | rfl | rfl <;> exact ov (Gd.sc (.str _ (by decide +kernel)) 2)
    walk_at "ss"
    refine k_d (fun _ => ?_) (fun _ => ?_)
    · walk_at "ss"
      refine k_draw hb1 (by decide) (by decide) fun n β2 n0 n1 hb2 => ?_
      walk_at "ss"
      refine k_r1 ⟨by omega, by omega⟩ ?_
      intro D nD
      obtain ⟨nD1, nDb⟩ := up_none nD
      refine k_lcRange (n := n.toNat) (fun i H' => ∃ (xs : List V) (G' : Hp) (β' : HO), H' = upd G' b β' ∧ Bag K G0 G' b β' ∧ Same G G' ∧ G' D = some (.lst xs) ∧ xs.length = i ∧ ∀ x ∈ xs, ScB x)
        ⟨[], _, β2, upd_swap nDb, hb2.up (same_new nD1) (by rw [upd_ne (Ne.symm nDb)]; exact hb2.nb), same_new nD1, upd_same, rfl, fun x hx => (by cases hx)⟩ ?_ ?_
      · rintro i H' hi ⟨xs, G1, β3, rfl, hb3, sm1, hD, hlen, hall⟩
        refine k_gName ?_
        refine ⟨rfl, ?_⟩
        walk_at "ss"
        intro l nt_l
        rw [upd_swap (up_none nt_l).2]
        generalize eG_l : upd _ l _ = G2
        obtain ⟨nb2, sm2, hl, nt_l, nG_l⟩ := new_facts hb3.nb nt_l eG_l
        clear eG_l
        have hb4 := hb3.up sm2 nb2
        walk_at "ss"
        refine k_of hb4 (SqL.of hl) (by simp) (by simp) fun v β5 hv hb5 => ?_
        refine ⟨_, up_get hb5.nb (sm2 _ _ hD), small_lt (by omega), xs ++ [v], upd G2 D (.lst (xs ++ [v])), β5, upd_swap nDb, hb5.up0 (same_put hb5.sm (g_none hb.sm nD1)) (by rw [upd_ne (Ne.symm nDb)]; exact nb2), same_put (sm1.trans sm2) nD1, upd_same, by simp [hlen], fun x hx => ?_⟩
        rcases List.mem_append.mp hx with hx | hx
        · exact hall x hx
        · rw [List.mem_singleton.mp hx]
          simp only [List.mem_cons, List.not_mem_nil, or_false] at hv
          rcases hv with rfl | rfl | rfl | rfl | rfl <;> first | exact .int _ | exact .non | exact .bl _ | exact .str _ (by decide +kernel)
      · rintro H' ⟨xs, G1, β3, rfl, hb3, sm1, hD, hlen, hall⟩
        walk_at "ss"
        refine k_tupleL (SqL.of (up_get hb3.nb hD)) ?_
        intro t nt_t
        rw [upd_swap (up_none nt_t).2]
        generalize eG_t : upd _ t _ = G2
        obtain ⟨nb2, sm2, ht, nt_t, nG_t⟩ := new_facts hb3.nb nt_t eG_t
        clear eG_t
        exact k _ G2 β3 (sm1.trans sm2) (hb3.up sm2 nb2) (ov (.inr (.inl ⟨t, xs, rfl, fun z => hFG t z (g_none sm1 nG_t), .inr ht, by omega, fun x hx => Gd.sc (hall x hx) 1⟩)))
    walk_at "ss"
    refine k_d (fun _ => ?_) (fun _ => ?_)
    · walk_at "ss"
      refine k_draw hb1 (by decide) (by decide) fun n β2 n0 n1 hb2 => ?_
      walk_at "ss"
      refine k_r1 ⟨by omega, by omega⟩ ?_
      intro D nD
      obtain ⟨nD1, nDb⟩ := up_none nD
      refine k_lcRange (n := n.toNat) (fun i H' => ∃ (xs : List V) (G' : Hp) (β' : HO), H' = upd G' b β' ∧ Bag K G0 G' b β' ∧ Same G G' ∧ G' D = some (.lst xs) ∧ xs.length = i ∧ ∀ x ∈ xs, It G G' x)
        ⟨[], _, β2, upd_swap nDb, hb2.up (same_new nD1) (by rw [upd_ne (Ne.symm nDb)]; exact hb2.nb), same_new nD1, upd_same, rfl, fun x hx => (by cases hx)⟩ ?_ ?_
      · rintro i H' hi ⟨xs, G1, β3, rfl, hb3, sm1, hD, hlen, hall⟩
        refine k_gName ?_
        refine ⟨rfl, ?_⟩
        walk_at "ss"
        intro t nt_t
        rw [upd_swap (up_none nt_t).2]
        generalize eG_t : upd _ t _ = G2
        obtain ⟨nb2, sm2, ht, nt_t, nG_t⟩ := new_facts hb3.nb nt_t eG_t
        clear eG_t
        walk_at "ss"
        intro l nt_l
        rw [upd_swap (up_none nt_l).2]
        generalize eG_l : upd _ l _ = G3
        obtain ⟨nb3, sm3, hl, nt_l, nG_l⟩ := new_facts nb2 nt_l eG_l
        clear eG_l
        have hb4 := hb3.up (sm2.trans sm3) nb3
        walk_at "ss"
        refine k_of hb4 (SqL.of hl) (by simp) (by simp) fun v β5 hv hb5 => ?_
        have hD3 := sm3 _ _ (sm2 _ _ hD)
        refine ⟨_, up_get hb5.nb (sm3 _ _ (sm2 _ _ hD)), small_lt (by omega), xs ++ [v], upd G3 D (.lst (xs ++ [v])), β5, upd_swap nDb, hb5.up0 (same_put hb5.sm (g_none hb.sm nD1)) (by rw [upd_ne (Ne.symm nDb)]; exact nb3), same_put ((sm1.trans sm2).trans sm3) nD1, upd_same, by simp [hlen], fun x hx => ?_⟩
        rcases List.mem_append.mp hx with hx | hx
        · rcases hall x hx with h | ⟨a, rfl, h, n⟩
          · exact .inl h
          · have h3 := sm3 _ _ (sm2 _ _ h)
            exact .inr ⟨a, rfl, (upd_ne (ne_of h3 hD3 (by intro q; cases q))).trans h3, n⟩
        · rw [List.mem_singleton.mp hx]
          simp only [List.mem_cons, List.not_mem_nil, or_false] at hv
          rcases hv with rfl | rfl | rfl | rfl | rfl
          · exact .inl (.int _)
          · exact .inl (.str _ (by decide +kernel))
          · exact .inl .non
          · exact .inl (.bl _)
          · have h3 := sm3 _ _ ht
            exact .inr ⟨t, rfl, (upd_ne (ne_of h3 hD3 (by intro q; cases q))).trans h3, g_none sm1 nG_t⟩
      · rintro H' ⟨xs, G1, β3, rfl, hb3, sm1, hD, hlen, hall⟩
        walk_at "ss"
        exact k _ G1 β3 sm1 hb3 (ov (.inr (.inl ⟨D, xs, rfl, fun z => hFG D z nD1, .inl hD, by omega, fun x hx => (hall x hx).gd hFG⟩)))
    walk_at "ss"
    refine k_dnew ?_
    intro q1 nt_q1
    rw [upd_swap (up_none nt_q1).2]
    generalize eG_q1 : upd _ q1 _ = G1
    obtain ⟨nb1, sm1, hq1, nt_q1, nG_q1⟩ := new_facts hb1.nb nt_q1 eG_q1
    clear eG_q1
    walk_at "ss"
    refine k_disp1 ?_
    intro q2 nt_q2
    rw [upd_swap (up_none nt_q2).2]
    generalize eG_q2 : upd _ q2 _ = G2
    obtain ⟨nb2, sm2, hq2, nt_q2, nG_q2⟩ := new_facts nb1 nt_q2 eG_q2
    clear eG_q2
    walk_at "ss"
    refine ⟨(up_get nb2 hq2), [(.inr "a", _)], rfl, Nat.le_of_ble_eq_true rfl, ?_⟩
    rw [upd_swap nt_q2]
    generalize eG : upd G2 q2 _ = G3
    have s13 : Same G1 G3 := eG ▸ same_put sm2 nG_q2
    have hq2 := upd_at eG
    have nb3 : G3 b = none := by rw [← eG, upd_ne (Ne.symm nt_q2)]; exact nb2
    clear eG
    walk_at "ss"
    refine k_disp1 ?_
    intro q3 nt_q3
    rw [upd_swap (up_none nt_q3).2]
    generalize eG_q3 : upd _ q3 _ = G4
    obtain ⟨nb4, sm4, hq3, nt_q3, nG_q3⟩ := new_facts nb3 nt_q3 eG_q3
    clear eG_q3
    walk_at "ss"
    intro l5 nt_l5
    rw [upd_swap (up_none nt_l5).2]
    generalize eG_l5 : upd _ l5 _ = G5
    obtain ⟨nb5, sm5, hl5, nt_l5, nG_l5⟩ := new_facts nb4 nt_l5 eG_l5
    clear eG_l5
    refine ⟨(up_get nb5 (sm5 _ _ hq3)), [(.inl 1, _)], rfl, Nat.le_of_ble_eq_true rfl, ?_⟩
    rw [upd_swap nt_q3]
    generalize eG : upd G5 q3 _ = G6
    have s36 : Same G3 G6 := eG ▸ same_put (sm4.trans sm5) nG_q3
    have hq3 := upd_at eG
    have nb6 : G6 b = none := by rw [← eG, upd_ne (Ne.symm nt_q3)]; exact nb5
    clear eG
    walk_at "ss"
    refine k_disp1 ?_
    intro q4 nt_q4
    rw [upd_swap (up_none nt_q4).2]
    generalize eG_q4 : upd _ q4 _ = G7
    obtain ⟨nb7, sm7, hq4, nt_q4, nG_q4⟩ := new_facts nb6 nt_q4 eG_q4
    clear eG_q4
    walk_at "ss"
    refine k_disp1 ?_
    intro q5 nt_q5
    rw [upd_swap (up_none nt_q5).2]
    generalize eG_q5 : upd _ q5 _ = G8
    obtain ⟨nb8, sm8, hq5, nt_q5, nG_q5⟩ := new_facts nb7 nt_q5 eG_q5
    clear eG_q5
    walk_at "ss"
    intro t9 nt_t9
    rw [upd_swap (up_none nt_t9).2]
    generalize eG_t9 : upd _ t9 _ = G9
    obtain ⟨nb9, sm9, ht9, nt_t9, nG_t9⟩ := new_facts nb8 nt_t9 eG_t9
    clear eG_t9
    refine ⟨(up_get nb9 (sm9 _ _ hq5)), [(.inr "b", _)], rfl, Nat.le_of_ble_eq_true rfl, ?_⟩
    rw [upd_swap nt_q5]
    generalize eG : upd G9 q5 _ = GA
    have s7A : Same G7 GA := eG ▸ same_put (sm8.trans sm9) nG_q5
    have nbA : GA b = none := by rw [← eG, upd_ne (Ne.symm nt_q5)]; exact nb9
    clear eG
    refine ⟨(up_get nbA (s7A _ _ hq4)), [(.inr "a", _)], rfl, Nat.le_of_ble_eq_true rfl, ?_⟩
    rw [upd_swap nt_q4]
    generalize eG : upd GA q4 _ = GB
    have s6B : Same G6 GB := eG ▸ same_put (sm7.trans s7A) nG_q4
    have hq4 := upd_at eG
    have nbB : GB b = none := by rw [← eG, upd_ne (Ne.symm nt_q4)]; exact nbA
    clear eG
    walk_at "ss"
    intro l nt_l
    rw [upd_swap (up_none nt_l).2]
    generalize eG_l : upd _ l _ = GC
    obtain ⟨nbC, smC, hl, nt_l, nG_l⟩ := new_facts nbB nt_l eG_l
    clear eG_l
    have s3C := (s36.trans s6B).trans smC
    have s0C := (sm1.trans s13).trans s3C
    have hbC := hb1.up s0C nbC
    walk_at "ss"
    refine k_of hbC (SqL.of hl) (by simp) (by simp) fun v β3 hv hb3 => ?_
    refine k v GC β3 s0C hb3 ?_
    simp only [List.mem_cons, List.not_mem_nil, or_false] at hv
    rcases hv with rfl | rfl | rfl | rfl
    · exact ov (.inr (.inr ⟨q1, _, rfl, fun z => hFG q1 z nG_q1, (s13.trans s3C) _ _ hq1, .inl rfl⟩))
    · exact ov (.inr (.inr ⟨q2, _, rfl, fun z => hFG q2 z (g_none sm1 nG_q2), s3C _ _ hq2, .inr ⟨_, _, rfl, .inl rfl⟩⟩))
    · exact ov (.inr (.inr ⟨q3, _, rfl, fun z => hFG q3 z (g_none (sm1.trans s13) nG_q3), (s6B.trans smC) _ _ hq3, .inr ⟨_, _, rfl, .inr ⟨_, rfl⟩⟩⟩))
    · exact ov (.inr (.inr ⟨q4, _, rfl, fun z => hFG q4 z (g_none ((sm1.trans s13).trans s36) nG_q4), smC _ _ hq4, .inr ⟨_, _, rfl, .inr ⟨_, rfl⟩⟩⟩))
theorem ok_wrong (T : Tx K mg) : FnOk P w K mg base CX0 4 T.a_wrong T.fd_wrong P_wrong (spOdd K) := by
  refine T.F_wrong.ok sc_wrong (fun vs H Q E h => ?_) (fun cdv A outer s H vs Q E hr h => ?_)
  · obtain ⟨F, G0, G, b, β, rfl, _⟩ := h
    rfl
  · obtain ⟨F, G0, G, b, β, rfl, rfl, hb, hFG, k⟩ := h
    have nd := sc_wrong.nd
    refine ⟨_, (pss_one (ps_ret (pe_call (ok_of T) (hr.mono (by first | decide | omega)) g_wrong_law_of T.m_of T.k_of T.b_of .nil pass0 (pa_cons (kv (i := 0) v_wrong_law_bag_here) (pa_cons (pe_lst (pa_cons pe_int (pa_cons (pe_un un_neg pe_int) (pa_cons pe_int (pa_cons pe_bl (pa_cons pe_non (pa_cons pe_str (pa_cons (pe_tup (pa_cons pe_int pa_nil)) (pa_cons pe_str (pa_cons pe_str (pa_cons pe_str (pa_cons pe_str (pa_cons pe_str (pa_cons (pe_call (ok_odd T) (hr.mono (by first | decide | omega)) g_wrong_law_odd T.m_odd T.k_odd T.b_odd .nil pass0 (pa_cons (kv (i := 0) v_wrong_law_bag_here) pa_nil)) pa_nil)))))))))))))) pa_nil))))), ?_⟩
    walk_at "ss"
    intro t1 nt_t1
    rw [upd_swap (up_none nt_t1).2]
    generalize eG_t1 : upd _ t1 _ = G1
    obtain ⟨nb1, sm1, ht1, nt_t1, nG_t1⟩ := new_facts hb.nb nt_t1 eG_t1
    clear eG_t1
    have hb1 := hb.up sm1 nb1
    walk_at "ss"
    refine ⟨F, G0, G1, b, β, rfl, rfl, hb1, fun a z n => hFG a z (g_none sm1 n), fun vo G2 β2 sm2 hb2 hvo => ?_⟩
    walk_at "ss"
    intro l nt_l
    rw [upd_swap (up_none nt_l).2]
    generalize eG_l : upd _ l _ = G3
    obtain ⟨nb3, sm3, hl, nt_l, nG_l⟩ := new_facts hb2.nb nt_l eG_l
    clear eG_l
    have hb3 := hb2.up sm3 nb3
    walk_at "ss"
    refine k_of hb3 (SqL.of hl) (by simp) (by simp) fun v β4 hv hb4 => ?_
    refine k v G3 β4 ((sm1.trans sm2).trans sm3) hb4 ?_
    simp only [List.mem_cons, List.not_mem_nil, or_false] at hv
    rcases hv with rfl | rfl | rfl | rfl | rfl | rfl | rfl | rfl | rfl | rfl | rfl | rfl | rfl
    · exact ov (Gd.sc (.int _) 2)
    · exact ov (Gd.sc (.int _) 2)
    · exact ov (Gd.sc (.int _) 2)
    · exact ov (Gd.sc (.bl _) 2)
    · exact ov (Gd.sc .non 2)
    · exact ov (Gd.sc (.str _ (by decide +kernel)) 2)
    · refine ov (.inr (.inl ⟨t1, _, rfl, fun z => hFG t1 z nG_t1, .inr (sm3 _ _ (sm2 _ _ ht1)), by decide, fun x hx => ?_⟩))
      rw [List.mem_singleton.mp hx]
      exact Gd.sc (.int _) 1
    · exact ov (Gd.sc (.str _ (by decide +kernel)) 2)
    · exact ov (Gd.sc (.str _ (by decide +kernel)) 2)
    · exact ov (Gd.sc (.str _ (by decide +kernel)) 2)
    · exact ov (Gd.sc (.str _ (by decide +kernel)) 2)
    · exact ov (Gd.sc (.str _ (by decide +kernel)) 2)
    · exact ⟨hvo.1.up sm3, hvo.2⟩
end

section
variable {w : World} {K : PySem.W.Frag} {mg : Str → Option Value} {base : Heap}
/-! ### the arguments of a ladder -/
abbrev OnlyL (L : Addr) : Addr → Prop := fun a => a = L
theorem keep_put {L : Addr} {G : Hp} {o : HO} : Keep (OnlyL L) G (upd G L o) := fun a u n h _ => by
  rw [upd_ne n]
  exact h
/-- the list of parts at L, its values as data -/
def PartsAt (G : Hp) (L : Addr) (vs : List V) : Prop := G L = some (.lst vs) ∧ ∀ v ∈ vs, Gd (OnlyL L) G 2 v
def spGiven (K : PySem.W.Frag) : Sp := fun vs H Q _ => ∃ (G0 G : Hp) (b : Addr) (β : HO), vs = [.ref b] ∧ H = upd G b β ∧ Bag K G0 G b β ∧
  ∀ (L : Addr) (v0 v1 v2 v3 : V) (G' : Hp) (β' : HO), Same G G' → Bag K G0 G' b β' → PartsAt G' L [v0, v1, v2, v3] → Q (.ref L) (upd G' b β')
theorem set4 {v0 v1 v2 v3 x : V} {d : Int} (d0 : 0 ≤ d) (d1 : d < 4) : ∃ (j : Nat) (u0 u1 u2 u3 : V), ixN 4 d = some j ∧ [v0, v1, v2, v3].set j x = [u0, u1, u2, u3] ∧ ∀ u ∈ [u0, u1, u2, u3], u = x ∨ u ∈ [v0, v1, v2, v3] := by
  have h : d = 0 ∨ d = 1 ∨ d = 2 ∨ d = 3 := by omega
  rcases h with rfl | rfl | rfl | rfl
  · exact ⟨0, _, _, _, _, rfl, rfl, fun u hu => by
      simp only [List.mem_cons, List.not_mem_nil, or_false] at hu ⊢
      rcases hu with rfl | rfl | rfl | rfl <;> simp⟩
  · exact ⟨1, _, _, _, _, rfl, rfl, fun u hu => by
      simp only [List.mem_cons, List.not_mem_nil, or_false] at hu ⊢
      rcases hu with rfl | rfl | rfl | rfl <;> simp⟩
  · exact ⟨2, _, _, _, _, rfl, rfl, fun u hu => by
      simp only [List.mem_cons, List.not_mem_nil, or_false] at hu ⊢
      rcases hu with rfl | rfl | rfl | rfl <;> simp⟩
  · exact ⟨3, _, _, _, _, rfl, rfl, fun u hu => by
      simp only [List.mem_cons, List.not_mem_nil, or_false] at hu ⊢
      rcases hu with rfl | rfl | rfl | rfl <;> simp⟩
/-- a bag whose list L is changed -/
theorem Bag.put {G0 G : Hp} {b L : Addr} {β o : HO} (hb : Bag K G0 G b β) (nL : G0 L = none) (ne : L ≠ b) : Bag K G0 (upd G L o) b β := hb.up0 (same_put hb.sm nL) (by rw [upd_ne (Ne.symm ne)]; exact hb.nb)
theorem PartsAt.put {G : Hp} {L : Addr} {vs us : List V} {x : V} (h : PartsAt G L vs) (hx : Gd (OnlyL L) G 2 x) (hu : ∀ u ∈ us, u = x ∨ u ∈ vs) : PartsAt (upd G L (.lst us)) L us :=
  ⟨upd_same, fun u m => ((hu u m).elim (fun e => by rw [e]; exact hx) (fun m => h.2 u m)).keep keep_put⟩
theorem PartsAt.up {G G' : Hp} {L : Addr} {vs : List V} (h : PartsAt G L vs) (e : Same G G') : PartsAt G' L vs := ⟨e _ _ h.1, fun v hv => (h.2 v hv).up e⟩
theorem ok_given (T : Tx K mg) : FnOk P w K mg base CX0 5 T.a_given T.fd_given P_given (spGiven K) := by
  refine T.F_given.ok sc_given (fun vs H Q E h => ?_) (fun cdv A outer s H vs Q E hr h => ?_)
  · obtain ⟨G0, G, b, β, rfl, _⟩ := h
    rfl
  · obtain ⟨G0, G, b, β, rfl, rfl, hb, k⟩ := h
    have nd := sc_given.nd
    refine ⟨_, (pss_cons (ks_setL (i := 1) nd l_given_law_small (pe_cmpR op_gt (pe_call (ok_draw T) (hr.mono (by first | decide | omega)) g_given_law_draw T.m_draw T.k_draw T.b_draw .nil pass0 (pa_cons (kv (i := 0) v_given_law_bag_here) (pa_cons pe_int pa_nil))) pe_int (nomark _)))
      (pss_cons (ks_setL (i := 2) nd l_given_law_parts (pe_lst (pa_cons (pe_call (ok_of T) (hr.mono (by first | decide | omega)) g_given_law_of T.m_of T.k_of T.b_of .nil pass0 (pa_cons (kv (i := 0) v_given_law_bag_here) (pa_cons (pe_lst (pa_cons pe_str (pa_cons pe_str (pa_cons pe_str (pa_cons pe_str (pa_cons pe_str pa_nil)))))) pa_nil))) (pa_cons (pe_op kop_add pe_int (pe_call (ok_draw T) (hr.mono (by first | decide | omega)) g_given_law_draw T.m_draw T.k_draw T.b_draw .nil pass0 (pa_cons (kv (i := 0) v_given_law_bag_here) (pa_cons pe_int pa_nil)))) (pa_cons (pe_op kop_add pe_int (pe_call (ok_draw T) (hr.mono (by first | decide | omega)) g_given_law_draw T.m_draw T.k_draw T.b_draw .nil pass0 (pa_cons (kv (i := 0) v_given_law_bag_here) (pa_cons pe_int pa_nil)))) (pa_cons (pe_op kop_add pe_int (pe_call (ok_draw T) (hr.mono (by first | decide | omega)) g_given_law_draw T.m_draw T.k_draw T.b_draw .nil pass0 (pa_cons (kv (i := 0) v_given_law_bag_here) (pa_cons pe_int pa_nil)))) pa_nil))))))
      (kss_meet (ps_if (pt_not (pt_val (kv (i := 1) v_given_law_small))) (pss_cons (ps_asg (pe_op kop_add pe_int (pe_call (ok_draw T) (hr.mono (by first | decide | omega)) g_given_law_draw T.m_draw T.k_draw T.b_draw .nil pass0 (pa_cons (kv (i := 0) v_given_law_bag_here) (pa_cons pe_int pa_nil)))) (pg_sub (kv (i := 2) v_given_law_parts) pe_int set_list))
      (pss_cons (ps_asg (pe_call (ok_of T) (hr.mono (by first | decide | omega)) g_given_law_of T.m_of T.k_of T.b_of .nil pass0 (pa_cons (kv (i := 0) v_given_law_bag_here) (pa_cons (pe_lst (pa_cons pe_int (pa_cons pe_int (pa_cons (pe_op op_sub pe_int (pe_ix (kix K) (kv (i := 2) v_given_law_parts) pe_int (fun _ _ => rfl))) (pa_cons pe_int (pa_cons (pe_op op_sub pe_int (pe_ix (kix K) (kv (i := 2) v_given_law_parts) pe_int (fun _ _ => rfl))) (pa_cons pe_int pa_nil))))))) pa_nil))) (pg_sub (kv (i := 2) v_given_law_parts) pe_int set_list))
      (pss_one (ps_asg (pe_call (ok_of T) (hr.mono (by first | decide | omega)) g_given_law_of T.m_of T.k_of T.b_of .nil pass0 (pa_cons (kv (i := 0) v_given_law_bag_here) (pa_cons (pe_lst (pa_cons (pe_op op_fdiv pe_int (pe_ix (kix K) (kv (i := 2) v_given_law_parts) pe_int (fun _ _ => rfl))) (pa_cons (pe_op kop_add (pe_op op_fdiv pe_int (pe_ix (kix K) (kv (i := 2) v_given_law_parts) pe_int (fun _ _ => rfl))) pe_int) (pa_cons pe_int (pa_cons pe_int (pa_cons pe_int pa_nil)))))) pa_nil))) (pg_sub (kv (i := 2) v_given_law_parts) pe_int set_list))))) pss_nil)
      (pss_cons (ps_for PassesOwn.never rfl (pi_range1 g_given_range T.n_range (pa_cons (pe_call (ok_of T) (hr.mono (by first | decide | omega)) g_given_law_of T.m_of T.k_of T.b_of .nil pass0 (pa_cons (kv (i := 0) v_given_law_bag_here) (pa_cons (pe_lst (pa_cons pe_int (pa_cons pe_int (pa_cons pe_int (pa_cons pe_int (pa_cons pe_int pa_nil)))))) pa_nil))) pa_nil)) (kgL (i := 3) nd l_given_law_k) (pss_one (ps_asg (pe_call (ok_wrong T) (hr.mono (by first | decide | omega)) g_given_law_wrong T.m_wrong T.k_wrong T.b_wrong .nil pass0 (pa_cons (kv (i := 0) v_given_law_bag_here) pa_nil)) (pg_sub (kv (i := 2) v_given_law_parts) (pe_call (ok_draw T) (hr.mono (by first | decide | omega)) g_given_law_draw T.m_draw T.k_draw T.b_draw .nil pass0 (pa_cons (kv (i := 0) v_given_law_bag_here) (pa_cons pe_int pa_nil))) set_list))))
      (pss_one (ps_ret (kv (i := 2) v_given_law_parts))))))), ?_⟩
    walk_at "ss"
    refine k_draw hb (by decide) (by decide) fun d0 β0 _ _ hb => ?_
    walk_at "ss"
    intro t1 nt_t1
    rw [upd_swap (up_none nt_t1).2]
    generalize eG_t1 : upd _ t1 _ = G1
    obtain ⟨nb1, sm1, ht1, nt_t1, nG_t1⟩ := new_facts hb.nb nt_t1 eG_t1
    clear eG_t1
    have hb1 := hb.up sm1 nb1
    walk_at "ss"
    refine k_of hb1 (SqL.of ht1) (by simp) (by simp) fun v0 β1 hv0 hb1 => ?_
    have gv0 : ScB v0 := by
      simp only [List.mem_cons, List.not_mem_nil, or_false] at hv0
      rcases hv0 with rfl | rfl | rfl | rfl | rfl <;> exact .str _ (by decide +kernel)
    walk_at "ss"
    refine k_draw hb1 (by decide) (by decide) fun d1 β2 _ _ hb1 => ?_
    walk_at "ss"
    refine k_draw hb1 (by decide) (by decide) fun d2 β3 _ _ hb1 => ?_
    walk_at "ss"
    refine k_draw hb1 (by decide) (by decide) fun d3 β4 _ _ hb1 => ?_
    walk_at "ss"
    intro L nt_L
    rw [upd_swap (up_none nt_L).2]
    generalize eG_L : upd _ L _ = G2
    obtain ⟨nb2, sm2, hL, nt_L, nG_L⟩ := new_facts nb1 nt_L eG_L
    clear eG_L
    have hb2 := hb1.up sm2 nb2
    have sm12 := sm1.trans sm2
    have nL0 : G0 L = none := g_none hb1.sm nG_L
    have nLG : G L = none := g_none sm1 nG_L
    have hP : PartsAt G2 L [v0, .int (1 + d1), .int (1 + d2), .int (1 + d3)] := ⟨hL, fun v hv => by
      simp only [List.mem_cons, List.not_mem_nil, or_false] at hv
      rcases hv with rfl | rfl | rfl | rfl
      · exact Gd.sc gv0 2
      · exact Gd.sc (.int _) 2
      · exact Gd.sc (.int _) 2
      · exact Gd.sc (.int _) 2⟩
    walk_at "ss"
    refine k_meet (fun σ H' => ∃ (v0 v1 v2 v3 : V) (G' : Hp) (β' : HO) (sv : V), σ = [some (.ref b), some sv, some (.ref L), none] ∧ H' = upd G' b β' ∧ Bag K G0 G' b β' ∧ Same G G' ∧ PartsAt G' L [v0, v1, v2, v3]) ?_ ?_
    · walk_at "ss"
      refine k_b (fun hs => ?_) (fun hs => ?_)
      · walk_at "ss"
        refine k_draw hb2 (by decide) (by decide) fun n β5 n0 n1 hb2 => ?_
        have hLu := up_get (β := β5) hb2.nb hP.1
        walk_at "ss"
        rw [upd_swap nt_L]
        generalize eG : upd G2 L _ = G3
        have hP3 : PartsAt G3 L [v0, .int (1 + d1), .int (1 + d2), .int (1 + n)] := by
          rw [← eG]
          exact hP.put (us := [v0, .int (1 + d1), .int (1 + d2), .int (1 + n)]) (x := .int (1 + n)) (Gd.sc (.int _) 2) (fun u hu => by
            simp only [List.mem_cons, List.not_mem_nil, or_false] at hu ⊢
            rcases hu with rfl | rfl | rfl | rfl <;> simp)
        have hb3 : Bag K G0 G3 b β5 := by rw [← eG]; exact hb2.put nL0 nt_L
        have s3 : Same G G3 := by rw [← eG]; exact same_put sm12 nLG
        clear eG
        intro t4 nt_t4
        rw [upd_swap (up_none nt_t4).2]
        generalize eG_t4 : upd _ t4 _ = G4
        obtain ⟨nb4, sm4, ht4, nt_t4, nG_t4⟩ := new_facts hb3.nb nt_t4 eG_t4
        clear eG_t4
        have hb4 := hb3.up sm4 nb4
        walk_at "ss"
        refine k_of hb4 (SqL.of ht4) (by simp) (by simp) fun vs1 β6 hvs1 hb4 => ?_
        have gs1 : ScB vs1 := by
          simp only [List.mem_cons, List.not_mem_nil, or_false] at hvs1
          rcases hvs1 with rfl | rfl | rfl | rfl | rfl | rfl <;> exact .int _
        have hP4 := hP3.up sm4
        have hLu4 := up_get (β := β6) hb4.nb hP4.1
        walk_at "ss"
        rw [upd_swap nt_L]
        generalize eG : upd G4 L _ = G5
        have hP5 : PartsAt G5 L [v0, vs1, .int (1 + d2), .int (1 + n)] := by
          rw [← eG]
          exact hP4.put (us := [v0, vs1, .int (1 + d2), .int (1 + n)]) (x := vs1) (Gd.sc gs1 2) (fun u hu => by
            simp only [List.mem_cons, List.not_mem_nil, or_false] at hu ⊢
            rcases hu with rfl | rfl | rfl | rfl <;> simp)
        have hb5 : Bag K G0 G5 b β6 := by rw [← eG]; exact hb4.put nL0 nt_L
        have s5 : Same G G5 := by rw [← eG]; exact same_put (s3.trans sm4) nLG
        clear eG
        have hLu5 := up_get (β := β6) hb5.nb hP5.1
        walk_at "ss"
        intro t6 nt_t6
        rw [upd_swap (up_none nt_t6).2]
        generalize eG_t6 : upd _ t6 _ = G6
        obtain ⟨nb6, sm6, ht6, nt_t6, nG_t6⟩ := new_facts hb5.nb nt_t6 eG_t6
        clear eG_t6
        have hb6 := hb5.up sm6 nb6
        walk_at "ss"
        refine k_of hb6 (SqL.of ht6) (by simp) (by simp) fun vs2 β7 hvs2 hb6 => ?_
        have gs2 : ScB vs2 := by
          simp only [List.mem_cons, List.not_mem_nil, or_false] at hvs2
          rcases hvs2 with rfl | rfl | rfl | rfl | rfl <;> exact .int _
        have hP6 := hP5.up sm6
        have hLu6 := up_get (β := β7) hb6.nb hP6.1
        walk_at "ss"
        rw [upd_swap nt_L]
        generalize eG : upd G6 L _ = G7
        have hP7 : PartsAt G7 L [v0, vs1, vs2, .int (1 + n)] := by
          rw [← eG]
          exact hP6.put (us := [v0, vs1, vs2, .int (1 + n)]) (x := vs2) (Gd.sc gs2 2) (fun u hu => by
            simp only [List.mem_cons, List.not_mem_nil, or_false] at hu ⊢
            rcases hu with rfl | rfl | rfl | rfl <;> simp)
        have hb7 : Bag K G0 G7 b β7 := by rw [← eG]; exact hb6.put nL0 nt_L
        have s7 : Same G G7 := by rw [← eG]; exact same_put (s5.trans sm6) nLG
        exact ⟨_, _, _, _, G7, β7, _, rfl, rfl, hb7, s7, hP7⟩
      · walk_at "ss"
        exact ⟨_, _, _, _, G2, β4, _, rfl, rfl, hb2, sm12, hP⟩
    · rintro σ H' ⟨v0, v1, v2, v3, G3, β5, sv, rfl, rfl, hb3, sm3, hP3⟩
      walk_at "ss"
      intro t2 nt_t2
      rw [upd_swap (up_none nt_t2).2]
      generalize eG_t2 : upd _ t2 _ = G4
      obtain ⟨nb4, sm4, ht2, nt_t2, nG_t2⟩ := new_facts hb3.nb nt_t2 eG_t2
      clear eG_t2
      have hb4 := hb3.up sm4 nb4
      walk_at "ss"
      refine k_of hb4 (SqL.of ht2) (by simp) (by simp) fun vn β6 hvn hb4 => ?_
      obtain ⟨n, rfl, hn0, hn1⟩ : ∃ n : Int, vn = .int n ∧ 0 ≤ n ∧ n ≤ 2 := by
        simp only [List.mem_cons, List.not_mem_nil, or_false] at hvn
        rcases hvn with rfl | rfl | rfl | rfl | rfl <;> exact ⟨_, rfl, by decide, by decide⟩
      walk_at "ss"
      refine k_r1 ⟨by omega, by omega⟩ ?_
      refine k_forRange (fun i σ H' => ∃ (v0 v1 v2 v3 : V) (G' : Hp) (β' : HO) (u : Option V), σ = [some (.ref b), some sv, some (.ref L), u] ∧ H' = upd G' b β' ∧ Bag K G0 G' b β' ∧ Same G G' ∧ PartsAt G' L [v0, v1, v2, v3]) ⟨v0, v1, v2, v3, G4, β6, none, rfl, rfl, hb4, sm3.trans sm4, hP3.up sm4⟩ ?_ ?_
      · rintro i σ H' _ ⟨v0, v1, v2, v3, G5, β7, u, rfl, rfl, hb5, sm5, hP5⟩
        walk_at "ss"
        refine ⟨OnlyL L, G0, G5, b, β7, rfl, rfl, hb5, fun a z n => ?_, fun v G6 β8 sm6 hb6 hv => ?_⟩
        · rw [z, hP5.1] at n; cases n
        · walk_at "ss"
          refine k_draw hb6 (by decide) (by decide) fun d β9 e0 e1 hb6 => ?_
          obtain ⟨j, u0, u1, u2, u3, ej, es, hu⟩ := set4 (v0 := v0) (v1 := v1) (v2 := v2) (v3 := v3) (x := v) e0 e1
          have hP6 := hP5.up sm6
          refine k_setL (up_get hb6.nb hP6.1) (by exact ej) ?_
          rw [es, upd_swap nt_L]
          exact ⟨u0, u1, u2, u3, _, _, _, rfl, rfl, hb6.put nL0 nt_L, same_put (sm5.trans sm6) nLG, hP6.put hv.1 hu⟩
      · rintro σ H' ⟨v0, v1, v2, v3, G5, β7, u, rfl, rfl, hb5, sm5, hP5⟩
        walk_at "ss"
        exact k L v0 v1 v2 v3 G5 β7 sm5 hb5 hP5
end

section
variable {w : World} {K : PySem.W.Frag} {mg : Str → Option Value} {base : Heap}
/-! ### the error that is due -/
def spDue (K : PySem.W.Frag) : Sp := fun vs H Q _ => ∃ (L : Addr) (v0 v1 v2 v3 : V), vs = [.ref L] ∧ H L = some (.lst [v0, v1, v2, v3]) ∧ Gv H v0 ∧ Gv H v1 ∧ Gv H v2 ∧ Gv H v3 ∧ (ladBad v0 v1 v2 v3 = none → ∀ H', Same H H' → Q .non H') ∧
  (∀ (e : Er) (v : V), ladBad v0 v1 v2 v3 = some (e, v) → ∀ (f : Addr) (H' : Hp), Same H H' → H' f = some (.lst [.str e.S, v]) → Q (.ref f) H')
theorem ok_ladder_due (T : Tx K mg) : FnOk P w K mg base CX0 3 T.a_ladder_due T.fd_ladder_due P_ladder_due (spDue K) := by
  refine T.F_ladder_due.ok sc_ladder_due (fun vs H Q E h => ?_) (fun cdv A outer s H vs Q E hr h => ?_)
  · obtain ⟨L, v0, v1, v2, v3, rfl, _⟩ := h
    rfl
  · obtain ⟨L, v0, v1, v2, v3, rfl, hL, g0, g1, g2, g3, kn, kb⟩ := h
    have nd := sc_ladder_due.nd
    refine ⟨_, (pss_cons (ps_if (pt_not (pt_val (pe_call (ok_named T) (hr.mono (by first | decide | omega)) g_ladder_due_law_named T.m_named T.k_named T.b_named .nil pass0 (pa_cons (pe_ix (kix K) (kv (i := 0) v_ladder_due_law_parts) pe_int (fun _ _ => rfl)) (pa_cons pe_int pa_nil))))) (pss_one (ps_ret (pe_lst (pa_cons pe_str (pa_cons (pe_ix (kix K) (kv (i := 0) v_ladder_due_law_parts) pe_int (fun _ _ => rfl)) pa_nil))))) pss_nil)
      (pss_cons (ps_if (pt_not (pt_val (pe_call (ok_in T) (hr.mono (by first | decide | omega)) g_ladder_due_law_in T.m_in T.k_in T.b_in .nil pass0 (pa_cons (pe_ix (kix K) (kv (i := 0) v_ladder_due_law_parts) pe_int (fun _ _ => rfl)) (pa_cons pe_int pa_nil))))) (pss_one (ps_ret (pe_lst (pa_cons pe_str (pa_cons (pe_ix (kix K) (kv (i := 0) v_ladder_due_law_parts) pe_int (fun _ _ => rfl)) pa_nil))))) pss_nil)
      (pss_cons (ps_if (pt_not (pt_val (pe_call (ok_in T) (hr.mono (by first | decide | omega)) g_ladder_due_law_in T.m_in T.k_in T.b_in .nil pass0 (pa_cons (pe_ix (kix K) (kv (i := 0) v_ladder_due_law_parts) pe_int (fun _ _ => rfl)) (pa_cons pe_int pa_nil))))) (pss_one (ps_ret (pe_lst (pa_cons pe_str (pa_cons (pe_ix (kix K) (kv (i := 0) v_ladder_due_law_parts) pe_int (fun _ _ => rfl)) pa_nil))))) pss_nil)
      (pss_cons (ps_if (PW.pt (pw_or (pt_not (pt_val (pe_call (ok_in T) (hr.mono (by first | decide | omega)) g_ladder_due_law_in T.m_in T.k_in T.b_in .nil pass0 (pa_cons (pe_ix (kix K) (kv (i := 0) v_ladder_due_law_parts) pe_int (fun _ _ => rfl)) (pa_cons pe_int pa_nil))))) (pw_or (pt_cmpR op_gt (pe_op op_sub (pe_op kop_add (pe_ix (kix K) (kv (i := 0) v_ladder_due_law_parts) pe_int (fun _ _ => rfl)) (pe_ix (kix K) (kv (i := 0) v_ladder_due_law_parts) pe_int (fun _ _ => rfl))) pe_int) pe_int (nomark _)) (pw_or1 (pt_cmpR op_gt (pe_op op_mul (pe_ix (kix K) (kv (i := 0) v_ladder_due_law_parts) pe_int (fun _ _ => rfl)) (pe_ix (kix K) (kv (i := 0) v_ladder_due_law_parts) pe_int (fun _ _ => rfl))) pe_int (nomark _)))))) (pss_one (ps_ret (pe_lst (pa_cons pe_str (pa_cons (pe_ix (kix K) (kv (i := 0) v_ladder_due_law_parts) pe_int (fun _ _ => rfl)) pa_nil))))) pss_nil)
      (pss_one (ps_ret pe_non)))))), ?_⟩
    walk_at "ss"
    refine ⟨v0, 7, rfl, g0, by decide, fun H1 s1 => ?_⟩
    have hL1 := s1 _ _ hL
    have g0 := g0.up s1
    have g1 := g1.up s1
    have g2 := g2.up s1
    have g3 := g3.up s1
    cases e0 : nameH v0 7 with
    | false =>
      walk_at "ss"
      intro f nf
      exact kb .name v0 (by unfold ladBad; rw [if_pos e0]) f _ (s1.trans (same_new nf)) upd_same
    | true =>
      obtain ⟨z, rfl, _⟩ := nameH_s e0
      walk_at "ss"
      refine ⟨v1, 1000, rfl, g1, ?_⟩
      cases e1 : numV v1 1 1000 with
      | false =>
        walk_at "ss"
        intro f nf
        exact kb .num v1 (by unfold ladBad; rw [if_neg (by rw [e0]; decide), if_pos e1]) f _ (s1.trans (same_new nf)) upd_same
      | true =>
        obtain ⟨sz, rfl, hs0, hs1⟩ := numV_i e1
        walk_at "ss"
        refine ⟨v2, 1000, rfl, g2, ?_⟩
        cases e2 : numV v2 1 1000 with
        | false =>
          walk_at "ss"
          intro f nf
          exact kb .num v2 (by unfold ladBad; rw [if_neg (by rw [e0]; decide), if_neg (by rw [e1]; decide), if_pos e2]) f _ (s1.trans (same_new nf)) upd_same
        | true =>
          obtain ⟨ev, rfl, he0, he1⟩ := numV_i e2
          have lb : ladBad (.str z) (.int sz) (.int ev) v3 = if badS (.int sz) (.int ev) v3 = true then some (.num, v3) else none := by
            unfold ladBad
            rw [if_neg (by rw [e0]; decide), if_neg (by rw [e1]; decide), if_neg (by rw [e2]; decide)]
          walk_at "ss"
          refine ⟨v3, 9, rfl, g3, ?_⟩
          cases e3 : numV v3 1 9 with
          | false =>
            walk_at "ss"
            intro f nf
            exact kb .num v3 (by rw [lb, if_pos (by unfold badS; rw [e3]; rfl)]) f _ (s1.trans (same_new nf)) upd_same
          | true =>
            obtain ⟨kk, rfl, hk0, hk1⟩ := numV_i e3
            have eb : badS (.int sz) (.int ev) (.int kk) = (decide (1000 < sz + kk - 1) || decide (1000 < ev * kk)) := by
              show (!numV (.int kk) 1 9 || _) = _
              rw [e3]; rfl
            walk_at "ss"
            refine k_d (fun h1 => ?_) (fun h1 => ?_)
            · walk_at "ss"
              intro f nf
              exact kb .num _ (by rw [lb, if_pos (by rw [eb, decide_eq_true h1]; rfl)]) f _ (s1.trans (same_new nf)) upd_same
            · walk_at "ss"
              refine k_d (fun h2 => ?_) (fun h2 => ?_)
              · walk_at "ss"
                intro f nf
                exact kb .num _ (by rw [lb, if_pos (by rw [eb, decide_eq_true h2, Bool.or_true])]) f _ (s1.trans (same_new nf)) upd_same
              · walk_at "ss"
                exact kn (by rw [lb, eb, decide_eq_false h1, decide_eq_false h2]; rfl) _ s1
end

section
/-! ### what a deed gives, or its error -/
def AskE {K : PySem.W.Frag} {mg : Str → Option Value} (T : Tx K mg) (Q : VK) : XK := fun cls d H1 => ∃ (e : Er) (dd : Addr) (v : V), cls = .ref (e.C T) ∧ d = some dd ∧ H1 dd = some (.xd [("code", .str e.S), ("value", v)]) ∧
  ∀ (f t : Addr) (H2 : Hp), Same H1 H2 → H2 f = some (.lst [.str e.S, v]) → H2 t = some (.tup [.non, .ref f]) → Q (.ref t) H2
def AskQ (Q : VK) : VK := fun v H1 => ∀ (t : Addr) (H2 : Hp), Same H1 H2 → H2 t = some (.tup [v, .non]) → Q (.ref t) H2
def TT_ask {K : PySem.W.Frag} {mg : Str → Option Value} (T : Tx K mg) : (XK → Hp → VK → Prop) → Hp → VK → Prop := fun tl H Q =>
  ∀ (H1 : Hp) (E : XK) (Q' : VK), Same H H1 → (∀ cls d H', AskE T Q cls d H' → E cls d H') → (∀ v H', AskQ Q v H' → Q' v H') → tl E H1 Q'
theorem gives_ask {K0 : PySem.W.Frag} {mg0 : Str → Option Value} (T : Tx K0 mg0) {X : Cx} (hK : X.K = K0 := by rfl) (hm : X.mg = mg0 := by rfl) {cdv : Value} {q : Str} : GivesA X N_ask "_law_ask" (defScope s_ask) T.a_ask cdv (defBody s_ask) "_law_deed" q (TT_ask T) := by
  subst hK
  subst hm
  intro lf lc s H Q tl act hlc hTT
  have nd := sc_ask.nd
  let K : PySem.W.Frag := X.K
  refine ⟨_, (pss_cons (ps_asg (pe_tup (pa_cons pe_non (pa_cons pe_non pa_nil))) (kpg_tup K 2 rfl (pgs_cons (kgL (i := 1) nd l_ask_law_told) (pgs_cons (kgL (i := 2) nd l_ask_law_fault) pgs_nil))))
      (pss_cons (ps_try_manyA rfl rfl nd takes_none5 (fun W pn xe tk _ => (pss_one (ks_setL (i := 1) nd l_ask_law_told (act W pn xe _ _ tk)))) (.cons (i := 3) rfl (locB_ok l_ask_error) ⟨g_ask_InvalidName, by decide, .inl T.m_InvalidName⟩ (fun a oe cls d pn hz hf => (pss_one (ks_setL (i := 2) nd l_ask_law_fault (pe_lst (pa_cons pe_str (pa_cons (pe_xf T.xf_InvalidName T.no_InvalidName_value hz hf (kv (i := 3) v_ask_error)) pa_nil)))))) (.cons (i := 3) rfl (locB_ok l_ask_error) ⟨g_ask_InvalidNumber, by decide, .inl T.m_InvalidNumber⟩ (fun a oe cls d pn hz hf => (pss_one (ks_setL (i := 2) nd l_ask_law_fault (pe_lst (pa_cons pe_str (pa_cons (pe_xf T.xf_InvalidNumber T.no_InvalidNumber_value hz hf (kv (i := 3) v_ask_error)) pa_nil)))))) (.cons (i := 3) rfl (locB_ok l_ask_error) ⟨g_ask_InvalidRest, by decide, .inl T.m_InvalidRest⟩ (fun a oe cls d pn hz hf => (pss_one (ks_setL (i := 2) nd l_ask_law_fault (pe_lst (pa_cons pe_str (pa_cons (pe_xf T.xf_InvalidRest T.no_InvalidRest_value hz hf (kv (i := 3) v_ask_error)) pa_nil)))))) (.cons (i := 3) rfl (locB_ok l_ask_error) ⟨g_ask_SureletError, by decide, .inl T.m_SureletError⟩ (fun a oe cls d pn hz hf => (pss_one (ks_setL (i := 2) nd l_ask_law_fault (pe_lst (pa_cons pe_str (pa_cons (pe_xf T.xf_InvalidName T.no_InvalidName_code hz hf (kv (i := 3) v_ask_error)) pa_nil)))))) .nil)))))
      (pss_one (ps_ret (pe_tup (pa_cons (kv (i := 1) v_ask_law_told) (pa_cons (kv (i := 2) v_ask_law_fault) pa_nil))))))), ?_⟩
  walk_at "ss"
  intro p np
  have s1 := same_new (o := .tup [V.non, V.non]) np
  refine k_gTup (SqT.of upd_same) rfl ?_
  walk_at "ss"
  refine ⟨rfl, s1 _ _ hlc, hTT _ _ _ s1 (fun cls d H' hE => ?_) fun v H' hQ => ?_⟩
  · obtain ⟨e, dd, v, rfl, rfl, hd, kk⟩ := hE
    cases e with
    | name =>
      refine ⟨true, T.exm_InvalidName_InvalidName, fun _ a na => ?_, fun h => nomatch h⟩
      walk_at "ss"
      refine ⟨_, rfl, rfl, rfl, dd, _, _, rfl, hd, rfl, ?_⟩
      walk_at "ss"
      intro f nf
      walk_at "ss"
      intro t nt
      exact kk f t _ ((same_new nf).trans (same_new nt)) (same_new nt _ _ upd_same) upd_same
    | num =>
      refine ⟨false, T.exm_InvalidNumber_InvalidName, (fun h => nomatch h), fun _ => ?_⟩
      refine ⟨true, T.exm_InvalidNumber_InvalidNumber, fun _ a na => ?_, fun h => nomatch h⟩
      walk_at "ss"
      refine ⟨_, rfl, rfl, rfl, dd, _, _, rfl, hd, rfl, ?_⟩
      walk_at "ss"
      intro f nf
      walk_at "ss"
      intro t nt
      exact kk f t _ ((same_new nf).trans (same_new nt)) (same_new nt _ _ upd_same) upd_same
    | rest =>
      refine ⟨false, T.exm_InvalidRest_InvalidName, (fun h => nomatch h), fun _ => ?_⟩
      refine ⟨false, T.exm_InvalidRest_InvalidNumber, (fun h => nomatch h), fun _ => ?_⟩
      refine ⟨true, T.exm_InvalidRest_InvalidRest, fun _ a na => ?_, fun h => nomatch h⟩
      walk_at "ss"
      refine ⟨_, rfl, rfl, rfl, dd, _, _, rfl, hd, rfl, ?_⟩
      walk_at "ss"
      intro f nf
      walk_at "ss"
      intro t nt
      exact kk f t _ ((same_new nf).trans (same_new nt)) (same_new nt _ _ upd_same) upd_same
  · walk_at "ss"
    intro t nt
    exact hQ t _ (same_new nt) upd_same
end

section
variable {w : World} {K : PySem.W.Frag} {mg : Str → Option Value} {base : Heap}
/-! ### the rules of a ladder, as is due -/
theorem num_inj {a b : Int} (a0 : 0 ≤ a) (a1 : a < 10 ^ 10) (b0 : 0 ≤ b) (b1 : b < 10 ^ 10) (h : Str.ofString (toString a) = Str.ofString (toString b)) : a = b := by
  have ha := PySem.W.KIN.num_reads a0 a1
  have hb := PySem.W.KIN.num_reads b0 b1
  rw [h, hb] at ha
  exact (Option.some.inj ha).symm
theorem str_cancel {a b c : Str} (h : a ++ b = a ++ c) : b = c := by
  have h2 := congrArg (fun s : Str => s.cps.toList) h
  simp only [PySem.Str.cps_append, Array.toList_append] at h2
  have h3 := List.append_cancel_left h2
  cases b; cases c
  exact congrArg Str.mk (Array.toList_inj.mp h3)
theorem win_inj {a b : Int} (a0 : 0 ≤ a) (a1 : a < 10 ^ 10) (b0 : 0 ≤ b) (b1 : b < 10 ^ 10) (h : winTx a = winTx b) : a = b :=
  num_inj a0 a1 b0 b1 (str_cancel h)
theorem lnm_eq (z : Str) (k : Nat) : lnm z k = z ++ Str.ofString (toString ((k : Nat) : Int)) := by
  unfold lnm
  rw [PySem.Str.empty_append]
theorem sp_win : (" window " : Str) = (" " : Str) ++ ("window " : Str) := by decide +kernel
theorem full_eq (z : Str) (k : Nat) (c wd : Int) : Str.empty ++ z ++ Str.ofString (toString ((k : Nat) : Int)) ++ (" " : Str) ++ Str.ofString (toString c) ++ (" window " : Str) ++ Str.ofString (toString wd) = ruleTx (lnm z k) c (winTx wd) := by
  unfold ruleTx winTx lnm
  rw [sp_win]
  simp only [PySem.Str.empty_append, PySem.Str.append_assoc]
theorem eqX_same (nm : Str) (c : Int) (tx : Str) : eqX nm nm c c tx tx = true := by
  unfold eqX
  rw [decide_eq_true rfl, decide_eq_true rfl, decide_eq_true rfl]; rfl
theorem eqX_tx {nm : Str} {c : Int} {tx ty : Str} (h : tx ≠ ty) : eqX nm nm c c tx ty = false := by
  unfold eqX
  rw [decide_eq_true rfl, decide_eq_true rfl, decide_eq_false h]; rfl
theorem k_lstE {H : Hp} {Q : VK} {p : Addr} {xs ys : List V} (T : True) (h : xs = ys) (k : Q (.ref p) (upd H p (.lst ys))) : Q (.ref p) (upd H p (.lst xs)) := by rw [h]; exact k
theorem eqd_list {H : Hp} {a b : Addr} {xs : List V} (ha : H a = some (.lst xs)) (hb : H b = some (.lst xs)) (hl : xs.length ≤ 50) {d : Nat} (h : ∀ x ∈ xs, Eqd H d x x) : Eqd H (d + 1) (.ref a) (.ref b) :=
  .inr (.inr ⟨a, b, xs, xs, rfl, rfl, .inl ⟨ha, hb⟩, rfl, hl, fun i u v hu hv => by
    rw [hu] at hv
    cases hv
    exact h u (List.mem_of_getElem? hu)⟩)
/-- a rule is made -/
theorem made_rule {T : Tx K mg} {H : Hp} {y dy r : Addr} {nm tx : Str} {c : Int} {R : Hp → Prop} {E : XK} (ny : H y = none) (ndy : H dy = none) (ne : dy ≠ y) (hr : RtTx T H r tx) (hn : nameV (.str nm) = true) (hl : nm.length ≤ 100) (h0 : 1 ≤ c) (h1 : c ≤ 1000)
    (k : ∀ H', Same H H' → H' y = some (.ins T.C_Rule dy (FL nR [.str nm, .int c, .ref r])) → RuleX T H' y nm c tx → R H') :
    spRuleI T [.ref y, .str nm, .int c, .ref r] (upd (upd H dy (.own y)) y (.ins T.C_Rule dy [])) (fun v H2 => v = .non ∧ R H2) E := by
  have s3 := same_made (C := T.C_Rule) (fs := []) ny ndy ne
  have hr3 := hr.up s3
  refine ⟨y, dy, _, _, _, rfl, upd_same, .str _ hl, .int _, .inr ⟨r, tx, rfl, hr3⟩, fun h => ?_, fun _ h => ?_, fun _ _ h => ?_, fun _ _ _ => ⟨rfl, ?_⟩⟩
  · rw [hn] at h; cases h
  · rw [numV_t h0 h1] at h; cases h
  · exfalso
    obtain ⟨C, dx9, ns9, vs9, _, _, he9⟩ := hr3
    cases h with
    | lst h => rw [he9] at h; cases h
    | tup h => rw [he9] at h; cases h
    | dic h => rw [he9] at h; cases h
  · rw [upd_upd]
    have s := same_made (C := T.C_Rule) (fs := FL nR [.str nm, .int c, .ref r]) ny ndy ne
    exact k _ s upd_same ⟨dy, r, upd_same, hr.up s⟩
def spRules (T : Tx K mg) : Sp := fun vs H Q _ => ∃ (L t : Addr) (v0 v1 v2 v3 : V) (z : Str) (s e : Int) (n : Nat), vs = [.ref L, .ref t] ∧ H L = some (.lst [v0, v1, v2, v3]) ∧ LadOk v0 v1 v2 v3 z s e n ∧ LadAt T H t z s e n ∧ ∀ H', Same H H' → Q (.bl true) H'
theorem ok_rules_so (T : Tx K mg) : FnOk P w K mg base CX0 6 T.a_rules_so T.fd_rules_so P_rules_so (spRules T) := by
  refine T.F_rules_so.ok sc_rules_so (fun vs H Q E h => ?_) (fun cdv A outer s H vs Q E hr h => ?_)
  · obtain ⟨L, t, v0, v1, v2, v3, z, s, e, n, rfl, _⟩ := h
    rfl
  · obtain ⟨L, t, v0, v1, v2, v3, z, sz, ev, n, rfl, hL, ok, ⟨rs, ht, hlen, hrs⟩, k⟩ := h
    obtain ⟨rfl, rfl, rfl, rfl, hnm, h7, s0, n0, n1, x0, sn, en⟩ := ok
    have nd := sc_rules_so.nd
    refine ⟨_, (pss_cons (ps_if (PW.pt (pw_or (pt_not (pt_val (kcB b_isinstance (by decide) (by decide) (kc_isi K) g_rules_so_isinstance T.n_isinstance (pa_cons (kv (i := 1) v_rules_so_law_rules) (pa_cons (kty_list g_rules_so_list T.n_list) pa_nil))))) (pw_or1 (pt_cmpR op_ne (kcB b_len (by decide) (by decide) (kc_len K) g_rules_so_len T.n_len (pa_cons (kv (i := 1) v_rules_so_law_rules) pa_nil)) (pe_ix (kix K) (kv (i := 0) v_rules_so_law_parts) pe_int (fun _ _ => rfl)) (nomark _))))) (pss_one (ps_ret pe_bl)) pss_nil)
      (pss_cons (ps_for PassesOwn.never rfl (pi_range1 g_rules_so_range T.n_range (pa_cons (pe_ix (kix K) (kv (i := 0) v_rules_so_law_parts) pe_int (fun _ _ => rfl)) pa_nil)) (kgL (i := 2) nd l_rules_so_law_k) (pss_cons (ks_setL (i := 3) nd l_rules_so_law_one (pe_ix (kix K) (kv (i := 1) v_rules_so_law_rules) (kv (i := 2) v_rules_so_law_k) (fun _ _ => rfl)))
      (pss_cons (ps_if (pt_not (pt_val (kcB b_isinstance (by decide) (by decide) (kc_isi K) g_rules_so_isinstance T.n_isinstance (pa_cons (kv (i := 3) v_rules_so_law_one) (pa_cons (kcls g_rules_so_Rule T.m_Rule) pa_nil))))) (pss_one (ps_ret pe_bl)) pss_nil)
      (pss_cons (ks_setL (i := 4) nd l_rules_so_law_wide (pe_op op_mul (pe_op kop_add (kv (i := 2) v_rules_so_law_k) pe_int) (pe_ix (kix K) (kv (i := 0) v_rules_so_law_parts) pe_int (fun _ _ => rfl))))
      (pss_cons (ks_setL (i := 5) nd l_rules_so_law_due (pe_lst (pa_cons (pe_op kop_add (pe_ix (kix K) (kv (i := 0) v_rules_so_law_parts) pe_int (fun _ _ => rfl)) (kcT b_str (by decide) (by decide) kc_str g_rules_so_str T.n_str (pa_cons (kv (i := 2) v_rules_so_law_k) pa_nil))) (pa_cons (pe_op kop_add (pe_ix (kix K) (kv (i := 0) v_rules_so_law_parts) pe_int (fun _ _ => rfl)) (kv (i := 2) v_rules_so_law_k)) (pa_cons (pe_joined (.cons pe_str (.cons (pe_fmt (kv (i := 4) v_rules_so_law_wide)) .nil))) (pa_cons (pe_joined (.cons (pe_fmt (pe_ix (kix K) (kv (i := 0) v_rules_so_law_parts) pe_int (fun _ _ => rfl))) (.cons (pe_fmt (kv (i := 2) v_rules_so_law_k)) (.cons pe_str (.cons (pe_fmt (pe_op kop_add (pe_ix (kix K) (kv (i := 0) v_rules_so_law_parts) pe_int (fun _ _ => rfl)) (kv (i := 2) v_rules_so_law_k))) (.cons pe_str (.cons (pe_fmt (kv (i := 4) v_rules_so_law_wide)) .nil))))))) pa_nil))))))
      (pss_cons (ps_if (pt_not (pt_val (pe_call (ok_like T) (hr.mono (by first | decide | omega)) g_rules_so_law_like T.m_like T.k_like T.b_like .nil pass0 (pa_cons (pe_lst (pa_cons (kpe_fld K (kv (i := 3) v_rules_so_law_one)) (pa_cons (kpe_fld K (kv (i := 3) v_rules_so_law_one)) (pa_cons (kpe_methP0 (disp_written T) (hr.mono (by first | decide | omega)) pass0 (kpe_fld K (kv (i := 3) v_rules_so_law_one))) (pa_cons (kcT b_str (by decide) (by decide) (kc_strO K T.strf_Rule T.stri_Rule (ok_Rule_str T) (hr.mono (by first | decide | omega)) T.b_Rule_str pass0) g_rules_so_str T.n_str (pa_cons (kv (i := 3) v_rules_so_law_one) pa_nil)) pa_nil))))) (pa_cons (kv (i := 5) v_rules_so_law_due) pa_nil))))) (pss_one (ps_ret pe_bl)) pss_nil)
      (pss_one (ps_if (PW.pt (pw_or (pt_not (pt_cmpR (kop_eqO K T.eqf_Rule T.eqi_Rule (ok_Rule_eq T) (hr.mono (by first | decide | omega)) T.b_Rule_eq pass0) (kv (i := 3) v_rules_so_law_one) (pe_make T.mk_Rule (ok_Rule_init T) (hr.mono (by first | decide | omega)) g_rules_so_Rule T.m_Rule T.b_Rule_init .nil passE (pa_cons (pe_ix (kix K) (kv (i := 5) v_rules_so_law_due) pe_int (fun _ _ => rfl)) (pa_cons (pe_ix (kix K) (kv (i := 5) v_rules_so_law_due) pe_int (fun _ _ => rfl)) (pa_cons (pe_make T.mk_Window (ok_Window_init T) (hr.mono (by first | decide | omega)) g_rules_so_Window T.m_Window T.b_Window_init .nil pass0 (pa_cons (kv (i := 4) v_rules_so_law_wide) pa_nil)) pa_nil)))) (nomark _))) (pw_or1 (pt_cmpR (kop_eqO K T.eqf_Rule T.eqi_Rule (ok_Rule_eq T) (hr.mono (by first | decide | omega)) T.b_Rule_eq pass0) (kv (i := 3) v_rules_so_law_one) (pe_make T.mk_Rule (ok_Rule_init T) (hr.mono (by first | decide | omega)) g_rules_so_Rule T.m_Rule T.b_Rule_init .nil passE (pa_cons (pe_ix (kix K) (kv (i := 5) v_rules_so_law_due) pe_int (fun _ _ => rfl)) (pa_cons (pe_ix (kix K) (kv (i := 5) v_rules_so_law_due) pe_int (fun _ _ => rfl)) (pa_cons (pe_make T.mk_Window (ok_Window_init T) (hr.mono (by first | decide | omega)) g_rules_so_Window T.m_Window T.b_Window_init .nil pass0 (pa_cons (pe_op kop_add pe_int (pe_op op_mod (kcT b_int (by decide) (by decide) kc_int g_rules_so_int T.n_int (pa_cons (kv (i := 4) v_rules_so_law_wide) pa_nil)) pe_int)) pa_nil)) pa_nil)))) (nomark _))))) (pss_one (ps_ret pe_bl)) pss_nil))))))))
      (pss_one (ps_ret pe_bl)))), ?_⟩
    walk_at "ss"
    refine k_nt (show ((rs.map V.ref).length : Int) = (n : Int) by rw [List.length_map, hlen]) ?_
    walk_at "ss"
    have h9 : -(2 ^ 62) ≤ (n : Int) ∧ (n : Int) < 2 ^ 62 := ⟨by omega, by omega⟩
    refine k_r1 h9 ?_
    refine k_forRange (n := n) (fun i σ H' => Same H H' ∧ ∃ u2 u3 u4 u5, σ = [some (.ref L), some (.ref t), u2, u3, u4, u5]) ⟨Same.refl _, _, _, _, _, rfl⟩ ?_ ?_
    · rintro i σ H1 hi ⟨s1, u2, u3, u4, u5, rfl⟩
      rw [Int.zero_add]
      have hL1 := s1 _ _ hL
      have ht1 := s1 _ _ ht
      obtain ⟨r, hr1⟩ : ∃ r, rs[i]? = some r := ⟨_, List.getElem?_eq_getElem (by omega)⟩
      have hR := (hrs i r hr1).up s1
      have hm := mul_le (i := i) (n := n) (e := ev) (by omega) x0
      have hat : atI (rs.map V.ref) (i : Int) = some (.ref r) := atI_nat (by rw [List.getElem?_map, hr1]; rfl)
      have hln := lnm_len z (k := i) (by omega)
      have hlz : z.length ≤ 100 := by omega
      generalize ewd : ((i : Int) + 1) * ev = wd at hm hR
      have hRx := hR.x
      obtain ⟨dx, rr, hRi, hRr⟩ := hR
      have hRt := hRr.winTx
      walk_at "ss"
      refine k_isiO (ty_own T.ty_Rule hRi) T.kt_Rule_Rule ?_
      walk_at "ss"
      rw [ewd]
      refine k_str1 (by omega) ?_
      have ls : (" " : Str).length = 1 := by decide +kernel
      have lw : ("window " : Str).length = 7 := by decide +kernel
      have lw2 : (" window " : Str).length = 8 := by decide +kernel
      have lk : (Str.ofString (toString ((i : Nat) : Int))).length ≤ 5 := len_text (k := 4) (by decide) (by omega)
      have lc : (Str.ofString (toString (sz + (i : Int)))).length ≤ 5 := len_text (k := 4) (by decide) (by omega)
      have lwd : (Str.ofString (toString wd)).length ≤ 5 := len_text (k := 4) (by decide) (by omega)
      have lwt : (winTx wd).length ≤ 20 := by
        show (Str.empty ++ ("window " : Str) ++ Str.ofString (toString wd)).length ≤ 20
        simp only [PySem.Str.length_append, len_empty, lw]; omega
      refine k_addS (by show z.length + (Str.ofString (toString ((i : Nat) : Int))).length ≤ 1000000; omega) ?_
      rw [show z ++ (Str.ofString (toString ((i : Nat) : Int))) = lnm z i from (lnm_eq z i).symm]
      walk_at "ss"
      refine k_jsV (by simp only [PySem.Str.length_append, len_empty, lw]; omega) ?_
      walk_at "ss"
      refine k_fmtI (by omega) ?_
      refine k_jsV (by simp only [PySem.Str.length_append, len_empty, lw]; omega) ?_
      walk_at "ss"
      refine k_fmtS (by omega) ?_
      refine k_jsV (by simp only [PySem.Str.length_append, len_empty]; omega) ?_
      walk_at "ss"
      refine k_fmtI (by omega) ?_
      refine k_jsV (by simp only [PySem.Str.length_append, len_empty]; omega) ?_
      walk_at "ss"
      refine k_jsV (by simp only [PySem.Str.length_append, len_empty, ls]; omega) ?_
      walk_at "ss"
      refine k_fmtI (by omega) ?_
      refine k_jsV (by simp only [PySem.Str.length_append, len_empty, ls]; omega) ?_
      walk_at "ss"
      refine k_jsV (by simp only [PySem.Str.length_append, len_empty, ls, lw2]; omega) ?_
      walk_at "ss"
      refine k_fmtI (by omega) ?_
      refine k_jsV (by simp only [PySem.Str.length_append, len_empty, ls, lw2]; omega) ?_
      walk_at "ss"
      intro du ndu
      generalize eD : upd H1 du _ = H2
      have s2 := upd_sm eD ndu
      have hdu : H2 du = some (.lst [.str (lnm z i), .int (sz + (i : Int)), .str (winTx wd), .str (ruleTx (lnm z i) (sz + (i : Int)) (winTx wd))]) := by
        rw [← full_eq]
        exact upd_at eD
      clear eD
      have hRi2 := s2 _ _ hRi
      have hRt2 := hRt.up s2
      have hRx2 := hRx.up s2
      walk_at "ss"
      refine k_fldAt hRi2 T.cl_Rule T.no_Rule_name (i := 0) (by decide +kernel) rfl ?_
      walk_at "ss"
      refine k_fldAt hRi2 T.cl_Rule T.no_Rule_chips (i := 1) (by decide +kernel) rfl ?_
      walk_at "ss"
      refine k_restT hRt2 (by decide +kernel) (by decide +kernel) (fun Q q => k_fld (k_var rfl (k_fldAt hRi2 T.cl_Rule T.no_Rule_rest (i := 2) (by decide +kernel) rfl q))) ⟨rr, _, rfl, hRt2, ?_⟩
      walk_at "ss"
      refine ⟨r, dx, _, rfl, hRi2, r, _, _, _, rfl, hRx2, by omega, by omega, by omega, by omega, _, rfl, ?_⟩
      walk_at "ss"
      intro tl ntl
      generalize eD : upd H2 tl _ = H3
      have s3 := upd_sm eD ntl
      have htl := upd_at eD
      clear eD
      have hdu3 := s3 _ _ hdu
      walk_at "ss"
      refine ⟨_, _, rfl, eqd_list (d := 2) htl hdu3 (by simp) (fun x hx => ?_), fun H4 s4 => ?_⟩
      · simp only [List.mem_cons, List.not_mem_nil, or_false] at hx
        rcases hx with rfl | rfl | rfl | rfl
        · exact Eqd.sc (.str _) 2
        · exact Eqd.sc (.int _) 2
        · exact Eqd.sc (.str _) 2
        · exact Eqd.sc (.str _) 2
      have hdu4 := s4 _ _ hdu3
      have hRx4 := (hRx2.up s3).up s4
      walk_at "ss"
      have hRi4 := s4 _ _ (s3 _ _ hRi2)
      have hnk := lnm_name (z := z) (k := i) (by omega) hnm h7
      refine k_make ?_
      walk_at "ss"
      refine k_make ?_
      walk_at "ss"
      intro x dx1 nx ndx ne
      refine ⟨NoF, x, dx1, wd, rfl, by omega, by omega, upd_same, fun H5 sb hw => ⟨rfl, ?_⟩⟩
      have s5 := SameBut.made nx ndx ne sb
      walk_at "ss"
      intro y dy ny ndy ney
      refine made_rule ny ndy ney hw.winTx hnk (by omega) (show 1 ≤ sz + (i : Int) by omega) (show sz + (i : Int) ≤ 1000 by omega) fun H6 s6 hy hyx => ?_
      have hRi6 := s6 _ _ (s5 _ _ hRi4)
      have hRx6 := (hRx4.up s5).up s6
      have hdu6 := s6 _ _ (s5 _ _ hdu4)
      refine ⟨r, dx, _, rfl, hRi6, .ins hy T.nf_Rule, r, _, _, _, .ref y, rfl, hRx6, .inr ⟨y, _, _, _, rfl, hyx, ?_⟩⟩
      rw [eqX_same]
      walk_at "ss"
      refine k_make ?_
      walk_at "ss"
      refine k_make ?_
      walk_at "ss"
      have hmd := mod_bd (x := wd) (m := 1000) (by decide)
      intro x2 dx2 nx2 ndx2 ne2
      refine ⟨NoF, x2, dx2, 1 + wd % 1000, rfl, by omega, by omega, upd_same, fun H7 sb2 hw2 => ⟨rfl, ?_⟩⟩
      have s7 := SameBut.made nx2 ndx2 ne2 sb2
      walk_at "ss"
      intro y2 dy2 ny2 ndy2 ney2
      refine made_rule ny2 ndy2 ney2 hw2.winTx hnk (by omega) (by omega) (by omega) fun H8 s8 hy2 hyx2 => ?_
      refine ⟨r, dx, _, rfl, s8 _ _ (s7 _ _ hRi6), .ins hy2 T.nf_Rule, r, _, _, _, .ref y2, rfl, (hRx6.up s7).up s8, .inr ⟨y2, _, _, _, rfl, hyx2, ?_⟩⟩
      rw [eqX_tx (fun q => by have := win_inj (by omega) (by omega) (by omega) (by omega) q; omega)]
      walk_at "ss"
      exact ⟨(((((s1.trans s2).trans s3).trans s4).trans s5).trans s6).trans (s7.trans s8), _, _, _, _, rfl⟩
    · rintro σ H1 ⟨s1, u2, u3, u4, u5, rfl⟩
      walk_at "ss"
      exact k _ s1
end

/-! ### the bucket and the rules, in plain Lean -/
section
abbrev ones (ms : List Int) : Us := ms.map fun m => (m, 1)
theorem wsum_app (a b : Us) (lo hi : Int) : wsum (a ++ b) lo hi = wsum a lo hi + wsum b lo hi := by
  unfold wsum
  rw [List.map_append, List.sum_append]
theorem ones_le (lo hi : Int) : ∀ C : List Int, wsum (ones C) lo hi ≤ C.length
  | [] => Int.le_refl 0
  | c :: C => by
    have ih := ones_le lo hi C
    show (if lo ≤ c ∧ c < hi then (1 : Int) else 0) + wsum (ones C) lo hi ≤ ((C.length + 1 : Nat) : Int)
    split <;> omega
theorem ones_nn (lo hi : Int) : ∀ C : List Int, 0 ≤ wsum (ones C) lo hi
  | [] => Int.le_refl 0
  | c :: C => by
    have ih := ones_nn lo hi C
    show 0 ≤ (if lo ≤ c ∧ c < hi then (1 : Int) else 0) + wsum (ones C) lo hi
    split <;> omega
theorem ones_all {lo hi : Int} : ∀ {C : List Int}, (∀ x ∈ C, lo ≤ x ∧ x < hi) → wsum (ones C) lo hi = C.length
  | [], _ => rfl
  | c :: C, h => by
    have ih := ones_all (C := C) fun x hx => h x (List.mem_cons_of_mem _ hx)
    show (if lo ≤ c ∧ c < hi then (1 : Int) else 0) + wsum (ones C) lo hi = ((C.length + 1 : Nat) : Int)
    rw [if_pos (h c List.mem_cons_self), ih]
    omega
theorem ones_none {lo hi : Int} : ∀ {C : List Int}, (∀ x ∈ C, x < lo) → wsum (ones C) lo hi = 0
  | [], _ => rfl
  | c :: C, h => by
    have ih := ones_none (hi := hi) (C := C) fun x hx => h x (List.mem_cons_of_mem _ hx)
    have hc := h c List.mem_cons_self
    show (if lo ≤ c ∧ c < hi then (1 : Int) else 0) + wsum (ones C) lo hi = 0
    rw [if_neg (by omega), ih]
    rfl
theorem ones_app (a b : List Int) : ones (a ++ b) = ones a ++ ones b := List.map_append
structure Bk (e : Int) (ms : List Int) (due : Int) : Prop where
  lo : ∀ A m B, ms = A ++ m :: B → m + ((B.length : Int) + 1) * e ≤ due
  hi : (ms = [] ∧ due = 0) ∨ ∃ A m B, ms = A ++ m :: B ∧ due = m + ((B.length : Int) + 1) * e
theorem bk_nil (e : Int) : Bk e [] 0 := ⟨fun A m B h => by simp at h, .inl ⟨rfl, rfl⟩⟩
theorem snoc_split {ms A B : List Int} {x m : Int} (h : ms ++ [x] = A ++ m :: B) : (B = [] ∧ m = x ∧ A = ms) ∨ ∃ B', B = B' ++ [x] ∧ ms = A ++ m :: B' := by
  rcases List.eq_nil_or_concat B with rfl | ⟨B', y, rfl⟩
  · have h2 := List.append_inj' h rfl
    exact .inl ⟨rfl, by simpa using h2.2.symm, h2.1.symm⟩
  · have e : A ++ m :: (B' ++ [y]) = (A ++ m :: B') ++ [y] := by simp
    rw [List.concat_eq_append, e] at h
    have h2 := List.append_inj' h rfl
    have hy : x = y := by simpa using h2.2
    subst hy
    exact .inr ⟨B', by rw [List.concat_eq_append], h2.1⟩
theorem bk_snoc {e : Int} {ms : List Int} {due x : Int} (h : Bk e ms due) (h0 : 0 ≤ x) : Bk e (ms ++ [x]) ((if x > due then x else due) + e) := by
  refine ⟨fun A m B hs => ?_, ?_⟩
  · rcases snoc_split hs with ⟨rfl, rfl, rfl⟩ | ⟨B', rfl, hm⟩
    · show m + (((0 : Nat) : Int) + 1) * e ≤ _
      rw [show (((0 : Nat) : Int) + 1) * e = e from by omega]
      split <;> omega
    · have := h.lo A m B' hm
      rw [List.length_append]
      have e2 : (((B'.length + [x].length : Nat) : Int) + 1) * e = ((B'.length : Int) + 1) * e + e := by
        show (((B'.length + 1 : Nat) : Int) + 1) * e = _
        rw [Int.natCast_add, Int.add_mul, Int.add_mul, Int.add_mul]
        omega
      rw [e2]
      split <;> omega
  · by_cases hx : x > due
    · exact .inr ⟨ms, x, [], rfl, by rw [if_pos hx]; show x + e = x + (((0 : Nat) : Int) + 1) * e; omega⟩
    · rw [if_neg hx]
      rcases h.hi with ⟨rfl, rfl⟩ | ⟨A, m, B, rfl, hd⟩
      · obtain rfl : x = 0 := by omega
        exact .inr ⟨[], 0, [], rfl, by show 0 + e = 0 + (((0 : Nat) : Int) + 1) * e; omega⟩
      · refine .inr ⟨A, m, B ++ [x], by simp, ?_⟩
        rw [hd, List.length_append]
        have e2 : (((B.length + [x].length : Nat) : Int) + 1) * e = ((B.length : Int) + 1) * e + e := by
          show (((B.length + 1 : Nat) : Int) + 1) * e = _
          rw [Int.natCast_add, Int.add_mul, Int.add_mul, Int.add_mul]
          omega
        rw [e2]
        omega
/-- the rule of k + 1 intervals lets the row by -/
def OkP (s e : Int) (us : Us) (k : Nat) : Prop := ∀ m ∈ us.map (·.1), wsum us m (m + ((k : Int) + 1) * e) ≤ s + k
instance (s e : Int) (us : Us) (k : Nat) : Decidable (OkP s e us k) := by unfold OkP; infer_instance
def allB (s e : Int) (n : Nat) (us : Us) : Bool := (List.range n).all fun k => decide (OkP s e us k)
theorem fst_ones (ms : List Int) : (ones ms).map (·.1) = ms := by
  unfold ones
  rw [List.map_map]
  have : ((fun x : Int × Int => x.1) ∘ fun m : Int => (m, (1 : Int))) = id := rfl
  rw [this, List.map_id]
theorem bucket {s e base sv due : Int} {n : Nat} {ms : List Int} (he : 1 ≤ e) (hs : 1 ≤ s) (hsort : ms.Pairwise (· ≤ ·)) (hle : ∀ m ∈ ms, base ≤ m ∧ m ≤ sv) (h0 : 0 ≤ base) (hb : base ≤ sv) (hst : sv < base + e * n) (hB : Bk e ms due)
    (ok : ∀ k, k < n → OkP s e (ones ms) k) : decide (due ≤ sv + (s - 1) * e) = allB s e n (ones (ms ++ [sv])) := by
  have key : due ≤ sv + (s - 1) * e ↔ ∀ k, k < n → OkP s e (ones (ms ++ [sv])) k := by
    constructor
    · intro hd k hk m hm
      rw [fst_ones] at hm
      have hmv : m ≤ sv := by
        rcases List.mem_append.mp hm with hm | hm
        · exact (hle m hm).2
        · rw [List.mem_singleton.mp hm]; exact Int.le_refl _
      by_cases hin : sv < m + ((k : Int) + 1) * e
      · -- the row from the first moment that is m on
        have hsp : ms ++ [sv] = (ms ++ [sv]).takeWhile (fun x => decide (x < m)) ++ (ms ++ [sv]).dropWhile (fun x => decide (x < m)) := (List.takeWhile_append_dropWhile).symm
        generalize hA : (ms ++ [sv]).takeWhile (fun x => decide (x < m)) = A at hsp
        generalize hC : (ms ++ [sv]).dropWhile (fun x => decide (x < m)) = C at hsp
        have hAlt : ∀ x ∈ A, x < m := fun x hx => by
          rw [← hA] at hx
          exact of_decide_eq_true (List.all_eq_true.mp List.all_takeWhile x hx)
        have hCne : C ≠ [] := fun z => by
          rw [z, List.append_nil] at hsp
          rw [hsp] at hm
          have := hAlt m hm
          omega
        obtain ⟨c, C', rfl⟩ := List.exists_cons_of_ne_nil hCne
        have hcge : m ≤ c := by
          have h1 : ¬ (decide (c < m)) = true := by
            have h2 := List.head?_dropWhile_not (p := fun x : Int => decide (x < m)) (l := ms ++ [sv])
            rw [hC] at h2
            simpa using h2
          simpa using h1
        have e1 : wsum (ones (ms ++ [sv])) m (m + ((k : Int) + 1) * e) ≤ (C'.length : Int) + 1 := by
          rw [hsp, ones_app, wsum_app, ones_none hAlt]
          have := ones_le m (m + ((k : Int) + 1) * e) (c :: C')
          rw [List.length_cons] at this
          omega
        rcases snoc_split hsp with ⟨rfl, _, _⟩ | ⟨B', hB', hms⟩
        · have : wsum (ones (ms ++ [sv])) m (m + ((k : Int) + 1) * e) ≤ 1 := by simpa using e1
          omega
        · have h1 := hB.lo A c B' hms
          rw [hB', List.length_append] at e1
          have e1 : wsum (ones (ms ++ [sv])) m (m + ((k : Int) + 1) * e) ≤ (B'.length : Int) + 2 := by
            refine Int.le_trans e1 ?_
            show ((B'.length + 1 : Nat) : Int) + 1 ≤ _
            omega
          have h2 : ((B'.length : Int) + 1) * e < ((s - 1) + ((k : Int) + 1)) * e := by
            rw [Int.add_mul (s - 1)]
            omega
          have h3 := Int.lt_of_mul_lt_mul_right h2 (by omega)
          omega
      · -- the new one lies behind the stretch
        have hm2 : m ∈ ms := by
          rcases List.mem_append.mp hm with hm | hm
          · exact hm
          · have q := List.mem_singleton.mp hm
            have hp : 1 ≤ ((k : Int) + 1) * e := by
              have := Int.mul_le_mul_of_nonneg_left he (show 0 ≤ (k : Int) + 1 by omega)
              omega
            omega
        have h1 := ok k hk m (by rw [fst_ones]; exact hm2)
        rw [ones_app, wsum_app]
        have e0 : wsum (ones [sv]) m (m + ((k : Int) + 1) * e) = 0 := by
          show (if m ≤ sv ∧ sv < m + ((k : Int) + 1) * e then (1 : Int) else 0) + 0 = 0
          rw [if_neg (by omega)]
          rfl
        omega
    · intro hall
      by_cases hd : due ≤ sv + (s - 1) * e
      · exact hd
      · exfalso
        rcases hB.hi with ⟨_, hz⟩ | ⟨A, m, B, hms, hdue⟩
        · have : 0 ≤ (s - 1) * e := Int.mul_nonneg (by omega) (by omega)
          omega
        · have hmm : m ∈ ms := by rw [hms]; simp
          have hmb := hle m hmm
          have hge : ∀ x ∈ m :: (B ++ [sv]), m ≤ x ∧ x ≤ sv := fun x hx => by
            rcases List.mem_cons.mp hx with rfl | hx
            · exact ⟨Int.le_refl _, hmb.2⟩
            · rcases List.mem_append.mp hx with hx | hx
              · have hp := hsort
                rw [hms, List.pairwise_append] at hp
                have hp2 := (List.pairwise_cons.mp hp.2.1).1 x hx
                exact ⟨hp2, (hle x (by rw [hms]; simp [hx])).2⟩
              · rw [List.mem_singleton.mp hx]
                exact ⟨hmb.2, Int.le_refl _⟩
          have etot : ∀ k : Nat, sv < m + ((k : Int) + 1) * e → (B.length : Int) + 2 ≤ wsum (ones (ms ++ [sv])) m (m + ((k : Int) + 1) * e) := fun k hk => by
            have esp : ms ++ [sv] = A ++ (m :: (B ++ [sv])) := by rw [hms]; simp
            rw [esp, ones_app, wsum_app, ones_all (C := m :: (B ++ [sv])) (fun x hx => ⟨(hge x hx).1, by have := (hge x hx).2; omega⟩)]
            have := ones_nn m (m + ((k : Int) + 1) * e) A
            rw [List.length_cons, List.length_append]
            show (B.length : Int) + 2 ≤ _ + ((B.length + 1 + 1 : Nat) : Int)
            omega
          have hmem : m ∈ (ones (ms ++ [sv])).map (·.1) := by rw [fst_ones]; exact List.mem_append_left _ hmm
          -- q = how many more than s
          have hq : sv < m + ((B.length : Int) + 2 - s) * e := by
            have e3 : ((B.length : Int) + 1) * e = ((B.length : Int) + 2 - s) * e + (s - 1) * e := by
              rw [← Int.add_mul]
              congr 1
              omega
            omega
          have hq1 : 1 ≤ (B.length : Int) + 2 - s := by
            by_cases h : 1 ≤ (B.length : Int) + 2 - s
            · exact h
            · have : ((B.length : Int) + 2 - s) * e ≤ 0 := Int.mul_nonpos_of_nonpos_of_nonneg (by omega) (by omega)
              omega
          by_cases hqn : (B.length : Int) + 2 - s ≤ n
          · obtain ⟨k, hk⟩ := Int.eq_ofNat_of_zero_le (show 0 ≤ (B.length : Int) + 2 - s - 1 by omega)
            have hk2 : (k : Int) + 1 = (B.length : Int) + 2 - s := by omega
            have h1 := etot k (by rw [hk2]; exact hq)
            have h2 := hall k (by omega) m hmem
            omega
          · have hn : 1 ≤ n := by
              by_cases h : n = 0
              · subst h
                have : e * ((0 : Nat) : Int) = 0 := by simp
                omega
              · omega
            obtain ⟨k, hk⟩ : ∃ k : Nat, n = k + 1 := ⟨n - 1, by omega⟩
            have hk2 : ((k : Int) + 1) * e = e * n := by
              rw [hk, Int.mul_comm]
              congr 1
            have h1 := etot k (by rw [hk2]; omega)
            have h2 := hall k (by omega) m hmem
            omega
  unfold allB
  rw [Bool.eq_iff_iff, decide_eq_true_iff, List.all_eq_true, key]
  constructor
  · exact fun h k hk => decide_eq_true (h k (List.mem_range.mp hk))
  · exact fun h k hk => of_decide_eq_true (h k (List.mem_range.mpr hk))
end

section
variable {w : World} {K : PySem.W.Frag} {mg : Str → Option Value} {base : Heap}
/-! ### whether all rules let a request by -/
theorem within_ok {wd c v : Int} {us : Us} {st : Option Int} (h0 : 0 ≤ c) (h : Full (.win wd) us v st) : (v ≤ c ↔ ∀ m ∈ us.map (·.1), wsum us m (m + wd) ≤ c) := by
  rcases h with ⟨e, rfl, _⟩ | ⟨m, hm, _, rfl, k1, _⟩
  · exact ⟨fun _ m hm => (by rw [e] at hm; cases hm), fun _ => h0⟩
  · exact ⟨fun hv y hy => Int.le_trans (k1 y hy) hv, fun hall => hall m hm⟩
theorem inv_false : ∀ bs : List Bool, inV (.bl false) (bs.map V.bl) = !(bs.all id)
  | [] => rfl
  | b :: bs => by
    have ih := inv_false bs
    unfold inV at ih ⊢
    rw [List.map_cons, List.any_cons, ih, List.all_cons]
    cases b <;> cases bs.all id <;> rfl
theorem flat_bl (bs : List Bool) : (bs.map V.bl).all flatV = true := by
  rw [List.all_map, List.all_eq_true]
  intro b _
  rfl
theorem k_inL {x : V} {p : Addr} {xs : List V} {neg : Bool} {H : Hp} {Q : VK} (h : SqL K H p xs) (fx : flatV x = true) (fs : xs.all flatV = true) (k : Q (.bl (if neg then !inV x xs else inV x xs)) H) : rIn K neg x (.ref p) H Q := ⟨p, xs, rfl, .inl h, fx, fs, k⟩
def spLet (T : Tx K mg) : Sp := fun vs H Q _ => ∃ (t u : Addr) (z : Str) (s e sv : Int) (n : Nat) (l : UL), vs = [.ref t, .ref u, .int sv] ∧ LadAt T H t z s e n ∧ n ≤ 9 ∧ 1 ≤ s ∧ 1 ≤ e ∧ e * n ≤ 1000 ∧ H u = some (.lst (rfU l)) ∧ PairsAt H l ∧ l.length ≤ 20 ∧ (∀ y ∈ usL l, y.2 = 1) ∧
  ∀ H', Same H H' → Q (.bl (allB s e n (usL l ++ [(sv, 1)]))) H'
theorem ok_let (T : Tx K mg) : FnOk P w K mg base CX0 11 T.a_let T.fd_let P_let (spLet T) := by
  refine T.F_let.ok sc_let (fun vs H Q E h => ?_) (fun cdv A outer s H vs Q E hr h => ?_)
  · obtain ⟨t, u, z, s, e, sv, n, l, rfl, _⟩ := h
    rfl
  · obtain ⟨t, u, z, sz, ev, sv, n, l, rfl, ⟨rs, ht, hlen, hrs⟩, n9, s1, e1, en, hu, hpl, hl20, hone, k⟩ := h
    have nd := sc_let.nd
    refine ⟨_, (pss_cons (ps_setLc (i := 3) (own := [("_law_one", 4)]) rfl nd rfl (locB_ok l_let_law_told) (sw_true rfl (locB_ok l_let_law_told) rfl (by decide +kernel)) (kpi_list K (kv (i := 0) v_let_law_rules)) ok_cs_let_2 (fun _ _ _ _ _ => (kgL (i := 4) nd l_let_2_law_one)) (fun _ _ _ _ _ => pts_nil) (fun _ _ _ _ _ => (pe_call (ok_is_within T) (hr.mono (by first | decide | omega)) g_let_2_is_within T.m_is_within T.k_is_within T.b_is_within .nil pass0 (pa_cons (kv (i := 4) v_let_2_law_one) (pa_cons (pe_op kop_add (kv (i := 1) v_let_2_law_gone) (pe_lst (pa_cons (pe_tup (pa_cons (kv (i := 2) v_let_2_law_s) (pa_cons pe_int pa_nil))) pa_nil))) pa_nil)))))
      (pss_one (ps_ret (pe_ifExp (pt_cmpR (kop_in K) pe_bl (pe_lc (own := [("_law_part", 5)]) rfl nd (kpi_list K (kv (i := 3) v_let_law_told)) ok_cs_let_1 (fun _ _ _ _ _ => (kgL (i := 5) nd l_let_1_law_part)) (fun _ _ _ _ _ => pts_nil) (fun _ _ _ _ _ => (kcB b_isinstance (by decide) (by decide) (kc_isi K) g_let_1_isinstance T.n_isinstance (pa_cons (kv (i := 5) v_let_1_law_part) (pa_cons (kty_bool g_let_1_bool T.n_bool) pa_nil))))) (by rfl)) pe_non (pe_cmpR (kop_nin K) pe_bl (kv (i := 3) v_let_law_told) (by rfl)))))), ?_⟩
    walk_at "ss"
    refine k_iL (SqL.of ht) ?_
    intro D nD
    refine k_lcList (rs.map V.ref) (fun i H' => H' D = some (.lst (((List.range i).map fun k => decide (OkP sz ev (usL l ++ [(sv, 1)]) k)).map V.bl)) ∧ Same H H') ⟨upd_same, same_new nD⟩ ?_ ?_ ?_
    · rintro i H' _ ⟨_, sm⟩
      exact SqL.of (sm _ _ ht)
    · rintro i x H' hx ⟨hD, sm⟩
      obtain ⟨r, hr1, rfl⟩ : ∃ r, rs[i]? = some r ∧ x = V.ref r := by
        rw [List.getElem?_map] at hx
        cases hq : rs[i]? with
        | none => rw [hq] at hx; cases hx
        | some r => rw [hq] at hx; exact ⟨r, rfl, (Option.some.inj hx).symm⟩
      have hil : i < n := by rw [← hlen]; exact (List.getElem?_eq_some_iff.mp hr1).1
      have hR := (hrs i r hr1).up sm
      have hm := mul_le (i := i) (n := n) (e := ev) (by omega) e1
      have hu1 := sm _ _ hu
      refine k_gName ?_
      refine ⟨rfl, ?_⟩
      walk_at "ss"
      intro tp ntp
      generalize eD : upd H' tp _ = H2
      have s2 := upd_sm eD ntp
      have htp := upd_at eD
      clear eD
      walk_at "ss"
      intro l1 nl1
      generalize eD : upd H2 l1 _ = H3
      have s3 := upd_sm eD nl1
      have hl1 := upd_at eD
      clear eD
      refine k_addL (s3 _ _ (s2 _ _ hu1)) hl1 (by rw [List.length_map]; simp; omega) ?_
      intro l2 nl2
      generalize eD : upd H3 l2 _ = H4
      have s4 := upd_sm eD nl2
      have hl2 := upd_at eD
      clear eD
      have s24 := (s2.trans s3).trans s4
      have hPl : PairsAt H4 (l ++ [(tp, sv, 1)]) := fun y hy => by
        rcases List.mem_append.mp hy with hy | hy
        · exact s24 _ _ (sm _ _ (hpl y hy))
        · rw [List.mem_singleton.mp hy]
          exact s4 _ _ (s3 _ _ htp)
      have eus : usL (l ++ [(tp, sv, 1)]) = usL l ++ [(sv, 1)] := by unfold usL; rw [List.map_append]; rfl
      refine ⟨r, l2, _, _, _, l ++ [(tp, sv, 1)], rfl, hR.up s24, ⟨by omega, by omega⟩, ⟨.inl (by rw [hl2]; simp [rfU]), hPl, by simp; omega, fun y hy => ?_⟩, fun v st H5 s5 hf => ?_⟩
      · rw [eus] at hy
        rcases List.mem_append.mp hy with hy | hy
        · rw [hone y hy]; exact Int.le_refl _
        · rw [List.mem_singleton.mp hy]; exact Int.le_refl _
      · rw [eus] at hf
        have s25 := s24.trans s5
        refine ⟨_, s25 _ _ hD, small_lt (by simp; omega), ?_, same_put (sm.trans s25) nD⟩
        rw [upd_same, List.range_succ, List.map_append, List.map_append, decide_eq_decide.mpr (show v ≤ sz + (i : Int) ↔ OkP sz ev (usL l ++ [(sv, 1)]) i from within_ok (by omega) hf)]
        rfl
    · rintro H' ⟨hD, sm⟩
      rw [List.length_map, hlen] at hD
      generalize eb : (List.range n).map (fun k => decide (OkP sz ev (usL l ++ [(sv, 1)]) k)) = bs at hD
      have ebl : bs.length = n := by rw [← eb]; simp
      walk_at "ss"
      refine k_iL (SqL.of hD) ?_
      intro D2 nD2
      refine k_lcList (bs.map V.bl) (fun i H2 => H2 D2 = some (.lst ((List.replicate i true).map V.bl)) ∧ Same H' H2) ⟨upd_same, same_new nD2⟩ ?_ ?_ ?_
      · rintro i H2 _ ⟨_, s2⟩
        exact SqL.of (s2 _ _ hD)
      · rintro i x H2 hx ⟨hD2, s2⟩
        obtain ⟨bb, rfl, hib⟩ : ∃ bb, x = V.bl bb ∧ i < bs.length := by
          rw [List.getElem?_map] at hx
          cases hq : bs[i]? with
          | none => rw [hq] at hx; cases hx
          | some r => rw [hq] at hx; exact ⟨r, (Option.some.inj hx).symm, (List.getElem?_eq_some_iff.mp hq).1⟩
        refine k_gName ?_
        refine ⟨rfl, ?_⟩
        walk_at "ss"
        refine ⟨_, hD2, small_lt (by simp; omega), ?_, same_put s2 nD2⟩
        rw [upd_same, List.replicate_succ', List.map_append]
        rfl
      · rintro H2 ⟨hD2, s2⟩
        refine k_inL (SqL.of hD2) rfl (flat_bl _) ?_
        rw [inv_false]
        have er : (List.replicate (List.map V.bl bs).length true).all id = true := by simp
        rw [er]
        walk_at "ss"
        show if (false : Bool) = true then _ else _
        refine k_f ?_
        walk_at "ss"
        refine k_inL (SqL.of (s2 _ _ hD)) rfl (flat_bl _) ?_
        rw [inv_false]
        have ea : bs.all id = allB sz ev n (usL l ++ [(sv, 1)]) := by
          rw [← eb, List.all_map]; rfl
        have ef : (if true = true then !!(bs.all id) else !(bs.all id)) = allB sz ev n (usL l ++ [(sv, 1)]) := by
          rw [if_pos rfl, Bool.not_not, ea]
        rw [ef]
        exact k _ (sm.trans s2)
end

section
variable {w : World} {K : PySem.W.Frag} {mg : Str → Option Value} {base : Heap}
/-! ### requests beside the bucket -/
theorem k_trip {u v w : V} {P : V → V → V → Prop} (h : P u v w) : ∃ a b c, [u, v, w] = [a, b, c] ∧ P a b c := ⟨u, v, w, rfl, h⟩
theorem k_par3 {σ : L2.St} {H : Hp} {D : Ends} {i j l : Nat} {ta : TA} (h : ta σ H fun vs H1 => ∃ u v w, vs = [u, v, w] ∧ D.nx (((σ.set i (some u)).set j (some v)).set l (some w)) H1) : tPar3 i j l ta D σ H := h
theorem okP_nil (s e : Int) (k : Nat) : OkP s e (ones []) k := fun m hm => by rw [fst_ones] at hm; cases hm
theorem all_ok {s e : Int} {n : Nat} {us : Us} (h : allB s e n us = true) : ∀ k, k < n → OkP s e us k := fun k hk => of_decide_eq_true (List.all_eq_true.mp h k (List.mem_range.mpr hk))
structure AI (K : PySem.W.Frag) (G0 G : Hp) (b u : Addr) (s e bs : Int) (n i : Nat) (G' : Hp) (β' : HO) (l : UL) (ms : List Int) (due sv : Int) : Prop where
  bag : Bag K G0 G' b β'
  sm : Same G G'
  gone : G' u = some (.lst (rfU l))
  prs : PairsAt G' l
  us : usL l = ones ms
  len : l.length ≤ i
  srt : ms.Pairwise (· ≤ ·)
  le : ∀ m ∈ ms, bs ≤ m ∧ m ≤ sv
  b0 : bs ≤ sv
  b1 : sv < bs + e * n
  bk : Bk e ms due
  ok : ∀ k, k < n → OkP s e (ones ms) k
theorem AI.bagD {G0 G G' : Hp} {b u : Addr} {s e bs due sv : Int} {n i : Nat} {β' β2 : HO} {l : UL} {ms : List Int} (h : AI K G0 G b u s e bs n i G' β' l ms due sv) (hb : Bag K G0 G' b β2) : AI K G0 G b u s e bs n i G' β2 l ms due sv := ⟨hb, h.sm, h.gone, h.prs, h.us, h.len, h.srt, h.le, h.b0, h.b1, h.bk, h.ok⟩
theorem AI.up {G0 G G' G2 : Hp} {b u : Addr} {s e bs due sv : Int} {n i : Nat} {β' : HO} {l : UL} {ms : List Int} (h : AI K G0 G b u s e bs n i G' β' l ms due sv) (e2 : Same G' G2) (nb : G2 b = none) : AI K G0 G b u s e bs n i G2 β' l ms due sv := ⟨h.bag.up e2 nb, h.sm.trans e2, e2 _ _ h.gone, h.prs.up e2, h.us, h.len, h.srt, h.le, h.b0, h.b1, h.bk, h.ok⟩
theorem AI.to {G0 G G' : Hp} {b u : Addr} {s e bs due sv sv' : Int} {n i : Nat} {β' : HO} {l : UL} {ms : List Int} (h : AI K G0 G b u s e bs n i G' β' l ms due sv) (h1 : sv ≤ sv') (h2 : sv' < bs + e * n) : AI K G0 G b u s e bs n i G' β' l ms due sv' := ⟨h.bag, h.sm, h.gone, h.prs, h.us, h.len, h.srt, fun m hm => ⟨(h.le m hm).1, Int.le_trans (h.le m hm).2 h1⟩, Int.le_trans h.b0 h1, h2, h.bk, h.ok⟩
def spAsked (T : Tx K mg) : Sp := fun vs H Q _ => ∃ (G0 G : Hp) (b L t : Addr) (β : HO) (v0 v1 v2 v3 : V) (z : Str) (s e : Int) (n : Nat), vs = [.ref b, .ref L, .ref t] ∧ H = upd G b β ∧ Bag K G0 G b β ∧ G L = some (.lst [v0, v1, v2, v3]) ∧ LadOk v0 v1 v2 v3 z s e n ∧ LadAt T G t z s e n ∧
  ∀ (G' : Hp) (β' : HO), Same G G' → Bag K G0 G' b β' → Q (.bl true) (upd G' b β')
theorem ok_asked_so (T : Tx K mg) : FnOk P w K mg base CX0 13 T.a_asked_so T.fd_asked_so P_asked_so (spAsked T) := by
  refine T.F_asked_so.ok sc_asked_so (fun vs H Q E h => ?_) (fun cdv A outer s H vs Q E hr h => ?_)
  · obtain ⟨G0, G, b, L, t, β, v0, v1, v2, v3, z, s, e, n, rfl, _⟩ := h
    rfl
  · obtain ⟨G0, G, b, L, t, β, v0, v1, v2, v3, z, sz, ev, n, rfl, rfl, hb, hL, ok, hlad, k⟩ := h
    obtain ⟨rfl, rfl, rfl, rfl, hnm, h7, s0, n0, n1, x0, sn, en⟩ := ok
    have nd := sc_asked_so.nd
    have e1000 : ev ≤ 1000 := by
      have := Int.mul_le_mul_of_nonneg_left (show (1 : Int) ≤ n by omega) (show 0 ≤ ev by omega)
      omega
    refine ⟨_, (pss_cons (ks_setL (i := 3) nd l_asked_so_law_base (pe_call (ok_of T) (hr.mono (by first | decide | omega)) g_asked_so_law_of T.m_of T.k_of T.b_of .nil pass0 (pa_cons (kv (i := 0) v_asked_so_law_bag_here) (pa_cons (pe_lst (pa_cons pe_int (pa_cons pe_int (pa_cons (pe_call (ok_draw T) (hr.mono (by first | decide | omega)) g_asked_so_law_draw T.m_draw T.k_draw T.b_draw .nil pass0 (pa_cons (kv (i := 0) v_asked_so_law_bag_here) (pa_cons pe_int pa_nil))) (pa_cons pe_int pa_nil))))) pa_nil))))
      (pss_cons (ks_setL (i := 4) nd l_asked_so_law_stop (pe_op kop_add (kv (i := 3) v_asked_so_law_base) (pe_op op_mul (pe_ix (kix K) (kv (i := 1) v_asked_so_law_parts) pe_int (fun _ _ => rfl)) (pe_ix (kix K) (kv (i := 1) v_asked_so_law_parts) pe_int (fun _ _ => rfl)))))
      (pss_cons (ks_setL (i := 5) nd l_asked_so_law_room (pe_op op_mul (pe_op op_sub (pe_ix (kix K) (kv (i := 1) v_asked_so_law_parts) pe_int (fun _ _ => rfl)) pe_int) (pe_ix (kix K) (kv (i := 1) v_asked_so_law_parts) pe_int (fun _ _ => rfl))))
      (pss_cons (ps_asg (pe_tup (pa_cons (pe_lst pa_nil) (pa_cons pe_int (pa_cons (kv (i := 3) v_asked_so_law_base) pa_nil)))) (kpg_tup K 3 rfl (pgs_cons (kgC (i := 6) nd c_asked_so_law_gone) (pgs_cons (kgL (i := 7) nd l_asked_so_law_due) (pgs_cons (kgL (i := 8) nd l_asked_so_law_s) pgs_nil)))))
      (pss_cons (ps_for PassesOwn.never rfl (pi_range1 g_asked_so_range T.n_range (pa_cons pe_int pa_nil)) (kgL (i := 9) nd l_asked_so_law_k) (pss_cons (ks_setL (i := 10) nd l_asked_so_law_lets (pe_cmpR op_le (kv (i := 7) v_asked_so_law_due) (pe_op kop_add (kv (i := 8) v_asked_so_law_s) (kv (i := 5) v_asked_so_law_room)) (nomark _)))
      (pss_cons (ps_if (pt_not (pt_val (pe_call (ok_like T) (hr.mono (by first | decide | omega)) g_asked_so_law_like T.m_like T.k_like T.b_like .nil pass0 (pa_cons (pe_call (ok_let T) (hr.mono (by first | decide | omega)) g_asked_so_law_let T.m_let T.k_let T.b_let .nil pass0 (pa_cons (kv (i := 2) v_asked_so_law_rules) (pa_cons (kv (i := 6) v_asked_so_law_gone) (pa_cons (kv (i := 8) v_asked_so_law_s) pa_nil)))) (pa_cons (kv (i := 10) v_asked_so_law_lets) pa_nil))))) (pss_one (ps_ret pe_bl)) pss_nil)
      (kss_meet (ps_if (pt_val (kv (i := 10) v_asked_so_law_lets)) (pss_cons (ps_expr (pe_bm PySem.F.plainAttrs_list PySem.F.slot_list_append PySem.F.type_list_append mt_append (kv (i := 6) v_asked_so_law_gone) (pa_cons (pe_tup (pa_cons (kv (i := 8) v_asked_so_law_s) (pa_cons pe_int pa_nil))) pa_nil)))
      (pss_one (ks_setL (i := 7) nd l_asked_so_law_due (pe_op kop_add (kcB b_max (by decide) (by decide) (kc_max2 rfl) g_asked_so_max T.n_max (pa_cons (kv (i := 7) v_asked_so_law_due) (pa_cons (kv (i := 8) v_asked_so_law_s) pa_nil))) (pe_ix (kix K) (kv (i := 1) v_asked_so_law_parts) pe_int (fun _ _ => rfl)))))) pss_nil)
      (pss_cons (ks_setL (i := 11) nd l_asked_so_law_step (pe_op kop_add (kv (i := 8) v_asked_so_law_s) (pe_call (ok_draw T) (hr.mono (by first | decide | omega)) g_asked_so_law_draw T.m_draw T.k_draw T.b_draw .nil pass0 (pa_cons (kv (i := 0) v_asked_so_law_bag_here) (pa_cons (pe_op kop_add pe_int (pe_op op_mul (pe_ix (kix K) (kv (i := 1) v_asked_so_law_parts) pe_int (fun _ _ => rfl)) (pe_call (ok_of T) (hr.mono (by first | decide | omega)) g_asked_so_law_of T.m_of T.k_of T.b_of .nil pass0 (pa_cons (kv (i := 0) v_asked_so_law_bag_here) (pa_cons (pe_lst (pa_cons pe_int (pa_cons pe_int (pa_cons pe_int (pa_cons pe_int pa_nil))))) pa_nil))))) pa_nil)))))
      (kss_meet (ps_if (pt_cmpR op_eq (pe_call (ok_draw T) (hr.mono (by first | decide | omega)) g_asked_so_law_draw T.m_draw T.k_draw T.b_draw .nil pass0 (pa_cons (kv (i := 0) v_asked_so_law_bag_here) (pa_cons pe_int pa_nil))) pe_int (nomark _)) (pss_one (ks_setL (i := 11) nd l_asked_so_law_step (pe_op op_sub (pe_op kop_add (pe_op op_sub (kv (i := 7) v_asked_so_law_due) (kv (i := 5) v_asked_so_law_room)) (pe_call (ok_draw T) (hr.mono (by first | decide | omega)) g_asked_so_law_draw T.m_draw T.k_draw T.b_draw .nil pass0 (pa_cons (kv (i := 0) v_asked_so_law_bag_here) (pa_cons pe_int pa_nil)))) pe_int))) pss_nil)
      (pss_one (ps_if (PW.pt (pw_and (pt_cmpR op_le (kv (i := 8) v_asked_so_law_s) (kv (i := 11) v_asked_so_law_step) (nomark _)) (pw_and1 (pt_cmpR op_lt (kv (i := 11) v_asked_so_law_step) (kv (i := 4) v_asked_so_law_stop) (nomark _))))) (pss_one (ks_setL (i := 8) nd l_asked_so_law_s (kv (i := 11) v_asked_so_law_step))) pss_nil))))))))
      (pss_one (ps_ret (kcB b_all (by decide) (by decide) (cr_all rfl) g_asked_so_all T.n_all (pa_cons (pe_lc (own := [("_law_one", 12)]) rfl nd (kpi_list K (kv (i := 2) v_asked_so_law_rules)) ok_cs_asked_so_1 (fun _ _ _ _ _ => (kgL (i := 12) nd l_asked_so_1_law_one)) (fun _ _ _ _ _ => pts_nil) (fun _ _ _ _ _ => (pe_callKS (E := fun _ => E0) (ok_is_within T) (hr.mono (by first | decide | omega)) g_asked_so_1_is_within T.m_is_within T.k_is_within T.kb_is_within_rule_uses pass0At (pk_cons (kv (i := 12) v_asked_so_1_law_one) (pk_cons (kcT b_tuple (by decide) (by decide) (kc_tuple K) g_asked_so_1_tuple T.n_tuple (pa_cons (kv (i := 6) v_asked_so_1_law_gone) pa_nil)) pk_nil))))) pa_nil))))))))), ?_⟩
    walk_at "ss"
    refine k_draw hb (by decide) (by decide) fun d0 β1 d00 d01 hb => ?_
    walk_at "ss"
    intro t1 nt_t1
    rw [upd_swap (up_none nt_t1).2]
    generalize eG_t1 : upd _ t1 _ = G1
    obtain ⟨nb1, sm1, ht1, nt_t1, nG_t1⟩ := new_facts hb.nb nt_t1 eG_t1
    clear eG_t1
    have hb1 := hb.up sm1 nb1
    walk_at "ss"
    refine k_of hb1 (SqL.of ht1) (by simp) (by simp) fun vb β2 hvb hb1 => ?_
    obtain ⟨bs, rfl, hbs0, hbs1⟩ : ∃ bs : Int, vb = .int bs ∧ 0 ≤ bs ∧ bs ≤ 9000 := by
      simp only [List.mem_cons, List.not_mem_nil, or_false] at hvb
      rcases hvb with rfl | rfl | rfl | rfl <;> exact ⟨_, rfl, by omega, by omega⟩
    have hLu := up_get (β := β2) nb1 (sm1 _ _ hL)
    have hen : 1 ≤ ev * n := by
      have := Int.mul_le_mul_of_nonneg_left (show (1 : Int) ≤ n by omega) (show 0 ≤ ev by omega)
      omega
    walk_at "ss"
    intro u nt_u
    rw [upd_swap (up_none nt_u).2]
    generalize eG_u : upd _ u _ = Gu
    obtain ⟨nbu, smu, hu, nt_u, nG_u⟩ := new_facts nb1 nt_u eG_u
    clear eG_u
    have hb2 := hb1.up smu nbu
    walk_at "ss"
    intro t0 nt_t0
    rw [upd_swap (up_none nt_t0).2]
    generalize eG_t0 : upd _ t0 _ = G2
    obtain ⟨nb2, sm0, ht0, nt_t0, nG_t0⟩ := new_facts nbu nt_t0 eG_t0
    clear eG_t0
    have hb2 := hb2.up sm0 nb2
    have hu := sm0 _ _ hu
    have ht0u := up_get (β := β2) nb2 ht0
    walk_at "ss"
    have sm12 := sm1.trans (smu.trans sm0)
    have nuG : G u = none := g_none sm1 nG_u
    have nu0 : G0 u = none := g_none hb.sm nuG
    generalize erm : (sz - 1) * ev = rm
    generalize est : bs + ev * (n : Int) = st
    refine k_r1 ⟨by decide, by decide⟩ ?_
    refine k_forRange (n := 16) (fun i σ H' => ∃ (G' : Hp) (β' : HO) (l : UL) (ms : List Int) (due sv : Int) (u9 u10 u11 u12 : Option V), σ = [some (.ref b), some (.ref L), some (.ref t), some (.int bs), some (.int st), some (.int rm), some (.ref u), some (.int due), some (.int sv), u9, u10, u11, u12] ∧ H' = upd G' b β' ∧ AI K G0 G b u sz ev bs n i G' β' l ms due sv)
      ⟨G2, _, [], [], 0, bs, _, _, _, _, rfl, rfl, ⟨hb2, sm12, hu, fun y hy => (by cases hy), rfl, Nat.zero_le _, .nil, fun m hm => (by cases hm), Int.le_refl _, by omega, bk_nil _, fun k _ => okP_nil _ _ _⟩⟩ ?_ ?_
    · rintro i σ H' hi ⟨G3, β3, l, ms, due, sv, u9, u10, u11, u12, rfl, rfl, I⟩
      have hone : ∀ y ∈ usL l, y.2 = 1 := fun y hy => by
        rw [I.us] at hy
        obtain ⟨m, _, rfl⟩ := List.mem_map.mp hy
        rfl
      have hsv0 := I.b0
      have hsv1 := I.b1
      walk_at "ss"
      refine ⟨t, u, z, sz, ev, sv, n, l, rfl, (hlad.up I.sm).up (up_same I.bag.nb), n1, s0, x0, en, up_get I.bag.nb I.gone, fun y hy => up_get I.bag.nb (I.prs y hy), by have := I.len; omega, hone, fun H4 s4 => ?_⟩
      obtain ⟨G4, nb4, s34, rfl⟩ := split_up I.bag.nb s4
      have I4 := I.up s34 nb4
      have ebk : decide (due ≤ sv + rm) = allB sz ev n (usL l ++ [(sv, 1)]) := by
        rw [I.us, ← erm]
        have := bucket (n := n) x0 s0 I.srt I.le hbs0 I.b0 (by omega) I.bk I.ok
        rw [this, ones_app]
        rfl
      rw [← ebk]
      walk_at "ss"
      refine ⟨_, _, rfl, Eqd.sc (.bl _) 3, fun H5 s5 => ?_⟩
      obtain ⟨G5, nb5, s45, rfl⟩ := split_up I4.bag.nb s5
      have I5 := I4.up s45 nb5
      walk_at "ss"
      refine k_meet (fun σ H' => ∃ (G' : Hp) (β' : HO) (l : UL) (ms : List Int) (due : Int) (u9 u10 : V) (u11 : Option V), σ = [some (.ref b), some (.ref L), some (.ref t), some (.int bs), some (.int st), some (.int rm), some (.ref u), some (.int due), some (.int sv), some u9, some u10, u11, u12] ∧ H' = upd G' b β' ∧ AI K G0 G b u sz ev bs n (i + 1) G' β' l ms due sv) ?_ ?_
      · walk_at "ss"
        refine k_d (fun hd => ?_) (fun hd => ?_)
        · walk_at "ss"
          refine k_bm ?_
          walk_at "ss"
          have hgu := up_get (β := β3) nb5 I5.gone
          refine ⟨.inl ⟨rfl, _, .inl (.inl hgu)⟩, ?_⟩
          walk_at "ss"
          intro tp nt_tp
          rw [upd_swap (up_none nt_tp).2]
          generalize eG_tp : upd _ tp _ = G6
          obtain ⟨nb6, s6, htp, nt_tp, nG_tp⟩ := new_facts nb5 nt_tp eG_tp
          clear eG_tp
          have I6 := I5.up s6 nb6
          walk_at "ss"
          refine k_app (up_get nb6 I6.gone) (by have := I6.len; rw [List.length_map]; omega) ?_
          have nub : u ≠ b := nt_u
          rw [upd_swap nub]
          generalize eG : upd G6 u _ = G7
          have hu7 : G7 u = some (.lst (rfU (l ++ [(tp, sv, 1)]))) := by
            rw [← eG, upd_same]; simp [rfU]
          have nb7 : G7 b = none := by rw [← eG, upd_ne (Ne.symm nub)]; exact nb6
          have s67 : ∀ a xs, G6 a = some (.tup xs) → G7 a = some (.tup xs) := fun a xs h => by
            rw [← eG, upd_ne (ne_of h I6.gone (by intro q; cases q))]
            exact h
          have sG7 : Same G G7 := by rw [← eG]; exact same_put I6.sm nuG
          have hb7 : Bag K G0 G7 b β3 := I6.bag.up0 (by rw [← eG]; exact same_put I6.bag.sm nu0) nb7
          have hLu7 := up_get (β := β3) nb7 (sG7 _ _ hL)
          clear eG
          walk_at "ss"
          have hall : allB sz ev n (usL l ++ [(sv, 1)]) = true := by rw [← ebk, decide_eq_true hd]
          refine ⟨G7, _, l ++ [(tp, sv, 1)], ms ++ [sv], _, _, _, _, rfl, rfl, ⟨hb7, sG7, hu7, fun y hy => ?_, ?_, by have := I6.len; simp; omega, ?_, ?_, hsv0, hsv1, bk_snoc I6.bk (by omega), ?_⟩⟩
          · rcases List.mem_append.mp hy with hy | hy
            · exact s67 _ _ (I6.prs y hy)
            · rw [List.mem_singleton.mp hy]
              exact s67 _ _ htp
          · unfold usL
            rw [List.map_append, ones_app, ← I6.us]
            rfl
          · rw [List.pairwise_append]
            exact ⟨I6.srt, List.pairwise_singleton _ _, fun a ha c hc => by rw [List.mem_singleton.mp hc]; exact (I6.le a ha).2⟩
          · intro m hm
            rcases List.mem_append.mp hm with hm | hm
            · exact I6.le m hm
            · rw [List.mem_singleton.mp hm]; exact ⟨hsv0, Int.le_refl _⟩
          · have e2 : ones (ms ++ [sv]) = usL l ++ [(sv, 1)] := by rw [ones_app, ← I6.us]; rfl
            rw [e2]
            exact all_ok hall
        · walk_at "ss"
          exact ⟨G5, _, l, ms, due, _, _, _, rfl, rfl, ⟨I5.bag, I5.sm, I5.gone, I5.prs, I5.us, by have := I5.len; omega, I5.srt, I5.le, I5.b0, I5.b1, I5.bk, I5.ok⟩⟩
      · rintro σ H' ⟨G6, β6, l6, ms6, due6, w9, w10, w11, rfl, rfl, I6⟩
        have hL6 := up_get (β := β6) I6.bag.nb (I6.sm _ _ hL)
        walk_at "ss"
        intro t8 nt_t8
        rw [upd_swap (up_none nt_t8).2]
        generalize eG_t8 : upd _ t8 _ = G8
        obtain ⟨nb8, s8, ht8, nt_t8, nG_t8⟩ := new_facts I6.bag.nb nt_t8 eG_t8
        clear eG_t8
        have I8 := I6.up s8 nb8
        walk_at "ss"
        refine k_of I8.bag (SqL.of ht8) (by simp) (by simp) fun vq β8 hvq hb8 => ?_
        obtain ⟨q, rfl, q0, q2⟩ : ∃ q : Int, vq = .int q ∧ 0 ≤ q ∧ q ≤ 2 := by
          simp only [List.mem_cons, List.not_mem_nil, or_false] at hvq
          rcases hvq with rfl | rfl | rfl | rfl <;> exact ⟨_, rfl, by decide, by decide⟩
        have hq1 : 0 ≤ ev * q ∧ ev * q ≤ 2000 := by
          have a1 := Int.mul_le_mul_of_nonneg_left q2 (show 0 ≤ ev by omega)
          have a2 := Int.mul_nonneg (show 0 ≤ ev by omega) q0
          omega
        walk_at "ss"
        refine k_draw hb8 (by omega) (by omega) fun d1 β9 d10 d11 hb9 => ?_
        walk_at "ss"
        refine k_meet (fun σ H' => ∃ (β' : HO) (stp : Int), σ = [some (.ref b), some (.ref L), some (.ref t), some (.int bs), some (.int st), some (.int rm), some (.ref u), some (.int due6), some (.int sv), some w9, some w10, some (.int stp), u12] ∧ H' = upd G8 b β' ∧ Bag K G0 G8 b β') ?_ ?_
        · walk_at "ss"
          refine k_draw hb9 (by decide) (by decide) fun d2 βA d20 d21 hbA => ?_
          walk_at "ss"
          refine k_d (fun h0 => ?_) (fun h0 => ?_)
          · walk_at "ss"
            refine k_draw hbA (by decide) (by decide) fun d3 βB d30 d31 hbB => ?_
            walk_at "ss"
            exact ⟨_, _, rfl, rfl, hbB⟩
          · walk_at "ss"
            exact ⟨_, _, rfl, rfl, hbA⟩
        · rintro σ H' ⟨βC, stp, rfl, rfl, hbC⟩
          have IC := I8.bagD hbC
          walk_at "ss"
          refine k_d (fun hs1 => ?_) (fun hs1 => ?_)
          · walk_at "ss"
            refine k_d (fun hs2 => ?_) (fun hs2 => ?_)
            · walk_at "ss"
              exact ⟨G8, βC, l6, ms6, due6, stp, _, _, _, _, rfl, rfl, IC.to hs1 (by omega)⟩
            · walk_at "ss"
              exact ⟨G8, βC, l6, ms6, due6, sv, _, _, _, _, rfl, rfl, IC⟩
          · walk_at "ss"
            exact ⟨G8, βC, l6, ms6, due6, sv, _, _, _, _, rfl, rfl, IC⟩
    · rintro σ H' ⟨G3, β3, l, ms, due, sv, u9, u10, u11, u12, rfl, rfl, I⟩
      obtain ⟨rs, ht, hlen, hrs⟩ := (hlad.up I.sm).up (up_same (β := β3) I.bag.nb)
      walk_at "ss"
      refine k_iL (SqL.of ht) ?_
      intro D nD
      have hgu := up_get (β := β3) I.bag.nb I.gone
      have hpu : PairsAt (upd G3 b β3) l := fun y hy => up_get I.bag.nb (I.prs y hy)
      have hl16 := I.len
      refine k_lcList (rs.map V.ref) (fun i H' => H' D = some (.lst ((List.replicate i true).map V.bl)) ∧ Same (upd G3 b β3) H') ⟨upd_same, same_new nD⟩ ?_ ?_ ?_
      · rintro i H' _ ⟨_, sm⟩
        exact SqL.of (sm _ _ ht)
      · rintro i x H' hx ⟨hD, sm⟩
        obtain ⟨r, hr1, rfl⟩ : ∃ r, rs[i]? = some r ∧ x = V.ref r := by
          rw [List.getElem?_map] at hx
          cases hq : rs[i]? with
          | none => rw [hq] at hx; cases hx
          | some r => rw [hq] at hx; exact ⟨r, rfl, (Option.some.inj hx).symm⟩
        have hil : i < n := by rw [← hlen]; exact (List.getElem?_eq_some_iff.mp hr1).1
        have hR := (hrs i r hr1).up sm
        have hm := mul_le (i := i) (n := n) (e := ev) (by omega) x0
        refine k_gName ?_
        refine ⟨rfl, ?_⟩
        walk_at "ss"
        refine k_callKS ?_
        walk_at "ss"
        refine k_tupleL (SqL.of (sm _ _ hgu)) ?_
        intro l2 nl2
        generalize eD : upd H' l2 _ = H2
        have s2 := upd_sm eD nl2
        have hl2 := upd_at eD
        clear eD
        walk_at "ss"
        show spWithin T [.ref r, .ref l2] H2 _ _
        refine ⟨r, l2, _, _, _, l, rfl, hR.up s2, ⟨by omega, by omega⟩, ⟨.inr hl2, fun y hy => s2 _ _ (sm _ _ (hpu y hy)), by omega, fun y hy => ?_⟩, fun v st5 H5 s5 hf => ?_⟩
        · rw [I.us] at hy
          obtain ⟨m, _, rfl⟩ := List.mem_map.mp hy
          exact Int.le_refl _
        · rw [I.us] at hf
          have hokk : v ≤ sz + (i : Int) := (within_ok (by omega) hf).mpr (I.ok i hil)
          have s25 := s2.trans s5
          refine ⟨_, s25 _ _ hD, small_lt (by simp; omega), ?_, same_put (sm.trans s25) nD⟩
          rw [upd_same, List.replicate_succ', List.map_append, decide_eq_true hokk]
          rfl
      · rintro H' ⟨hD, sm⟩
        obtain ⟨G9, nb9, s39, rfl⟩ := split_up I.bag.nb sm
        walk_at "ss"
        refine ⟨D, _, rfl, SqL.of hD, ?_⟩
        have er : (List.replicate (List.map V.ref rs).length true).all id = true := by simp
        rw [er]
        exact k G9 β3 (I.sm.trans s39) (I.bag.up s39 nb9)
end

section
open LamX
variable {w : World} {K : PySem.W.Frag} {mg : Str → Option Value} {base : Heap}
/-! ### the tables of code objects -/
abbrev lq (q : Str) : Str := (q ++ (".<locals>." : Str)) ++ ("<lambda>" : Str)
def TL_ (T : Tx K mg) : List (Addr × Str) := [(T.tb_law, lq "law"), (T.tb_one_rule_so, lq "_law_one_rule_so")]
theorem TM_law (T : Tx K mg) : (T.tb_law, lq "law") ∈ TL_ T := .head _
theorem TM_one_rule_so (T : Tx K mg) : (T.tb_one_rule_so, lq "_law_one_rule_so") ∈ TL_ T := .tail _ (.head _)
theorem TU_law (T : Tx K mg) : ∀ p ∈ TL_ T, p.1 = T.tb_law → p.2 = lq "law" := fun p hp e => by
  rcases List.mem_cons.mp hp with rfl | hp
  · rfl
  · rcases List.mem_cons.mp hp with rfl | hp
    · exact absurd e T.tne_one_rule_so_law
    · cases hp
theorem TU_one_rule_so (T : Tx K mg) : ∀ p ∈ TL_ T, p.1 = T.tb_one_rule_so → p.2 = lq "_law_one_rule_so" := fun p hp e => by
  rcases List.mem_cons.mp hp with rfl | hp
  · exact absurd e.symm T.tne_one_rule_so_law
  · rcases List.mem_cons.mp hp with rfl | hp
    · rfl
    · cases hp
theorem split_ext {G H1 : Hp} {b : Addr} {β : HO} (hb : G b = none) (nt : ∀ ps, β ≠ .tbl ps) (e : ExtN (upd G b β) H1) : ∃ G1, G1 b = none ∧ ExtN G G1 ∧ H1 = upd G1 b β := by
  refine ⟨fun a => if a = b then none else H1 a, if_pos rfl, fun a o h n => ?_, ?_⟩
  · have hne : a ≠ b := ne_of_none h hb
    show (if a = b then none else H1 a) = some o
    rw [if_neg hne]
    exact e _ _ (up_get hb h) n
  · funext a
    unfold upd
    by_cases h : a = b
    · rw [if_pos h, h]
      exact e _ _ upd_same nt
    · rw [if_neg h]
      show H1 a = if a = b then none else H1 a
      rw [if_neg h]
theorem ext_keep {F : Addr → Prop} {G G1 : Hp} (e : ExtN G G1) : Keep F G G1 := fun a o _ h n => e a o h n
theorem Bag.nt {G0 G : Hp} {b : Addr} {β : HO} (h : Bag K G0 G b β) : ∀ ps, β ≠ .tbl ps := by
  obtain ⟨l, ns, i, r, s, c, rfl, _⟩ := h.ex
  intro ps q
  cases q
theorem Bag.re {G0 G : Hp} {b : Addr} {β : HO} (h : Bag K G0 G b β) : Bag K G G b β := by
  obtain ⟨l, ns, i, r, s, c, rfl, hl, q⟩ := h.ex
  exact ⟨h.nb, Same.refl _, l, ns, i, r, s, c, rfl, h.sm.seq hl, q⟩
theorem seq_ext {G G1 : Hp} {l : Addr} {xs : List V} (h : SqL K G l xs) (e : ExtN G G1) : SqL K G1 l xs :=
  h.elim (fun h => .inl (h.elim (fun h => .inl (e _ _ h (fun ps z => by cases z))) fun ⟨o, h⟩ => .inr ⟨o, e _ _ h (fun ps z => by cases z)⟩)) fun h => .inr h
theorem Bag.ext {G0 G G1 : Hp} {b : Addr} {β : HO} (h : Bag K G0 G b β) (e : ExtN G G1) (n : G1 b = none) : Bag K G1 G1 b β := by
  obtain ⟨l, ns, i, r, s, c, rfl, hl, q⟩ := h.re.ex
  exact ⟨n, Same.refl _, l, ns, i, r, s, c, rfl, seq_ext hl e, q⟩
theorem RtTx.ext {T : Tx K mg} {G G1 : Hp} {a : Addr} {tx : Str} (h : RtTx T G a tx) (e : ExtN G G1) : RtTx T G1 a tx := by
  obtain ⟨C, dx, ns, vs, hC, hn, he⟩ := h
  exact ⟨C, dx, ns, vs, hC, hn, e _ _ he (fun ps z => by cases z)⟩
theorem RtTx.put {T : Tx K mg} {G : Hp} {a L : Addr} {tx : Str} {xs ys : List V} (h : RtTx T G a tx) (hL : G L = some (.lst xs)) : RtTx T (upd G L (.lst ys)) a tx := by
  obtain ⟨C, dx, ns, vs, hC, hn, he⟩ := h
  exact ⟨C, dx, ns, vs, hC, hn, (upd_ne (ne_of he hL (by intro q; cases q))).trans he⟩
theorem tabs_bag {T : List (Addr × Str)} {G : Hp} {b : Addr} {β β' : HO} (h : Tabs T (upd G b β)) (nt : ∀ ps, β ≠ .tbl ps) (nc : ∀ q, β ≠ CodeO b q) : Tabs T (upd G b β') := fun p hp => by
  obtain ⟨ps, h1, h2, h3⟩ := h p hp
  have n1 : p.1 ≠ b := fun z => by
    rw [z, upd_same] at h1
    exact nt ps (Option.some.inj h1)
  refine ⟨ps, by rw [upd_ne n1] at h1 ⊢; exact h1, h2, fun pos cv hc => ?_⟩
  obtain ⟨c, e1, e2⟩ := h3 pos cv hc
  have n2 : c ≠ b := fun z => by
    rw [z, upd_same] at e2
    exact nc _ (Option.some.inj e2)
  exact ⟨c, e1, by rw [upd_ne n2] at e2 ⊢; exact e2⟩
theorem Bag.nc {G0 G : Hp} {b c : Addr} {β : HO} (h : Bag K G0 G b β) : ∀ q, β ≠ CodeO c q := by
  obtain ⟨l, ns, i, r, s, cc, rfl, _⟩ := h.ex
  intro q z
  unfold CodeO at z
  cases z
/-- the tables stay behind what only makes objects and draws -/
theorem Tabs.bag {T : List (Addr × Str)} {G0 G G' : Hp} {b : Addr} {β β' : HO} (h : Tabs T (upd G b β)) (hb : Bag K G0 G b β) (e : Same G G') (nb : G' b = none) : Tabs T (upd G' b β') := by
  have h1 : Tabs T (upd G' b β) := h.ext fun a o ha => by
    by_cases z : a = b
    · subst z
      rw [upd_same] at ha ⊢
      exact ha
    · rw [upd_ne z] at ha ⊢
      exact e _ _ ha
  exact tabs_bag h1 hb.nt (fun q => hb.nc q)
/-- a list's row does not matter to the tables -/
theorem Tabs.put {T : List (Addr × Str)} {H : Hp} {L : Addr} {xs ys : List V} (h : Tabs T H) (hL : H L = some (.lst xs)) : Tabs T (upd H L (.lst ys)) := fun p hp => by
  obtain ⟨ps, h1, h2, h3⟩ := h p hp
  refine ⟨ps, (upd_ne (ne_of h1 hL (by intro q; cases q))).trans h1, h2, fun pos cv hc => ?_⟩
  obtain ⟨c, e1, e2⟩ := h3 pos cv hc
  exact ⟨c, e1, (upd_ne (ne_of e2 hL (by intro q; unfold CodeO at q; cases q))).trans e2⟩
theorem RtTx.down {T : Tx K mg} {G0 G G' : Hp} {b : Addr} {β : HO} {a : Addr} {tx : Str} (hb : Bag K G0 G b β) (h : RtTx T (upd G' b β) a tx) : RtTx T G' a tx := by
  obtain ⟨C, dx, ns, vs, hC, hn, he⟩ := h
  refine ⟨C, dx, ns, vs, hC, hn, ?_⟩
  obtain ⟨l, ns, i, r, s, c, rfl, _⟩ := hb.ex
  by_cases e : a = b
  · subst e
    rw [upd_same] at he
    cases he
  · rw [upd_ne e] at he
    exact he
/-! ### one rule -/
def oneBad (v0 v1 v2 : V) (isR : Bool) : Option (Er × V) :=
  if nameV v0 = false then some (.name, v0) else if numV v1 1 1000 = false then some (.num, v1) else if isR = true then none else some (.rest, v2)
theorem nameH8 (v : V) : nameH v 8 = nameV v := by
  unfold nameH
  cases v with
  | str z =>
    show (nameV (.str z) && decide ((z.length : Int) ≤ 8)) = nameV (.str z)
    cases h : nameV (.str z) with
    | false => rfl
    | true =>
      have hn : nameD z.cps.toList = true := h
      have hl := str_len z
      cases hc : z.cps.toList with
      | nil => rw [hc] at hn; cases hn
      | cons c r =>
        rw [hc] at hn hl
        have hn : (decide (r.length + 1 ≤ 8) && inL c && (c :: r).all fun d => inL d || inD d) = true := hn
        rw [Bool.and_eq_true, Bool.and_eq_true, decide_eq_true_eq] at hn
        simp only [List.length_cons] at hl
        rw [decide_eq_true (by omega)]
        rfl
  | _ => rfl
/-- the third value: data, or the rest at r -/
def V2 (T : Tx K mg) (F : Addr → Prop) (G : Hp) (r : Addr) (v2 : V) (isR : Bool) : Prop := (isR = false ∧ Gd F G 2 v2) ∨ (isR = true ∧ v2 = .ref r)
theorem ask_rule {T : Tx K mg} {G1 : Hp} {b : Addr} {β : HO} {v0 v1 v2 : V} {r : Addr} {tx : Str} {isR : Bool} {F : Addr → Prop} {tl : XK → Hp → VK → Prop} {Q0 : VK} (hb : Bag K G1 G1 b β) (g0 : Gd F G1 2 v0) (g1 : Gd F G1 2 v1) (g2 : V2 T F G1 r v2 isR) (hr : RtTx T G1 r tx)
    (K1 : ∀ (e : Er) (v : V), oneBad v0 v1 v2 isR = some (e, v) → ∀ (G3 : Hp) (β3 : HO) (f t : Addr), Same G1 G3 → Bag K G1 G3 b β3 → G3 f = some (.lst [.str e.S, v]) → G3 t = some (.tup [.non, .ref f]) → Q0 (.ref t) (upd G3 b β3))
    (K2 : oneBad v0 v1 v2 isR = none → ∀ (G3 : Hp) (β3 : HO) (x dx t : Addr) (nm : Str) (c : Int), Same G1 G3 → Bag K G1 G3 b β3 → v0 = .str nm → v1 = .int c → 1 ≤ c → c ≤ 1000 → nameV (.str nm) = true → nm.length ≤ 100 → v2 = .ref r → G3 x = some (.ins T.C_Rule dx (FL nR [.str nm, .int c, .ref r])) → G3 t = some (.tup [.ref x, .non]) → Q0 (.ref t) (upd G3 b β3))
    (htl : ∀ (E : XK) (Q' : VK) (G2 : Hp), Same G1 G2 → Bag K G1 G2 b β → (∀ β', Bag K G1 G2 b β' → ∀ x dx, upd G2 b β' x = none → upd G2 b β' dx = none → dx ≠ x → spRuleI T [.ref x, v0, v1, v2] (upd (upd (upd G2 b β') dx (.own x)) x (.ins T.C_Rule dx [])) (fun v H3 => v = .non ∧ Q' (.ref x) H3) E) → tl E (upd G2 b β) Q') :
    TT_ask T tl (upd G1 b β) Q0 := by
  intro H2 E Q' s0 hE hQ
  obtain ⟨G2, nb2, s12, rfl⟩ := split_up hb.nb s0
  refine htl E Q' G2 s12 (hb.up s12 nb2) fun β' hb' x dx nx ndx ne => ?_
  have s3 := same_made (C := T.C_Rule) (fs := []) nx ndx ne
  have sF : Same G1 (upd (upd (upd G2 b β') dx (.own x)) x (.ins T.C_Rule dx [])) := (s12.trans (up_same nb2)).trans s3
  have hr3 := hr.up sF
  -- an error that leaves
  have err : ∀ (e : Er) (v : V), oneBad v0 v1 v2 isR = some (e, v) → Goes T (upd (upd (upd G2 b β') dx (.own x)) x (.ins T.C_Rule dx [])) E e v := fun e v hbad H' d sm hd => by
    refine hE _ _ _ ⟨e, d, v, rfl, rfl, hd, fun f t H3 s4 hf ht => ?_⟩
    obtain ⟨G3, nb3, s23, rfl⟩ := split_up nb2 ((s3.trans sm).trans s4)
    have nfb : f ≠ b := fun z => by
      obtain ⟨l, ns, i, rr, s, c, rfl, _⟩ := hb'.ex
      rw [z, upd_same] at hf
      cases hf
    have ntb : t ≠ b := fun z => by
      obtain ⟨l, ns, i, rr, s, c, rfl, _⟩ := hb'.ex
      rw [z, upd_same] at ht
      cases ht
    rw [upd_ne nfb] at hf
    rw [upd_ne ntb] at ht
    exact K1 e v hbad G3 β' f t (s12.trans s23) (hb'.up s23 nb3) hf ht
  refine ⟨x, dx, v0, v1, v2, rfl, upd_same, (g0.up sF).gv, (g1.up sF).gv, ?_, fun h => err _ _ ?_, fun h0 h1 => err _ _ ?_, fun h0 h1 h2 => err _ _ ?_, fun h0 h1 h2 => ⟨rfl, ?_⟩⟩
  · rcases g2 with ⟨_, g⟩ | ⟨_, rfl⟩
    · exact .inl (g.up sF).gv
    · exact .inr ⟨r, tx, rfl, hr3⟩
  · unfold oneBad; rw [if_pos h]
  · unfold oneBad; rw [if_neg (by rw [h0]; decide), if_pos h1]
  · unfold oneBad
    rw [if_neg (by rw [h0]; decide), if_neg (by rw [h1]; decide)]
    rcases g2 with ⟨rfl, _⟩ | ⟨_, rfl⟩
    · rfl
    · exfalso
      obtain ⟨C, dx9, ns9, vs9, _, _, he9⟩ := hr3
      cases h2 with
      | lst h => rw [he9] at h; cases h
      | tup h => rw [he9] at h; cases h
      | dic h => rw [he9] at h; cases h
  · have gR : isR = true ∧ v2 = .ref r := by
      rcases g2 with ⟨_, g⟩ | h
      · exfalso
        obtain ⟨r9, tx9, rfl, C, dx9, ns9, vs9, _, _, he9⟩ := h2
        have g := (g.up sF).gv
        cases g with
        | lst h => rw [he9] at h; cases h
        | tup h => rw [he9] at h; cases h
        | dic h => rw [he9] at h; cases h
      · exact h
    obtain ⟨nm, rfl, hnl⟩ : ∃ nm, v0 = .str nm ∧ nm.length ≤ 100 := by
      have g := (g0.up sF).gv
      cases g <;> first | exact ⟨_, rfl, by assumption⟩ | cases h0
    obtain ⟨c, rfl, hc0, hc1⟩ := numV_i h1
    obtain ⟨_, rfl⟩ := gR
    refine hQ _ _ fun t H3 s4 ht => ?_
    rw [upd_upd] at s4
    have sM := same_made (C := T.C_Rule) (fs := FL nR [.str nm, .int c, .ref r]) nx ndx ne
    obtain ⟨G3, nb3, s23, rfl⟩ := split_up nb2 (sM.trans s4)
    have hxx := s4 _ _ upd_same
    have nxb : x ≠ b := fun z => by rw [z, upd_same] at nx; cases nx
    have ntb : t ≠ b := fun z => by
      obtain ⟨l, ns, i, rr, s, c, rfl, _⟩ := hb'.ex
      rw [z, upd_same] at ht
      cases ht
    rw [upd_ne nxb] at hxx
    rw [upd_ne ntb] at ht
    exact K2 (by unfold oneBad; rw [if_neg (by rw [h0]; decide), if_neg (by rw [h1]; decide)]; rw [if_pos ‹isR = true›]) G3 β' x dx t nm c (s12.trans s23) (hb'.up s23 nb3) rfl rfl hc0 hc1 h0 hnl rfl hxx ht
end

section
open LamX
variable {w : World} {K : PySem.W.Frag} {mg : Str → Option Value} {base : Heap}
structure SomeAt (T : Tx K mg) (G : Hp) (L r : Addr) (tx : Str) (v0 v1 v2 : V) (isR : Bool) : Prop where
  at_ : G L = some (.lst [v0, v1, v2])
  g0 : Gd (OnlyL L) G 2 v0
  g1 : Gd (OnlyL L) G 2 v1
  n8 : v1 ≠ .int 8
  g2 : V2 T (OnlyL L) G r v2 isR
  rt : RtTx T G r tx
  lt : tx.length ≤ 1000
theorem V2.keep {T : Tx K mg} {F : Addr → Prop} {G G' : Hp} {r : Addr} {v2 : V} {isR : Bool} (h : V2 T F G r v2 isR) (e : Keep F G G') : V2 T F G' r v2 isR := h.imp (fun h => ⟨h.1, h.2.keep e⟩) id
theorem SomeAt.up {T : Tx K mg} {G G' : Hp} {L r : Addr} {tx : Str} {v0 v1 v2 : V} {isR : Bool} (h : SomeAt T G L r tx v0 v1 v2 isR) (e : Same G G') : SomeAt T G' L r tx v0 v1 v2 isR :=
  ⟨e _ _ h.at_, h.g0.up e, h.g1.up e, h.n8, h.g2.keep (.of e), h.rt.up e, h.lt⟩
theorem SomeAt.ext {T : Tx K mg} {G G' : Hp} {L r : Addr} {tx : Str} {v0 v1 v2 : V} {isR : Bool} (h : SomeAt T G L r tx v0 v1 v2 isR) (e : ExtN G G') : SomeAt T G' L r tx v0 v1 v2 isR :=
  ⟨e _ _ h.at_ (fun ps z => by cases z), h.g0.keep (ext_keep e), h.g1.keep (ext_keep e), h.n8, h.g2.keep (ext_keep e), h.rt.ext e, h.lt⟩
theorem SomeAt.put {T : Tx K mg} {G : Hp} {L r : Addr} {tx : Str} {v0 v1 v2 x : V} {isR : Bool} {d : Int} (h : SomeAt T G L r tx v0 v1 v2 isR) (hx : Ov (OnlyL L) G x) (d0 : 0 ≤ d) (d1 : d < 3) :
    ∃ (j : Nat) (u0 u1 u2 : V) (isR' : Bool), ixN 3 d = some j ∧ [v0, v1, v2].set j x = [u0, u1, u2] ∧ SomeAt T (upd G L (.lst [u0, u1, u2])) L r tx u0 u1 u2 isR' := by
  have hd : d = 0 ∨ d = 1 ∨ d = 2 := by omega
  rcases hd with rfl | rfl | rfl
  · exact ⟨0, x, v1, v2, isR, rfl, rfl, upd_same, hx.1.keep keep_put, h.g1.keep keep_put, h.n8, h.g2.keep keep_put, h.rt.put h.at_, h.lt⟩
  · exact ⟨1, v0, x, v2, isR, rfl, rfl, upd_same, h.g0.keep keep_put, hx.1.keep keep_put, hx.2, h.g2.keep keep_put, h.rt.put h.at_, h.lt⟩
  · exact ⟨2, v0, v1, x, false, rfl, rfl, upd_same, h.g0.keep keep_put, h.g1.keep keep_put, h.n8, .inl ⟨rfl, hx.1.keep keep_put⟩, h.rt.put h.at_, h.lt⟩
theorem k_gWD (T : Tx K mg) {H : Hp} {v : V} {tp : Addr} {Q : VK} (h : Gv H v) (ht : H tp = some (.tup [.ref T.C_Window, .ref T.C_Days])) (k : Q (.bl false) H) : rIsiT K [v, .ref tp] H Q := by
  have key : ∀ t : Value, TyX K H v t → PySem.W.kitOne K t (.ref T.C_Window) = some false → PySem.W.kitOne K t (.ref T.C_Days) = some false → rIsiT K [v, .ref tp] H Q := fun t ty h1 h2 =>
    ⟨v, tp, _, t, [.ref T.C_Window, .ref T.C_Days], false, rfl, ht, .cons (.own _) (.cons (.own _) .nil), ty, by simp only [PySem.W.kitAny, h1, h2], k⟩
  cases h with
  | int i => exact key _ (TyX.base (.int _)) T.kb_int_Window T.kb_int_Days
  | str z h => exact key _ (TyX.base (.str _)) T.kb_str_Window T.kb_str_Days
  | bl b => exact key _ (TyX.base (.bl _)) T.kb_bool_Window T.kb_bool_Days
  | non => exact key _ (TyX.base .non) T.kb_NoneType_Window T.kb_NoneType_Days
  | lst h => exact key _ (TyX.base (.lst h)) T.kb_list_Window T.kb_list_Days
  | tup h => exact key _ (TyX.base (.tup h)) T.kb_tuple_Window T.kb_tuple_Days
  | dic h => exact key _ (TyX.base (.dK h)) T.kb_dict_Window T.kb_dict_Days
theorem k_rWD {T : Tx K mg} {H : Hp} {r tp : Addr} {tx : Str} {Q : VK} (h : RtTx T H r tx) (ht : H tp = some (.tup [.ref T.C_Window, .ref T.C_Days])) (k : Q (.bl true) H) : rIsiT K [.ref r, .ref tp] H Q := by
  obtain ⟨C, dx, ns, vs, hC, hn, he⟩ := h
  cases hC with
  | win => exact ⟨_, tp, _, _, [.ref T.C_Window, .ref T.C_Days], true, rfl, ht, .cons (.own _) (.cons (.own _) .nil), ty_own T.ty_Window he, by simp only [PySem.W.kitAny, T.kt_Window_Window], k⟩
  | days => exact ⟨_, tp, _, _, [.ref T.C_Window, .ref T.C_Days], true, rfl, ht, .cons (.own _) (.cons (.own _) .nil), ty_own T.ty_Days he, by simp only [PySem.W.kitAny, T.kt_Days_Window, T.kt_Days_Days], k⟩
theorem k_lab {nm : Str} {σ : L2.St} {H : Hp} {Q : VK} (h : ∀ lb : Str, lb ≠ nm → nameV (.str lb) = true → lb.length ≤ 100 → Q (.str lb) H) :
    if (!decide (V.str nm = V.str ("q1" : Str))) = true then tC (.str ("q1" : Str)) σ H Q else tC (.str ("q2" : Str)) σ H Q := by
  refine k_n (fun e => ?_) (fun e => ?_)
  · refine h _ (fun q => ?_) (by decide +kernel) (by decide +kernel)
    cases e
    exact absurd q (by decide +kernel)
  · refine h _ (fun q => e ?_) (by decide +kernel) (by decide +kernel)
    rw [q]
def spOne (T : Tx K mg) : Sp := fun vs H Q _ => ∃ (G : Hp) (b : Addr) (β : HO), vs = [.ref b] ∧ H = upd G b β ∧ Bag K G G b β ∧ Tabs (TL_ T) (upd G b β) ∧
  ∀ (G' : Hp) (β' : HO), Bag K G' G' b β' → Tabs (TL_ T) (upd G' b β') → Q (.bl true) (upd G' b β')
theorem ok_one_rule_so (T : Tx K mg) (TB_one_rule_so : TabB base mg T.cda_one_rule_so T.tb_one_rule_so) : FnOk P w K mg base CX0 14 T.a_one_rule_so T.fd_one_rule_so P_one_rule_so (spOne T) := by
  refine T.F_one_rule_so.ok sc_one_rule_so (fun vs H Q E h => ?_) (fun A outer s H vs Q E hr h => ?_)
  · obtain ⟨G, b, β, rfl, _⟩ := h
    rfl
  · obtain ⟨G, b, β, rfl, rfl, hb, hT, k⟩ := h
    have nd := sc_one_rule_so.nd
    obtain ⟨oc9, od9, kV9, doc9, pm9, an9, cdv9, ct9, osl9, efd9, lk_ask, hc_ask⟩ := T.F_ask.ex
    have hb_ask := T.b_ask
    rw [efd9] at lk_ask hb_ask
    refine ⟨_, (pss_cons (ps_par (i := 1) (j := 2) rfl nd rfl rfl (by decide) (locB_ok l_one_rule_so_law_label) (locB_ok l_one_rule_so_law_many) (pa_cons (pe_call (ok_of T) (hr.mono (by first | decide | omega)) g_one_rule_so_law_of T.m_of T.k_of T.b_of .nil pass0 (pa_cons (kv (i := 0) v_one_rule_so_law_bag_here) (pa_cons (pe_lst (pa_cons pe_str (pa_cons pe_str (pa_cons pe_str pa_nil)))) pa_nil))) (pa_cons (pe_call (ok_of T) (hr.mono (by first | decide | omega)) g_one_rule_so_law_of T.m_of T.k_of T.b_of .nil pass0 (pa_cons (kv (i := 0) v_one_rule_so_law_bag_here) (pa_cons (pe_lst (pa_cons pe_int (pa_cons pe_int (pa_cons pe_int pa_nil)))) pa_nil))) pa_nil)) (by rfl))
      (pss_cons (ks_setL (i := 3) nd l_one_rule_so_law_plain (pe_call (ok_of T) (hr.mono (by first | decide | omega)) g_one_rule_so_law_of T.m_of T.k_of T.b_of .nil pass0 (pa_cons (kv (i := 0) v_one_rule_so_law_bag_here) (pa_cons (pe_lst (pa_cons (pe_make T.mk_Window (ok_Window_init T) (hr.mono (by first | decide | omega)) g_one_rule_so_Window T.m_Window T.b_Window_init .nil pass0 (pa_cons pe_int pa_nil)) (pa_cons (pe_make T.mk_Days (ok_Days_init T) (hr.mono (by first | decide | omega)) g_one_rule_so_Days T.m_Days T.b_Days_init .nil pass0 (pa_cons (pe_lst (pa_cons pe_int pa_nil)) (pa_cons pe_int pa_nil))) pa_nil))) pa_nil))))
      (pss_cons (ks_setC (i := 8) nd c_one_rule_so_law_some (pe_lst (pa_cons (kv (i := 1) v_one_rule_so_law_label) (pa_cons (kv (i := 2) v_one_rule_so_law_many) (pa_cons (kv (i := 3) v_one_rule_so_law_plain) pa_nil)))))
      (pss_cons (ps_for PassesOwn.never rfl (pi_range1 g_one_rule_so_range T.n_range (pa_cons (pe_call (ok_of T) (hr.mono (by first | decide | omega)) g_one_rule_so_law_of T.m_of T.k_of T.b_of .nil pass0 (pa_cons (kv (i := 0) v_one_rule_so_law_bag_here) (pa_cons (pe_lst (pa_cons pe_int (pa_cons pe_int (pa_cons pe_int (pa_cons pe_int pa_nil))))) pa_nil))) pa_nil)) (kgL (i := 4) nd l_one_rule_so_law_k) (pss_one (ps_asg (pe_call (ok_wrong T) (hr.mono (by first | decide | omega)) g_one_rule_so_law_wrong T.m_wrong T.k_wrong T.b_wrong .nil pass0 (pa_cons (kv (i := 0) v_one_rule_so_law_bag_here) pa_nil)) (pg_sub (kv (i := 8) v_one_rule_so_law_some) (pe_call (ok_draw T) (hr.mono (by first | decide | omega)) g_one_rule_so_law_draw T.m_draw T.k_draw T.b_draw .nil pass0 (pa_cons (kv (i := 0) v_one_rule_so_law_bag_here) (pa_cons pe_int pa_nil))) set_list))))
      (pss_cons (ps_asg (pe_lamA (k := 8) (T := TL_ T) (TT := TT_ask T) g_one_rule_so_law_ask T.m_ask T.k_ask lk_ask hc_ask hb_ask sc_ask rfl vl_ask (gives_ask T) TB_one_rule_so rfl (TM_one_rule_so T) (TU_one_rule_so T) (hr.mono (by first | decide | omega)) (LamX.lamS_by lam_one_rule_so_ls_one_rule_so_1) (fun A outer s H E lf lc hr => (pe_ifExp (pt_cmpR op_eq (pe_call (ok_draw T) (hr.mono (by first | decide | omega)) g_one_rule_so_L1_law_draw T.m_draw T.k_draw T.b_draw .nil pass0 (pa_cons (kv (i := 0) v_one_rule_so_L1_law_bag_here) (pa_cons pe_int pa_nil))) pe_int (nomark _)) (pe_make T.mk_Rule (ok_Rule_init T) (hr.mono (by first | decide | omega)) g_one_rule_so_L1_Rule T.m_Rule T.b_Rule_init .nil (passes_call (takes_of rfl rfl rfl rfl) (fun _ _ _ _ h => h)) (pa_cons (pe_ix (kix K) (kv (i := 8) v_one_rule_so_L1_law_some) pe_int (fun _ _ => rfl)) (pa_cons (pe_ix (kix K) (kv (i := 8) v_one_rule_so_L1_law_some) pe_int (fun _ _ => rfl)) (pa_cons (pe_ix (kix K) (kv (i := 8) v_one_rule_so_L1_law_some) pe_int (fun _ _ => rfl)) pa_nil)))) (pe_makeKS T.mk_Rule (ok_Rule_init T) (hr.mono (by first | decide | omega)) g_one_rule_so_L1_Rule T.m_Rule T.kb_Rule_init_rest_name_chips (fun σ => passAt (takes_of rfl rfl rfl rfl) σ) (pk_cons (pe_ix (kix K) (kv (i := 8) v_one_rule_so_L1_law_some) pe_int (fun _ _ => rfl)) (pk_cons (pe_ix (kix K) (kv (i := 8) v_one_rule_so_L1_law_some) pe_int (fun _ _ => rfl)) (pk_cons (pe_ix (kix K) (kv (i := 8) v_one_rule_so_L1_law_some) pe_int (fun _ _ => rfl)) pk_nil))))))) (kpg_tup K 2 rfl (pgs_cons (kgL (i := 5) nd l_one_rule_so_law_told) (pgs_cons (kgL (i := 6) nd l_one_rule_so_law_fault) pgs_nil))))
      (pss_cons (ps_if (pt_not (pt_val (pe_call (ok_named T) (hr.mono (by first | decide | omega)) g_one_rule_so_law_named T.m_named T.k_named T.b_named .nil pass0 (pa_cons (pe_ix (kix K) (kv (i := 8) v_one_rule_so_law_some) pe_int (fun _ _ => rfl)) (pa_cons pe_int pa_nil))))) (pss_one (ps_ret (pe_and (pe_cmpR op_isN (kv (i := 5) v_one_rule_so_law_told) pe_non (nomark _)) (pe_one (pe_call (ok_like T) (hr.mono (by first | decide | omega)) g_one_rule_so_law_like T.m_like T.k_like T.b_like .nil pass0 (pa_cons (kv (i := 6) v_one_rule_so_law_fault) (pa_cons (pe_lst (pa_cons pe_str (pa_cons (pe_ix (kix K) (kv (i := 8) v_one_rule_so_law_some) pe_int (fun _ _ => rfl)) pa_nil))) pa_nil))))))) pss_nil)
      (pss_cons (ps_if (pt_not (pt_val (pe_call (ok_in T) (hr.mono (by first | decide | omega)) g_one_rule_so_law_in T.m_in T.k_in T.b_in .nil pass0 (pa_cons (pe_ix (kix K) (kv (i := 8) v_one_rule_so_law_some) pe_int (fun _ _ => rfl)) (pa_cons pe_int pa_nil))))) (pss_one (ps_ret (pe_and (pe_cmpR op_isN (kv (i := 5) v_one_rule_so_law_told) pe_non (nomark _)) (pe_one (pe_call (ok_like T) (hr.mono (by first | decide | omega)) g_one_rule_so_law_like T.m_like T.k_like T.b_like .nil pass0 (pa_cons (kv (i := 6) v_one_rule_so_law_fault) (pa_cons (pe_lst (pa_cons pe_str (pa_cons (pe_ix (kix K) (kv (i := 8) v_one_rule_so_law_some) pe_int (fun _ _ => rfl)) pa_nil))) pa_nil))))))) pss_nil)
      (pss_cons (ps_if (pt_not (pt_val (kcB b_isinstance (by decide) (by decide) (kc_isiT K) g_one_rule_so_isinstance T.n_isinstance (pa_cons (pe_ix (kix K) (kv (i := 8) v_one_rule_so_law_some) pe_int (fun _ _ => rfl)) (pa_cons (pe_tup (pa_cons (kcls g_one_rule_so_Window T.m_Window) (pa_cons (kcls g_one_rule_so_Days T.m_Days) pa_nil))) pa_nil))))) (pss_one (ps_ret (pe_and (pe_cmpR op_isN (kv (i := 5) v_one_rule_so_law_told) pe_non (nomark _)) (pe_one (pe_call (ok_like T) (hr.mono (by first | decide | omega)) g_one_rule_so_law_like T.m_like T.k_like T.b_like .nil pass0 (pa_cons (kv (i := 6) v_one_rule_so_law_fault) (pa_cons (pe_lst (pa_cons pe_str (pa_cons (pe_ix (kix K) (kv (i := 8) v_one_rule_so_law_some) pe_int (fun _ _ => rfl)) pa_nil))) pa_nil))))))) pss_nil)
      (pss_cons (ps_if (PW.pt (pw_or (pt_cmpR op_notN (kv (i := 6) v_one_rule_so_law_fault) pe_non (nomark _)) (pw_or1 (pt_not (pt_val (pe_call (ok_like T) (hr.mono (by first | decide | omega)) g_one_rule_so_law_like T.m_like T.k_like T.b_like .nil pass0 (pa_cons (pe_lst (pa_cons (kpe_fld K (kv (i := 5) v_one_rule_so_law_told)) (pa_cons (kpe_fld K (kv (i := 5) v_one_rule_so_law_told)) (pa_cons (kpe_methP0 (disp_written T) (hr.mono (by first | decide | omega)) pass0 (kpe_fld K (kv (i := 5) v_one_rule_so_law_told))) pa_nil)))) (pa_cons (pe_lst (pa_cons (pe_ix (kix K) (kv (i := 8) v_one_rule_so_law_some) pe_int (fun _ _ => rfl)) (pa_cons (pe_ix (kix K) (kv (i := 8) v_one_rule_so_law_some) pe_int (fun _ _ => rfl)) (pa_cons (kpe_methP0 (disp_written T) (hr.mono (by first | decide | omega)) pass0 (kv (i := 3) v_one_rule_so_law_plain)) pa_nil)))) pa_nil)))))))) (pss_one (ps_ret pe_bl)) pss_nil)
      (pss_cons (ks_setL (i := 1) nd l_one_rule_so_law_label (pe_ifExp (pt_cmpR op_ne (pe_ix (kix K) (kv (i := 8) v_one_rule_so_law_some) pe_int (fun _ _ => rfl)) pe_str (nomark _)) pe_str pe_str))
      (pss_cons (ks_setL (i := 7) nd l_one_rule_so_law_twin_r (pe_make T.mk_Rule (ok_Rule_init T) (hr.mono (by first | decide | omega)) g_one_rule_so_Rule T.m_Rule T.b_Rule_init .nil passE (pa_cons (kv (i := 1) v_one_rule_so_law_label) (pa_cons (pe_ix (kix K) (kv (i := 8) v_one_rule_so_law_some) pe_int (fun _ _ => rfl)) (pa_cons (kv (i := 3) v_one_rule_so_law_plain) pa_nil)))))
      (pss_cons (ps_if (pt_not (pt_val (pe_call (ok_like T) (hr.mono (by first | decide | omega)) g_one_rule_so_law_like T.m_like T.k_like T.b_like .nil pass0 (pa_cons (pe_lst (pa_cons (pe_cmpR (kop_eqO K T.eqf_Rule T.eqi_Rule (ok_Rule_eq T) (hr.mono (by first | decide | omega)) T.b_Rule_eq pass0) (kv (i := 5) v_one_rule_so_law_told) (kv (i := 7) v_one_rule_so_law_twin_r) (nomark _)) (pa_cons (pe_cmpR (kop_eqO K T.eqf_Rule T.eqi_Rule (ok_Rule_eq T) (hr.mono (by first | decide | omega)) T.b_Rule_eq pass0) (kv (i := 7) v_one_rule_so_law_twin_r) (kv (i := 5) v_one_rule_so_law_told) (nomark _)) pa_nil))) (pa_cons (pe_lst (pa_cons pe_bl (pa_cons pe_bl pa_nil))) pa_nil))))) (pss_one (ps_ret pe_bl)) pss_nil)
      (pss_one (ps_ret (pe_call (ok_like T) (hr.mono (by first | decide | omega)) g_one_rule_so_law_like T.m_like T.k_like T.b_like .nil pass0 (pa_cons (pe_lst (pa_cons (pe_cmpR (kop_eqO K T.eqf_Rule T.eqi_Rule (ok_Rule_eq T) (hr.mono (by first | decide | omega)) T.b_Rule_eq pass0) (kv (i := 5) v_one_rule_so_law_told) (pe_make T.mk_Rule (ok_Rule_init T) (hr.mono (by first | decide | omega)) g_one_rule_so_Rule T.m_Rule T.b_Rule_init .nil passE (pa_cons (pe_ix (kix K) (kv (i := 8) v_one_rule_so_law_some) pe_int (fun _ _ => rfl)) (pa_cons (pe_ix (kix K) (kv (i := 8) v_one_rule_so_law_some) pe_int (fun _ _ => rfl)) (pa_cons (kv (i := 3) v_one_rule_so_law_plain) pa_nil)))) (nomark _)) (pa_cons (pe_cmpR (kop_eqO K T.eqf_Rule T.eqi_Rule (ok_Rule_eq T) (hr.mono (by first | decide | omega)) T.b_Rule_eq pass0) (kv (i := 5) v_one_rule_so_law_told) (kcT b_str (by decide) (by decide) (kc_strO K T.strf_Rule T.stri_Rule (ok_Rule_str T) (hr.mono (by first | decide | omega)) T.b_Rule_str pass0) g_one_rule_so_str T.n_str (pa_cons (kv (i := 5) v_one_rule_so_law_told) pa_nil)) (nomark _)) (pa_cons (pe_cmpR (kop_eqO K T.eqf_Rule T.eqi_Rule (ok_Rule_eq T) (hr.mono (by first | decide | omega)) T.b_Rule_eq pass0) (kv (i := 5) v_one_rule_so_law_told) (pe_make T.mk_Rule (ok_Rule_init T) (hr.mono (by first | decide | omega)) g_one_rule_so_Rule T.m_Rule T.b_Rule_init .nil passE (pa_cons (pe_ix (kix K) (kv (i := 8) v_one_rule_so_law_some) pe_int (fun _ _ => rfl)) (pa_cons pe_int (pa_cons (kv (i := 3) v_one_rule_so_law_plain) pa_nil)))) (nomark _)) (pa_cons (pe_cmpR (kop_eqO K T.eqf_Rule T.eqi_Rule (ok_Rule_eq T) (hr.mono (by first | decide | omega)) T.b_Rule_eq pass0) (kv (i := 5) v_one_rule_so_law_told) pe_int (nomark _)) pa_nil))))) (pa_cons (pe_lst (pa_cons pe_bl (pa_cons pe_bl (pa_cons pe_bl (pa_cons pe_bl pa_nil))))) pa_nil))))))))))))))))), ?_⟩
    walk_at "ss"
    intro t1 nt_t1
    rw [upd_swap (up_none nt_t1).2]
    generalize eG_t1 : upd _ t1 _ = G1
    obtain ⟨nb1, sm1, ht1, nt_t1, nG_t1⟩ := new_facts hb.nb nt_t1 eG_t1
    clear eG_t1
    have hb1 := hb.up sm1 nb1
    walk_at "ss"
    refine k_of hb1 (SqL.of ht1) (by simp) (by simp) fun v0 β1 hv0 hb1 => ?_
    have gv0 : ScB v0 := by
      simp only [List.mem_cons, List.not_mem_nil, or_false] at hv0
      rcases hv0 with rfl | rfl | rfl <;> exact .str _ (by decide +kernel)
    walk_at "ss"
    intro t2 nt_t2
    rw [upd_swap (up_none nt_t2).2]
    generalize eG_t2 : upd _ t2 _ = G2
    obtain ⟨nb2, sm2, ht2, nt_t2, nG_t2⟩ := new_facts nb1 nt_t2 eG_t2
    clear eG_t2
    have hb2 := hb1.up sm2 nb2
    walk_at "ss"
    refine k_of hb2 (SqL.of ht2) (by simp) (by simp) fun v1 β2 hv1 hb2 => ?_
    have gv1 : ScB v1 ∧ v1 ≠ .int 8 := by
      simp only [List.mem_cons, List.not_mem_nil, or_false] at hv1
      rcases hv1 with rfl | rfl | rfl <;> exact ⟨.int _, by simp⟩
    walk_at "ss"
    refine k_make ?_
    walk_at "ss"
    intro x1 dx1 nx1 ndx1 ne1
    refine ⟨NoF, x1, dx1, 5, rfl, by decide, by decide, upd_same, fun Hw sbw hw => ⟨rfl, ?_⟩⟩
    have sw := SameBut.made nx1 ndx1 ne1 sbw
    obtain ⟨G3, nb3, s23, rfl⟩ := split_up nb2 sw
    have hb3 := hb2.up s23 nb3
    have hw3 := RtTx.down hb3 hw.winTx
    walk_at "ss"
    refine k_make ?_
    walk_at "ss"
    intro l4 nt_l4
    rw [upd_swap (up_none nt_l4).2]
    generalize eG_l4 : upd _ l4 _ = G4
    obtain ⟨nb4, s4, hl4, nt_l4, nG_l4⟩ := new_facts nb3 nt_l4 eG_l4
    clear eG_l4
    have hb4 := hb3.up s4 nb4
    walk_at "ss"
    intro x2 dx2 nx2 ndx2 ne2
    refine ⟨NoF, x2, dx2, l4, [3], 4, fun z hz => hz.elim, rfl, ⟨⟨by decide, trivial⟩, by simp, by decide, by decide, by decide⟩, upd_same, same_made nx2 ndx2 ne2 _ _ (up_get nb4 hl4), fun Hd sbd hdr => ⟨rfl, ?_⟩⟩
    have sd := SameBut.made nx2 ndx2 ne2 sbd
    obtain ⟨G5, nb5, s45, rfl⟩ := split_up nb4 sd
    have hb5 := hb4.up s45 nb5
    obtain ⟨txd, ltx, hdt⟩ := hdr.tx
    have hd5 := RtTx.down hb5 hdt
    walk_at "ss"
    intro t6 nt_t6
    rw [upd_swap (up_none nt_t6).2]
    generalize eG_t6 : upd _ t6 _ = G6
    obtain ⟨nb6, s6, ht6, nt_t6, nG_t6⟩ := new_facts nb5 nt_t6 eG_t6
    clear eG_t6
    have hb6 := hb5.up s6 nb6
    walk_at "ss"
    refine k_of hb6 (SqL.of ht6) (by simp) (by simp) fun vp β6 hvp hb6 => ?_
    obtain ⟨r, tx, rfl, hrt, htx⟩ : ∃ r tx, vp = V.ref r ∧ RtTx T G6 r tx ∧ tx.length ≤ 1000 := by
      simp only [List.mem_cons, List.not_mem_nil, or_false] at hvp
      rcases hvp with rfl | rfl
      · exact ⟨x1, _, rfl, ((hw3.up s4).up s45).up s6, by decide +kernel⟩
      · exact ⟨x2, txd, rfl, hd5.up s6, ltx⟩
    walk_at "ss"
    intro L nt_L
    rw [upd_swap (up_none nt_L).2]
    generalize eG_L : upd _ L _ = G7
    obtain ⟨nb7, s7, hL, nt_L, nG_L⟩ := new_facts nb6 nt_L eG_L
    clear eG_L
    have hb7 := hb6.up s7 nb7
    have nL0 : G L = none := g_none hb6.sm nG_L
    have I7 : SomeAt T G7 L r tx v0 v1 (.ref r) true := ⟨hL, Gd.sc gv0 2, Gd.sc gv1.1 2, gv1.2, .inr ⟨rfl, rfl⟩, hrt.up s7, htx⟩
    walk_at "ss"
    intro t8 nt_t8
    rw [upd_swap (up_none nt_t8).2]
    generalize eG_t8 : upd _ t8 _ = G8
    obtain ⟨nb8, s8, ht8, nt_t8, nG_t8⟩ := new_facts nb7 nt_t8 eG_t8
    clear eG_t8
    have hb8 := hb7.up s8 nb8
    walk_at "ss"
    refine k_of hb8 (SqL.of ht8) (by simp) (by simp) fun vn β8 hvn hb8 => ?_
    obtain ⟨n, rfl, hn0, hn1⟩ : ∃ n : Int, vn = .int n ∧ 0 ≤ n ∧ n ≤ 2 := by
      simp only [List.mem_cons, List.not_mem_nil, or_false] at hvn
      rcases hvn with rfl | rfl | rfl | rfl <;> exact ⟨_, rfl, by decide, by decide⟩
    walk_at "ss"
    refine k_r1 ⟨by omega, by omega⟩ ?_
    refine k_forRange (fun i σ H' => ∃ (u0 u1 u2 : V) (isR : Bool) (G' : Hp) (β' : HO) (w1 w2 : V) (w4 : Option V), σ = [some (.ref b), some w1, some w2, some (.ref r), w4, none, none, none, some (.ref L)] ∧ H' = upd G' b β' ∧ Bag K G G' b β' ∧ Tabs (TL_ T) (upd G' b β') ∧ SomeAt T G' L r tx u0 u1 u2 isR)
      ⟨v0, v1, .ref r, true, G8, β8, _, _, _, rfl, rfl, hb8, Tabs.bag hT hb hb8.sm nb8, I7.up s8⟩ ?_ ?_
    · rintro i σ H' _ ⟨u0, u1, u2, isR, G9, β9, w1, w2, w4, rfl, rfl, hb9, hT9, I9⟩
      walk_at "ss"
      refine ⟨OnlyL L, G, G9, b, β9, rfl, rfl, hb9, fun a z n => ?_, fun v GA βA sA hbA hv => ?_⟩
      · rw [z, I9.at_] at n; cases n
      · walk_at "ss"
        refine k_draw hbA (by decide) (by decide) fun d βB e0 e1 hbB => ?_
        have IA := I9.up sA
        obtain ⟨j, p0, p1, p2, isR', ej, es, IB⟩ := IA.put hv e0 e1
        refine k_setL (up_get hbB.nb IA.at_) (by exact ej) ?_
        rw [es, upd_swap nt_L]
        have hTA := Tabs.bag (β' := βB) hT9 hb9 sA hbB.nb
        have hTB := Tabs.put (ys := [p0, p1, p2]) hTA (up_get hbB.nb IA.at_)
        rw [upd_swap nt_L] at hTB
        exact ⟨p0, p1, p2, isR', _, _, _, _, _, rfl, rfl, hbB.put nL0 nt_L, hTB, IB⟩
    · rintro σ H' ⟨u0, u1, u2, isR, G9, β9, w1, w2, w4, rfl, rfl, hb9, hT9, I9⟩
      walk_at "ss"
      refine k_lam hT9 fun H1 eN T1 => ?_
      obtain ⟨GA, nbA, eA, rfl⟩ := split_ext hb9.nb hb9.nt eN
      have IA := I9.ext eA
      have hbA := hb9.ext eA nbA
      refine ask_rule (r := r) hbA IA.g0 IA.g1 IA.g2 IA.rt ?_ ?_ ?_
      · intro e v hbad G3 β3 f t s13 hb3 hf ht
        refine k_gTup (SqT.of (up_get hb3.nb ht)) rfl ?_
        walk_at "ss"
        have I3 := IA.up s13
        have hL3 := up_get (β := β3) hb3.nb I3.at_
        have hf3 := up_get (β := β3) hb3.nb hf
        have sU := up_same (β := β3) hb3.nb
        have kfin : ∀ H', Same (upd G3 b β3) H' → Q (.bl true) H' := fun H' s => by
          obtain ⟨G', nb', s', rfl⟩ := split_up hb3.nb s
          exact k G' β3 (hb3.re.up0 s' nb').re (Tabs.bag T1 hbA (s13.trans s') nb')
        have q0 := I3.g0.up sU
        have q1 := I3.g1.up sU
        walk_at "ss"
        refine ⟨u0, 8, rfl, q0.gv, by decide, fun H4 s4 => ?_⟩
        rw [nameH8]
        have hL4 := s4 _ _ hL3
        have hf4 := s4 _ _ hf3
        unfold oneBad at hbad
        cases e0 : nameV u0 with
        | false =>
          rw [if_pos e0] at hbad
          cases hbad
          walk_at "ss"
          refine ⟨rfl, ?_⟩
          refine ⟨_, rfl, ?_⟩
          refine k_dt rfl ?_
          walk_at "ss"
          intro q nq
          generalize eD : upd H4 q _ = H5
          have s5 := upd_sm eD nq
          have hq := upd_at eD
          clear eD
          walk_at "ss"
          refine ⟨_, _, rfl, eqd_list (d := 2) (s5 _ _ hf4) hq (by simp) (fun y hy => ?_), fun H6 s6 => kfin _ ((s4.trans s5).trans s6)⟩
          simp only [List.mem_cons, List.not_mem_nil, or_false] at hy
          rcases hy with rfl | rfl
          · exact Eqd.sc (.str _) 2
          · exact ((q0.up s4).up s5).eqd
        | true =>
          rw [if_neg (by rw [e0]; decide)] at hbad
          walk_at "ss"
          refine ⟨u1, 1000, rfl, (q1.up s4).gv, ?_⟩
          cases e1 : numV u1 1 1000 with
          | false =>
            rw [if_pos e1] at hbad
            cases hbad
            walk_at "ss"
            refine ⟨rfl, ?_⟩
            refine ⟨_, rfl, ?_⟩
            refine k_dt rfl ?_
            walk_at "ss"
            intro q nq
            generalize eD : upd H4 q _ = H5
            have s5 := upd_sm eD nq
            have hq := upd_at eD
            clear eD
            walk_at "ss"
            refine ⟨_, _, rfl, eqd_list (d := 2) (s5 _ _ hf4) hq (by simp) (fun y hy => ?_), fun H6 s6 => kfin _ ((s4.trans s5).trans s6)⟩
            simp only [List.mem_cons, List.not_mem_nil, or_false] at hy
            rcases hy with rfl | rfl
            · exact Eqd.sc (.str _) 2
            · exact ((q1.up s4).up s5).eqd
          | true =>
            rw [if_neg (by rw [e1]; decide)] at hbad
            rcases I3.g2 with ⟨rfl, g2⟩ | ⟨rfl, _⟩
            · rw [if_neg (by decide)] at hbad
              cases hbad
              have q2 := (g2.up sU).up s4
              walk_at "ss"
              intro tp ntp
              generalize eD : upd H4 tp _ = H5
              have s5 := upd_sm eD ntp
              have htp := upd_at eD
              clear eD
              have hL5 := s5 _ _ hL4
              walk_at "ss"
              refine k_gWD T (q2.up s5).gv htp ?_
              walk_at "ss"
              refine ⟨rfl, ?_⟩
              refine ⟨_, rfl, ?_⟩
              refine k_dt rfl ?_
              walk_at "ss"
              intro q nq
              generalize eD : upd H5 q _ = H6
              have s6 := upd_sm eD nq
              have hq := upd_at eD
              clear eD
              walk_at "ss"
              refine ⟨_, _, rfl, eqd_list (d := 2) (s6 _ _ (s5 _ _ hf4)) hq (by simp) (fun y hy => ?_), fun H7 s7 => kfin _ (((s4.trans s5).trans s6).trans s7)⟩
              simp only [List.mem_cons, List.not_mem_nil, or_false] at hy
              rcases hy with rfl | rfl
              · exact Eqd.sc (.str _) 2
              · exact ((q2.up s5).up s6).eqd
            · rw [if_pos rfl] at hbad
              cases hbad
      · intro hgood G3 β3 x dx t nm c s13 hb3 e0 e1 hc0 hc1 hnm hnl e2 hx ht
        refine k_gTup (SqT.of (up_get hb3.nb ht)) rfl ?_
        subst e0 e1 e2
        have I3 := IA.up s13
        have hL3 := up_get (β := β3) hb3.nb I3.at_
        have sU := up_same (β := β3) hb3.nb
        have hx3 := sU _ _ hx
        have hr3 := I3.rt.up sU
        have ltx := I3.lt
        have n8 : c ≠ 8 := fun q => I3.n8 (by rw [q])
        have kfin : ∀ H', Same (upd G3 b β3) H' → Q (.bl true) H' := fun H' s => by
          obtain ⟨G', nb', s', rfl⟩ := split_up hb3.nb s
          exact k G' β3 (hb3.re.up0 s' nb').re (Tabs.bag T1 hbA (s13.trans s') nb')
        walk_at "ss"
        refine ⟨.str nm, 8, rfl, .str _ hnl, by decide, fun H4 s4 => ?_⟩
        rw [nameH8, hnm]
        have hL4 := s4 _ _ hL3
        have hx4 := s4 _ _ hx3
        have hr4 := hr3.up s4
        walk_at "ss"
        refine ⟨.int c, 1000, rfl, .int _, ?_⟩
        rw [numV_t hc0 hc1]
        walk_at "ss"
        intro tp ntp
        generalize eD : upd H4 tp _ = H5
        have s5 := upd_sm eD ntp
        have htp := upd_at eD
        clear eD
        have hL5 := s5 _ _ hL4
        have hx5 := s5 _ _ hx4
        have hr5 := hr4.up s5
        walk_at "ss"
        refine k_rWD hr5 htp ?_
        walk_at "ss"
        refine ⟨rfl, ?_⟩
        walk_at "ss"
        refine k_nt (c := V.non = V.non) rfl ?_
        walk_at "ss"
        refine k_fldAt hx5 T.cl_Rule T.no_Rule_name (i := 0) (by decide +kernel) rfl ?_
        walk_at "ss"
        refine k_fldAt hx5 T.cl_Rule T.no_Rule_chips (i := 1) (by decide +kernel) rfl ?_
        walk_at "ss"
        refine k_restT hr5 (by decide +kernel) (by decide +kernel) (fun Q q => k_fld (k_var rfl (k_fldAt hx5 T.cl_Rule T.no_Rule_rest (i := 2) (by decide +kernel) rfl q))) ⟨r, _, rfl, hr5, ?_⟩
        walk_at "ss"
        intro q1 nq1
        generalize eD : upd H5 q1 _ = H6
        have s6 := upd_sm eD nq1
        have hq1 := upd_at eD
        clear eD
        have hL6 := s6 _ _ hL5
        have hr6 := hr5.up s6
        walk_at "ss"
        refine k_restT hr6 (by decide +kernel) (by decide +kernel) (fun Q q => k_var rfl q) ⟨r, _, rfl, hr6, ?_⟩
        walk_at "ss"
        intro q2 nq2
        generalize eD : upd H6 q2 _ = H7
        have s7 := upd_sm eD nq2
        have hq2 := upd_at eD
        clear eD
        walk_at "ss"
        refine ⟨_, _, rfl, eqd_list (d := 2) (s7 _ _ hq1) hq2 (by simp) (fun y hy => ?_), fun H8 s8 => ?_⟩
        · simp only [List.mem_cons, List.not_mem_nil, or_false] at hy
          rcases hy with rfl | rfl | rfl
          · exact Eqd.sc (.str _) 2
          · exact Eqd.sc (.int _) 2
          · exact Eqd.sc (.str _) 2
        have s58 := (s6.trans s7).trans s8
        have hL8 := s58 _ _ hL5
        have hx8 := s58 _ _ hx5
        have hr8 := hr5.up s58
        walk_at "ss"
        refine k_ne rfl ?_
        refine ⟨_, rfl, ?_⟩
        refine k_lab fun lb hlb hln hll => ?_
        walk_at "ss"
        refine k_make ?_
        walk_at "ss"
        intro y dy ny ndy ney
        refine made_rule ny ndy ney hr8 hln hll hc0 hc1 fun H9 s9 hy hyx => ?_
        have hx9 := s9 _ _ hx8
        have hr9 := hr8.up s9
        have hL9 := s9 _ _ hL8
        have hxx : ∀ H', Same H9 H' → RuleX T H' x nm c tx := fun H' s => ⟨dx, r, s _ _ hx9, hr9.up s⟩
        have nlb : eqX nm lb c c tx tx = false := by unfold eqX; rw [decide_eq_false (fun q => hlb q.symm)]; rfl
        have nlb2 : eqX lb nm c c tx tx = false := by unfold eqX; rw [decide_eq_false hlb]; rfl
        walk_at "ss"
        refine ⟨x, dx, _, rfl, hx9, .ins hy T.nf_Rule, x, _, _, _, .ref y, rfl, hxx _ (Same.refl _), .inr ⟨y, _, _, _, rfl, hyx, ?_⟩⟩
        rw [nlb]
        walk_at "ss"
        refine ⟨y, dy, _, rfl, hy, .ins hx9 T.nf_Rule, y, _, _, _, .ref x, rfl, hyx, .inr ⟨x, _, _, _, rfl, hxx _ (Same.refl _), ?_⟩⟩
        rw [nlb2]
        walk_at "ss"
        intro p1 np1
        generalize eD : upd H9 p1 _ = HA
        have sA := upd_sm eD np1
        have hp1 := upd_at eD
        clear eD
        walk_at "ss"
        intro p2 np2
        generalize eD : upd HA p2 _ = HB
        have sB := upd_sm eD np2
        have hp2 := upd_at eD
        clear eD
        walk_at "ss"
        refine ⟨_, _, rfl, eqd_list (d := 2) (sB _ _ hp1) hp2 (by simp) (fun y hy => ?_), fun HC sC => ?_⟩
        · simp only [List.mem_cons, List.not_mem_nil, or_false] at hy
          rcases hy with rfl | rfl <;> exact Eqd.sc (.bl _) 2
        have s9C := (sA.trans sB).trans sC
        have hLC := s9C _ _ hL9
        have hrC := hr9.up s9C
        walk_at "ss"
        refine k_make ?_
        walk_at "ss"
        intro z1 dz1 nz1 ndz1 nez1
        refine made_rule nz1 ndz1 nez1 hrC hnm hnl hc0 hc1 fun HD sD hz1 hzx1 => ?_
        have s9D := s9C.trans sD
        have hLD := s9D _ _ hL9
        refine ⟨x, dx, _, rfl, s9D _ _ hx9, .ins hz1 T.nf_Rule, x, _, _, _, .ref z1, rfl, hxx _ s9D, .inr ⟨z1, _, _, _, rfl, hzx1, ?_⟩⟩
        rw [eqX_same]
        walk_at "ss"
        refine ⟨x, dx, _, rfl, s9D _ _ hx9, x, _, _, _, rfl, hxx _ s9D, hnl, ltx, by omega, hc1, _, rfl, ?_⟩
        refine ⟨x, dx, _, rfl, s9D _ _ hx9, .str _ T.nf_Rule_str, x, _, _, _, _, rfl, hxx _ s9D, .inl ⟨.inl ⟨_, rfl⟩, ?_⟩⟩
        walk_at "ss"
        refine k_make ?_
        walk_at "ss"
        intro z2 dz2 nz2 ndz2 nez2
        refine made_rule nz2 ndz2 nez2 (hr9.up s9D) hnm hnl (by decide) (by decide) fun HE sE hz2 hzx2 => ?_
        have s9E := s9D.trans sE
        refine ⟨x, dx, _, rfl, s9E _ _ hx9, .ins hz2 T.nf_Rule, x, _, _, _, .ref z2, rfl, hxx _ s9E, .inr ⟨z2, _, _, _, rfl, hzx2, ?_⟩⟩
        rw [show eqX nm nm c 8 tx tx = false by unfold eqX; rw [decide_eq_false n8, Bool.false_and, Bool.and_false]]
        walk_at "ss"
        refine ⟨x, dx, _, rfl, s9E _ _ hx9, .int _ T.nf_Rule_int, x, _, _, _, _, rfl, hxx _ s9E, .inl ⟨.inr ⟨_, rfl⟩, ?_⟩⟩
        walk_at "ss"
        intro p3 np3
        generalize eD : upd HE p3 _ = HF
        have sF := upd_sm eD np3
        have hp3 := upd_at eD
        clear eD
        walk_at "ss"
        intro p4 np4
        generalize eD : upd HF p4 _ = HG
        have sG := upd_sm eD np4
        have hp4 := upd_at eD
        clear eD
        walk_at "ss"
        refine ⟨_, _, rfl, eqd_list (d := 2) (sG _ _ hp3) hp4 (by simp) (fun y hy => ?_), fun HH sH => ?_⟩
        · simp only [List.mem_cons, List.not_mem_nil, or_false] at hy
          rcases hy with rfl | rfl | rfl | rfl <;> exact Eqd.sc (.bl _) 2
        exact kfin _ ((((s4.trans s5).trans s58).trans s9).trans (((s9E.trans sF).trans sG).trans sH))
      · intro E Q' G2 s12 hb2 hmk
        have hLu := up_get (β := β9) hb2.nb (s12 _ _ IA.at_)
        walk_at "ss"
        refine k_draw hb2 (by decide) (by decide) fun d β2 d0 d1 hb3 => ?_
        have hLu := up_get (β := β2) hb2.nb (s12 _ _ IA.at_)
        walk_at "ss"
        refine k_d (fun h0 => ?_) (fun h0 => ?_)
        · refine k_make ?_
          walk_at "ss"
          exact hmk β2 hb3
        · refine k_makeKS ?_
          walk_at "ss"
          exact hmk β2 hb3
end

section
open LamX
variable {w : World} {K : PySem.W.Frag} {mg : Str → Option Value} {base : Heap}
theorem ask_lad {T : Tx K mg} {H1 : Hp} {v0 v1 v2 v3 : V} {tl : XK → Hp → VK → Prop} {Q0 : VK} (g0 : Gv H1 v0) (g1 : Gv H1 v1) (g2 : Gv H1 v2) (g3 : Gv H1 v3)
    (K1 : ∀ (e : Er) (v : V), ladBad v0 v1 v2 v3 = some (e, v) → ∀ (H3 : Hp) (f t : Addr), Same H1 H3 → H3 f = some (.lst [.str e.S, v]) → H3 t = some (.tup [.non, .ref f]) → Q0 (.ref t) H3)
    (K2 : ∀ z s e n, LadOk v0 v1 v2 v3 z s e n → ladBad v0 v1 v2 v3 = none → ∀ (H3 : Hp) (r t : Addr), Same H1 H3 → LadAt T H3 r z s e n → H3 t = some (.tup [.ref r, .non]) → Q0 (.ref t) H3)
    (htl : ∀ (E : XK) (Q' : VK) (H2 : Hp), Same H1 H2 → spLad T [v0, v1, v2, v3] H2 Q' E → tl E H2 Q') : TT_ask T tl H1 Q0 := by
  intro H2 E Q' s12 hE hQ
  refine htl E Q' H2 s12 ⟨v0, v1, v2, v3, rfl, g0.up s12, g1.up s12, g2.up s12, g3.up s12, fun e v hbad H' d sm hd => ?_, fun z s e n ok hn r H' sm hl => ?_⟩
  · exact hE _ _ _ ⟨e, d, v, rfl, rfl, hd, fun f t H3 s4 hf ht => K1 e v hbad H3 f t ((s12.trans sm).trans s4) hf ht⟩
  · exact hQ _ _ fun t H3 s4 ht => K2 z s e n ok hn H3 r t ((s12.trans sm).trans s4) (hl.up s4) ht
def DueAt (G : Hp) (dv : V) (o : Option (Er × V)) : Prop := (o = none ∧ dv = .non) ∨ ∃ (e : Er) (v : V) (f : Addr), o = some (e, v) ∧ dv = .ref f ∧ G f = some (.lst [.str e.S, v])
theorem DueAt.keep {G G' : Hp} {dv : V} {o : Option (Er × V)} (h : DueAt G dv o) (e : ExtN G G') : DueAt G' dv o := by
  rcases h with h | ⟨er, v, f, h1, h2, h3⟩
  · exact .inl h
  · exact .inr ⟨er, v, f, h1, h2, e _ _ h3 (fun ps z => by cases z)⟩
theorem PartsAt.ext {G G' : Hp} {L : Addr} {vs : List V} (h : PartsAt G L vs) (e : ExtN G G') : PartsAt G' L vs := ⟨e _ _ h.1 (fun ps z => by cases z), fun v hv => (h.2 v hv).keep (ext_keep e)⟩
theorem bad_val {v0 v1 v2 v3 v : V} {e : Er} (h : ladBad v0 v1 v2 v3 = some (e, v)) : v ∈ [v0, v1, v2, v3] := by
  unfold ladBad at h
  by_cases h0 : nameH v0 7 = false
  · rw [if_pos h0] at h; cases h; simp
  rw [if_neg h0] at h
  by_cases h1 : numV v1 1 1000 = false
  · rw [if_pos h1] at h; cases h; simp
  rw [if_neg h1] at h
  by_cases h2 : numV v2 1 1000 = false
  · rw [if_pos h2] at h; cases h; simp
  rw [if_neg h2] at h
  by_cases h3 : badS v1 v2 v3 = true
  · rw [if_pos h3] at h; cases h; simp
  · rw [if_neg h3] at h; cases h
theorem RuleW.down {T : Tx K mg} {G0 G G' : Hp} {b : Addr} {β : HO} {a : Addr} {nm : Str} {c wd : Int} (hb : Bag K G0 G b β) (h : RuleW T (upd G' b β) a nm c (.win wd)) : RuleW T G' a nm c (.win wd) := by
  obtain ⟨l, ns, i, r, s, cc, rfl, _⟩ := hb.ex
  obtain ⟨dx, r, h1, h2⟩ := h
  have n1 : a ≠ b := fun e => by rw [e, upd_same] at h1; cases h1
  rw [upd_ne n1] at h1
  cases h2 with
  | win h2 ht =>
    have n2 : r ≠ b := fun e => by rw [e, upd_same] at h2; cases h2
    rw [upd_ne n2] at h2
    exact ⟨dx, r, h1, .win h2 ht⟩
theorem LadAt.down {T : Tx K mg} {G0 G G' : Hp} {b : Addr} {β : HO} {t : Addr} {z : Str} {s e : Int} {n : Nat} (hb : Bag K G0 G b β) (h : LadAt T (upd G' b β) t z s e n) : LadAt T G' t z s e n := by
  obtain ⟨rs, h1, h2, h3⟩ := h
  refine ⟨rs, ?_, h2, fun i r hr => RuleW.down hb (h3 i r hr)⟩
  obtain ⟨l, ns, i, r, s, cc, rfl, _⟩ := hb.ex
  by_cases q : t = b
  · exfalso
    rw [q, upd_same] at h1
    have e := HO.lst.inj (Option.some.inj h1)
    cases rs with
    | nil => cases e
    | cons a rs => cases rs with
      | nil => cases e
      | cons a2 rs => cases e
  · rw [upd_ne q] at h1
    exact h1
theorem mem_TL {T : Tx K mg} {p : Addr × Str} (h : p ∈ TL_ T) : p.1 = T.tb_one_rule_so ∨ p.1 = T.tb_law := by
  rcases List.mem_cons.mp h with rfl | h
  · exact .inr rfl
  · rcases List.mem_cons.mp h with rfl | h
    · exact .inl rfl
    · cases h
def spLaw (T : Tx K mg) : Sp := fun vs H Q _ => ∃ (a : Addr) (ns : List Int), vs = [.ref a] ∧ SqL K H a (ns.map V.int) ∧ Tabs (TL_ T) H ∧ ∀ H', Q (.bl true) H'
theorem ok_law (T : Tx K mg) (TB_law : TabB base mg T.cda_law T.tb_law) (TB1 : TabB base mg T.cda_one_rule_so T.tb_one_rule_so) : FnOk P w K mg base CX0 18 T.a_law T.fd_law P_law (spLaw T) := by
  refine T.F_law.ok sc_law (fun vs H Q E h => ?_) (fun A outer s H vs Q E hr h => ?_)
  · obtain ⟨a, ns, rfl, _⟩ := h
    rfl
  · obtain ⟨a, ns, rfl, hl, hT, k⟩ := h
    have nd := sc_law.nd
    obtain ⟨oc9, od9, kV9, doc9, pm9, an9, cdv9, ct9, osl9, efd9, lk_ask, hc_ask⟩ := T.F_ask.ex
    have hb_ask := T.b_ask
    rw [efd9] at lk_ask hb_ask
    refine ⟨_, (pss_cons (ks_setL (i := 1) nd l_law_law_bag_here (pe_call (ok_bag T) (hr.mono (by first | decide | omega)) g_law_law_bag T.m_bag T.k_bag T.b_bag .nil pass0 (pa_cons (kv (i := 0) v_law_law_script) pa_nil)))
      (pss_cons (ps_for PassesOwn.never rfl (pi_range1 g_law_range T.n_range (pa_cons pe_int pa_nil)) (kgL (i := 2) nd l_law_law_k) (pss_cons (ks_setC (i := 6) nd c_law_law_parts (pe_call (ok_given T) (hr.mono (by first | decide | omega)) g_law_law_given T.m_given T.k_given T.b_given .nil pass0 (pa_cons (kv (i := 1) v_law_law_bag_here) pa_nil)))
      (kss_meet (ks_setL (i := 3) nd l_law_law_due (pe_call (ok_ladder_due T) (hr.mono (by first | decide | omega)) g_law_law_ladder_due T.m_ladder_due T.k_ladder_due T.b_ladder_due .nil pass0 (pa_cons (kv (i := 6) v_law_law_parts) pa_nil)))
      (pss_cons (ks_setC (i := 7) nd c_law_law_way (pe_call (ok_draw T) (hr.mono (by first | decide | omega)) g_law_law_draw T.m_draw T.k_draw T.b_draw .nil pass0 (pa_cons (kv (i := 1) v_law_law_bag_here) (pa_cons pe_int pa_nil))))
      (pss_cons (ps_asg (pe_lamA (k := 8) (T := TL_ T) (TT := TT_ask T) g_law_law_ask T.m_ask T.k_ask lk_ask hc_ask hb_ask sc_ask rfl vl_ask (gives_ask T) TB_law rfl (TM_law T) (TU_law T) (hr.mono (by first | decide | omega)) (LamX.lamS_by lam_law_ls_law_1) (fun A outer s H E lf lc hr => (pe_ifExp (pt_cmpR op_eq (kv (i := 7) v_law_L1_law_way) pe_int (nomark _)) (pe_call (ok_ladder T) (hr.mono (by first | decide | omega)) g_law_L1_ladder T.m_ladder T.k_ladder T.b_ladder .nil (passes_call (takes_of rfl rfl rfl rfl) (fun _ _ _ _ h => h)) (pa_cons (pe_ix (kix K) (kv (i := 6) v_law_L1_law_parts) pe_int (fun _ _ => rfl)) (pa_cons (pe_ix (kix K) (kv (i := 6) v_law_L1_law_parts) pe_int (fun _ _ => rfl)) (pa_cons (pe_ix (kix K) (kv (i := 6) v_law_L1_law_parts) pe_int (fun _ _ => rfl)) (pa_cons (pe_ix (kix K) (kv (i := 6) v_law_L1_law_parts) pe_int (fun _ _ => rfl)) pa_nil))))) (pe_callKS (ok_ladder T) (hr.mono (by first | decide | omega)) g_law_L1_ladder T.m_ladder T.k_ladder T.kb_ladder_size_name_steps_every (fun σ => passAt (takes_of rfl rfl rfl rfl) σ) (pk_cons (pe_ix (kix K) (kv (i := 6) v_law_L1_law_parts) pe_int (fun _ _ => rfl)) (pk_cons (pe_ix (kix K) (kv (i := 6) v_law_L1_law_parts) pe_int (fun _ _ => rfl)) (pk_cons (pe_ix (kix K) (kv (i := 6) v_law_L1_law_parts) pe_int (fun _ _ => rfl)) (pk_cons (pe_ix (kix K) (kv (i := 6) v_law_L1_law_parts) pe_int (fun _ _ => rfl)) pk_nil)))))))) (kpg_tup K 2 rfl (pgs_cons (kgL (i := 4) nd l_law_law_told) (pgs_cons (kgL (i := 5) nd l_law_law_fault) pgs_nil))))
      (pss_cons (ps_if (pt_cmpR op_notN (kv (i := 3) v_law_law_due) pe_non (nomark _)) (pss_one (ps_if (PW.pt (pw_or (pt_cmpR op_notN (kv (i := 4) v_law_law_told) pe_non (nomark _)) (pw_or1 (pt_not (pt_val (pe_call (ok_like T) (hr.mono (by first | decide | omega)) g_law_law_like T.m_like T.k_like T.b_like .nil pass0 (pa_cons (kv (i := 5) v_law_law_fault) (pa_cons (kv (i := 3) v_law_law_due) pa_nil)))))))) (pss_one (ps_ret pe_bl)) pss_nil)) (pss_one (ps_if (PW.pt (pw_or (pt_cmpR op_notN (kv (i := 5) v_law_law_fault) pe_non (nomark _)) (pw_or1 (pt_not (pt_val (pe_call (ok_rules_so T) (hr.mono (by first | decide | omega)) g_law_law_rules_so T.m_rules_so T.k_rules_so T.b_rules_so .nil pass0 (pa_cons (kv (i := 6) v_law_law_parts) (pa_cons (kv (i := 4) v_law_law_told) pa_nil)))))))) (pss_one (ps_ret pe_bl)) (pss_one (ps_if (PW.pt (pw_and (pt_cmpR op_lt (pe_ix (kix K) (kv (i := 6) v_law_law_parts) pe_int (fun _ _ => rfl)) pe_int (nomark _)) (pw_and1 (pt_not (pt_val (pe_call (ok_asked_so T) (hr.mono (by first | decide | omega)) g_law_law_asked_so T.m_asked_so T.k_asked_so T.b_asked_so .nil pass0 (pa_cons (kv (i := 1) v_law_law_bag_here) (pa_cons (kv (i := 6) v_law_law_parts) (pa_cons (kv (i := 4) v_law_law_told) pa_nil))))))))) (pss_one (ps_ret pe_bl)) pss_nil)))))
      (pss_one (ps_if (pt_not (pt_val (pe_call (ok_one_rule_so T TB1) (hr.mono (by first | decide | omega)) g_law_law_one_rule_so T.m_one_rule_so T.k_one_rule_so T.b_one_rule_so .nil pass0 (pa_cons (kv (i := 1) v_law_law_bag_here) pa_nil)))) (pss_one (ps_ret pe_bl)) pss_nil))))))))
      (pss_one (ps_ret pe_bl)))), ?_⟩
    walk_at "ss"
    refine ⟨a, ns, rfl, hl, fun b G β sG hb => ?_⟩
    have hT0 : Tabs (TL_ T) (upd G b β) := hT.ext (sG.trans (up_same hb.nb))
    walk_at "ss"
    refine k_r1 ⟨by decide, by decide⟩ ?_
    refine k_forRange (n := 3) (fun i σ H' => ∃ (G' : Hp) (β' : HO) (u2 u3 u4 u5 u6 u7 : Option V), σ = [some (.ref a), some (.ref b), u2, u3, u4, u5, u6, u7] ∧ H' = upd G' b β' ∧ Bag K G' G' b β' ∧ Tabs (TL_ T) (upd G' b β')) ⟨G, β, _, _, _, _, _, _, rfl, rfl, hb, hT0⟩ ?_ ?_
    · rintro i σ H' _ ⟨G1, β1, u2, u3, u4, u5, u6, u7, rfl, rfl, hb1, hT1⟩
      walk_at "ss"
      refine ⟨G1, G1, b, β1, rfl, rfl, hb1, fun L v0 v1 v2 v3 G2 β2 s12 hb2 hP => ?_⟩
      have hT2 : Tabs (TL_ T) (upd G2 b β2) := Tabs.bag hT1 hb1 s12 hb2.nb
      walk_at "ss"
      refine k_meet (fun σ H' => ∃ (G' : Hp) (dv w2 : V), σ = [some (.ref a), some (.ref b), some w2, some dv, u4, u5, some (.ref L), u7] ∧ H' = upd G' b β2 ∧ Bag K G1 G' b β2 ∧ Tabs (TL_ T) (upd G' b β2) ∧ PartsAt G' L [v0, v1, v2, v3] ∧ DueAt G' dv (ladBad v0 v1 v2 v3)) ?_ ?_
      · walk_at "ss"
        have sU := up_same (β := β2) hb2.nb
        have gv : ∀ v ∈ [v0, v1, v2, v3], Gv (upd G2 b β2) v := fun v hv => ((hP.2 v hv).up sU).gv
        refine ⟨L, v0, v1, v2, v3, rfl, sU _ _ hP.1, gv _ (by simp), gv _ (by simp), gv _ (by simp), gv _ (by simp), fun hn H3 s3 => ?_, fun e v hbad f H3 s3 hf => ?_⟩
        · obtain ⟨G3, nb3, s23, rfl⟩ := split_up hb2.nb s3
          walk_at "ss"
          exact ⟨G3, _, _, rfl, rfl, hb2.up s23 nb3, Tabs.bag hT2 hb2 s23 nb3, hP.up s23, .inl ⟨hn, rfl⟩⟩
        · obtain ⟨G3, nb3, s23, rfl⟩ := split_up hb2.nb s3
          have nfb : f ≠ b := fun z => by
            obtain ⟨l, ns, i, rr, s, c, rfl, _⟩ := hb2.ex
            rw [z, upd_same] at hf
            cases hf
          rw [upd_ne nfb] at hf
          walk_at "ss"
          exact ⟨G3, _, _, rfl, rfl, hb2.up s23 nb3, Tabs.bag hT2 hb2 s23 nb3, hP.up s23, .inr ⟨e, v, f, hbad, rfl, hf⟩⟩
      · rintro σ H' ⟨G3, dv, w2, rfl, rfl, hb3, hT3, hP3, hD3⟩
        walk_at "ss"
        refine k_draw hb3 (by decide) (by decide) fun wy β4 _ _ hb4 => ?_
        have hT4 : Tabs (TL_ T) (upd G3 b β4) := Tabs.bag hT3 hb3 (Same.refl _) hb3.nb
        walk_at "ss"
        refine k_lam hT4 fun H1 eN T5 => ?_
        obtain ⟨G5, nb5, e5, rfl⟩ := split_ext hb4.nb hb4.nt eN
        have hb5 := hb4.ext e5 nb5
        have hP5 := hP3.ext e5
        have hD5 := hD3.keep e5
        have sU := up_same (β := β4) nb5
        have gv : ∀ v ∈ [v0, v1, v2, v3], Gv (upd G5 b β4) v := fun v hv => ((hP5.2 v hv).up sU).gv
        have hL5 := sU _ _ hP5.1
        refine ask_lad (gv v0 (by simp)) (gv v1 (by simp)) (gv v2 (by simp)) (gv v3 (by simp)) ?_ ?_ ?_
        · intro e v hbad H3 f t s3 hf ht
          obtain ⟨f0, rfl, hf0⟩ : ∃ f0, dv = .ref f0 ∧ G5 f0 = some (.lst [.str e.S, v]) := by
            rcases hD5 with ⟨h, _⟩ | ⟨e2, v2, f2, h1, h2, h3⟩
            · rw [hbad] at h; cases h
            · rw [hbad] at h1
              cases h1
              exact ⟨f2, h2, h3⟩
          have gd : Gd (OnlyL L) H3 2 v := ((hP5.2 v (bad_val hbad)).up sU).up s3
          have hf03 := s3 _ _ (sU _ _ hf0)
          refine k_gTup (SqT.of ht) rfl ?_
          walk_at "ss"
          refine ⟨rfl, ?_⟩
          walk_at "ss"
          refine k_nf (fun q => by cases q) ?_
          walk_at "ss"
          refine ⟨rfl, ?_⟩
          walk_at "ss"
          refine k_nt (c := V.non = V.non) rfl ?_
          walk_at "ss"
          refine ⟨_, _, rfl, eqd_list (d := 2) hf hf03 (by simp) (fun y hy => ?_), fun H4 s4 => ?_⟩
          · simp only [List.mem_cons, List.not_mem_nil, or_false] at hy
            rcases hy with rfl | rfl
            · exact Eqd.sc (.str _) 2
            · exact gd.eqd
          obtain ⟨G6, nb6, s56, rfl⟩ := split_up nb5 (s3.trans s4)
          walk_at "ss"
          refine ⟨G6, b, β4, rfl, rfl, (hb5.re.up0 s56 nb6).re, Tabs.bag T5 hb5 s56 nb6, fun G7 β7 hb7 hT7 => ?_⟩
          walk_at "ss"
          exact ⟨G7, β7, _, _, _, _, _, _, rfl, rfl, hb7, hT7⟩
        · intro z sz ev n ok hnone H3 r t s3 hlad ht
          obtain rfl : dv = .non := by
            rcases hD5 with ⟨_, h⟩ | ⟨e2, v2, f2, h1, _, _⟩
            · exact h
            · rw [hnone] at h1; cases h1
          have hL3 := s3 _ _ hL5
          refine k_gTup (SqT.of ht) rfl ?_
          walk_at "ss"
          refine ⟨rfl, ?_⟩
          walk_at "ss"
          refine k_nt (c := V.non = V.non) rfl ?_
          walk_at "ss"
          refine ⟨rfl, ?_⟩
          walk_at "ss"
          refine k_nt (c := V.non = V.non) rfl ?_
          walk_at "ss"
          refine ⟨L, r, v0, v1, v2, v3, z, sz, ev, n, rfl, hL3, ok, hlad, fun H4 s4 => ?_⟩
          have hL4 := s4 _ _ hL3
          have hlad4 := hlad.up s4
          obtain ⟨G6, nb6, s56, rfl⟩ := split_up nb5 (s3.trans s4)
          have hb6 := hb5.re.up0 s56 nb6
          have hT6 : Tabs (TL_ T) (upd G6 b β4) := Tabs.bag T5 hb5 s56 nb6
          have e1 := ok.e1
          subst e1
          walk_at "ss"
          refine k_d (fun h40 => ?_) (fun h40 => ?_)
          · walk_at "ss"
            refine ⟨G5, G6, b, L, r, β4, v0, .int sz, v2, v3, z, sz, ev, n, rfl, rfl, hb6, s56 _ _ hP5.1, ok, LadAt.down hb6 hlad4, fun G7 β7 s67 hb7 => ?_⟩
            have hT7 : Tabs (TL_ T) (upd G7 b β7) := Tabs.bag hT6 hb6 s67 hb7.nb
            walk_at "ss"
            refine ⟨G7, b, β7, rfl, rfl, hb7.re, hT7, fun G8 β8 hb8 hT8 => ?_⟩
            walk_at "ss"
            exact ⟨G8, β8, _, _, _, _, _, _, rfl, rfl, hb8, hT8⟩
          · walk_at "ss"
            refine ⟨G6, b, β4, rfl, rfl, hb6.re, hT6, fun G8 β8 hb8 hT8 => ?_⟩
            walk_at "ss"
            exact ⟨G8, β8, _, _, _, _, _, _, rfl, rfl, hb8, hT8⟩
        · intro E Q' H2 s2 hlad
          have hL2 := s2 _ _ hL5
          walk_at "ss"
          refine k_d (fun h0 => ?_) (fun h0 => ?_)
          · walk_at "ss"
            exact hlad
          · refine k_callKS ?_
            walk_at "ss"
            exact hlad
    · rintro σ H' ⟨G1, β1, u2, u3, u4, u5, u6, u7, rfl, rfl, hb1, hT1⟩
      walk_at "ss"
      exact k _
end

set_option maxHeartbeats 0 in
def tx_mk {K : PySem.W.Frag} {h : Heap} {mg : Str → Option Value} (X : K.In h) (G : h.Ns mainGlobals mg) {C_Rest : Addr} {C_Window : Addr} {C_Days : Addr} {C_SureletError : Addr} {C_InvalidName : Addr} {C_InvalidNumber : Addr} {C_InvalidRest : Addr} {C_Rule : Addr} {A_InvalidNumber_init : Addr} {oc_InvalidNumber_init kV_InvalidNumber_init doc_InvalidNumber_init pm_InvalidNumber_init ct_InvalidNumber_init : Value} {od_InvalidNumber_init an_InvalidNumber_init : Option Addr} {sl_InvalidNumber_init : Array (Option Value)} {cc_InvalidNumber_init cda_InvalidNumber_init : Addr} {cl_InvalidNumber_init ccl_InvalidNumber_init : Value} {cld_InvalidNumber_init cdd_InvalidNumber_init : Option Addr} {csl_InvalidNumber_init ccs_InvalidNumber_init : Array (Option Value)} {vs_InvalidNumber_init : Array Value} {file_InvalidNumber_init : Str} {tf_InvalidNumber_init : Tok} {cd_InvalidNumber_init : PySem.ClassData} {A_InvalidName_init : Addr} {oc_InvalidName_init kV_InvalidName_init doc_InvalidName_init pm_InvalidName_init ct_InvalidName_init : Value} {od_InvalidName_init an_InvalidName_init : Option Addr} {sl_InvalidName_init : Array (Option Value)} {cc_InvalidName_init cda_InvalidName_init : Addr} {cl_InvalidName_init ccl_InvalidName_init : Value} {cld_InvalidName_init cdd_InvalidName_init : Option Addr} {csl_InvalidName_init ccs_InvalidName_init : Array (Option Value)} {vs_InvalidName_init : Array Value} {file_InvalidName_init : Str} {tf_InvalidName_init : Tok} {cd_InvalidName_init : PySem.ClassData} {A_InvalidRest_init : Addr} {oc_InvalidRest_init kV_InvalidRest_init doc_InvalidRest_init pm_InvalidRest_init ct_InvalidRest_init : Value} {od_InvalidRest_init an_InvalidRest_init : Option Addr} {sl_InvalidRest_init : Array (Option Value)} {cc_InvalidRest_init cda_InvalidRest_init : Addr} {cl_InvalidRest_init ccl_InvalidRest_init : Value} {cld_InvalidRest_init cdd_InvalidRest_init : Option Addr} {csl_InvalidRest_init ccs_InvalidRest_init : Array (Option Value)} {vs_InvalidRest_init : Array Value} {file_InvalidRest_init : Str} {tf_InvalidRest_init : Tok} {cd_InvalidRest_init : PySem.ClassData} {A_is_number : Addr} {oc_is_number kV_is_number doc_is_number pm_is_number ct_is_number : Value} {od_is_number an_is_number : Option Addr} {sl_is_number : Array (Option Value)} {cdv_is_number : Value} {A_is_name : Addr} {oc_is_name kV_is_name doc_is_name pm_is_name ct_is_name : Value} {od_is_name an_is_name : Option Addr} {sl_is_name : Array (Option Value)} {cdv_is_name : Value} {A_Rest_init : Addr} {oc_Rest_init kV_Rest_init doc_Rest_init pm_Rest_init ct_Rest_init : Value} {od_Rest_init an_Rest_init : Option Addr} {sl_Rest_init : Array (Option Value)} {cdv_Rest_init : Value} {A_Rest_call : Addr} {oc_Rest_call kV_Rest_call doc_Rest_call pm_Rest_call ct_Rest_call : Value} {od_Rest_call an_Rest_call : Option Addr} {sl_Rest_call : Array (Option Value)} {cdv_Rest_call : Value} {A_Rest_written : Addr} {oc_Rest_written kV_Rest_written doc_Rest_written pm_Rest_written ct_Rest_written : Value} {od_Rest_written an_Rest_written : Option Addr} {sl_Rest_written : Array (Option Value)} {cdv_Rest_written : Value} {A_Rest_eq : Addr} {oc_Rest_eq kV_Rest_eq doc_Rest_eq pm_Rest_eq ct_Rest_eq : Value} {od_Rest_eq an_Rest_eq : Option Addr} {sl_Rest_eq : Array (Option Value)} {cdv_Rest_eq : Value} {A_Window_init : Addr} {oc_Window_init kV_Window_init doc_Window_init pm_Window_init ct_Window_init : Value} {od_Window_init an_Window_init : Option Addr} {sl_Window_init : Array (Option Value)} {cc_Window_init cda_Window_init : Addr} {cl_Window_init ccl_Window_init : Value} {cld_Window_init cdd_Window_init : Option Addr} {csl_Window_init ccs_Window_init : Array (Option Value)} {vs_Window_init : Array Value} {file_Window_init : Str} {tf_Window_init : Tok} {cd_Window_init : PySem.ClassData} {A_Window_after : Addr} {oc_Window_after kV_Window_after doc_Window_after pm_Window_after ct_Window_after : Value} {od_Window_after an_Window_after : Option Addr} {sl_Window_after : Array (Option Value)} {cdv_Window_after : Value} {A_Days_init : Addr} {oc_Days_init kV_Days_init doc_Days_init pm_Days_init ct_Days_init : Value} {od_Days_init an_Days_init : Option Addr} {sl_Days_init : Array (Option Value)} {cc_Days_init cda_Days_init : Addr} {cl_Days_init ccl_Days_init : Value} {cld_Days_init cdd_Days_init : Option Addr} {csl_Days_init ccs_Days_init : Array (Option Value)} {vs_Days_init : Array Value} {file_Days_init : Str} {tf_Days_init : Tok} {cd_Days_init : PySem.ClassData} {A_Days_after : Addr} {oc_Days_after kV_Days_after doc_Days_after pm_Days_after ct_Days_after : Value} {od_Days_after an_Days_after : Option Addr} {sl_Days_after : Array (Option Value)} {cdv_Days_after : Value} {A_Rule_init : Addr} {oc_Rule_init kV_Rule_init doc_Rule_init pm_Rule_init ct_Rule_init : Value} {od_Rule_init an_Rule_init : Option Addr} {sl_Rule_init : Array (Option Value)} {cdv_Rule_init : Value} {A_Rule_str : Addr} {oc_Rule_str kV_Rule_str doc_Rule_str pm_Rule_str ct_Rule_str : Value} {od_Rule_str an_Rule_str : Option Addr} {sl_Rule_str : Array (Option Value)} {cdv_Rule_str : Value} {A_Rule_eq : Addr} {oc_Rule_eq kV_Rule_eq doc_Rule_eq pm_Rule_eq ct_Rule_eq : Value} {od_Rule_eq an_Rule_eq : Option Addr} {sl_Rule_eq : Array (Option Value)} {cdv_Rule_eq : Value} {A_ladder : Addr} {oc_ladder kV_ladder doc_ladder pm_ladder ct_ladder : Value} {od_ladder an_ladder : Option Addr} {sl_ladder : Array (Option Value)} {cdv_ladder : Value} {A_fullest : Addr} {oc_fullest kV_fullest doc_fullest pm_fullest ct_fullest : Value} {od_fullest an_fullest : Option Addr} {sl_fullest : Array (Option Value)} {cdv_fullest : Value} {A_is_within : Addr} {oc_is_within kV_is_within doc_is_within pm_is_within ct_is_within : Value} {od_is_within an_is_within : Option Addr} {sl_is_within : Array (Option Value)} {cdv_is_within : Value} {A_bag : Addr} {oc_bag kV_bag doc_bag pm_bag ct_bag : Value} {od_bag an_bag : Option Addr} {sl_bag : Array (Option Value)} {cdv_bag : Value} {A_draw : Addr} {oc_draw kV_draw doc_draw pm_draw ct_draw : Value} {od_draw an_draw : Option Addr} {sl_draw : Array (Option Value)} {cdv_draw : Value} {A_of : Addr} {oc_of kV_of doc_of pm_of ct_of : Value} {od_of an_of : Option Addr} {sl_of : Array (Option Value)} {cdv_of : Value} {A_like : Addr} {oc_like kV_like doc_like pm_like ct_like : Value} {od_like an_like : Option Addr} {sl_like : Array (Option Value)} {cdv_like : Value} {A_odd : Addr} {oc_odd kV_odd doc_odd pm_odd ct_odd : Value} {od_odd an_odd : Option Addr} {sl_odd : Array (Option Value)} {cdv_odd : Value} {A_ask : Addr} {oc_ask kV_ask doc_ask pm_ask ct_ask : Value} {od_ask an_ask : Option Addr} {sl_ask : Array (Option Value)} {cdv_ask : Value} {A_in : Addr} {oc_in kV_in doc_in pm_in ct_in : Value} {od_in an_in : Option Addr} {sl_in : Array (Option Value)} {cdv_in : Value} {A_named : Addr} {oc_named kV_named doc_named pm_named ct_named : Value} {od_named an_named : Option Addr} {sl_named : Array (Option Value)} {cdv_named : Value} {A_wrong : Addr} {oc_wrong kV_wrong doc_wrong pm_wrong ct_wrong : Value} {od_wrong an_wrong : Option Addr} {sl_wrong : Array (Option Value)} {cdv_wrong : Value} {A_given : Addr} {oc_given kV_given doc_given pm_given ct_given : Value} {od_given an_given : Option Addr} {sl_given : Array (Option Value)} {cdv_given : Value} {A_ladder_due : Addr} {oc_ladder_due kV_ladder_due doc_ladder_due pm_ladder_due ct_ladder_due : Value} {od_ladder_due an_ladder_due : Option Addr} {sl_ladder_due : Array (Option Value)} {cdv_ladder_due : Value} {A_rules_so : Addr} {oc_rules_so kV_rules_so doc_rules_so pm_rules_so ct_rules_so : Value} {od_rules_so an_rules_so : Option Addr} {sl_rules_so : Array (Option Value)} {cdv_rules_so : Value} {A_let : Addr} {oc_let kV_let doc_let pm_let ct_let : Value} {od_let an_let : Option Addr} {sl_let : Array (Option Value)} {cdv_let : Value} {A_asked_so : Addr} {oc_asked_so kV_asked_so doc_asked_so pm_asked_so ct_asked_so : Value} {od_asked_so an_asked_so : Option Addr} {sl_asked_so : Array (Option Value)} {cdv_asked_so : Value} {A_one_rule_so : Addr} {oc_one_rule_so kV_one_rule_so doc_one_rule_so pm_one_rule_so ct_one_rule_so : Value} {od_one_rule_so an_one_rule_so : Option Addr} {sl_one_rule_so : Array (Option Value)} {cda_one_rule_so tb_one_rule_so : Addr} {tcl_one_rule_so : Value} {tcd_one_rule_so : Option Addr} {tvs_one_rule_so : Array Value} {tsl_one_rule_so : Array (Option Value)} {A_law : Addr} {oc_law kV_law doc_law pm_law ct_law : Value} {od_law an_law : Option Addr} {sl_law : Array (Option Value)} {cda_law tb_law : Addr} {tcl_law : Value} {tcd_law : Option Addr} {tvs_law : Array Value} {tsl_law : Array (Option Value)} {t_BORDERS : Tok} {t_DIGITS : Tok} {t_LETTERS : Tok} {nm_InvalidName q_InvalidName : Str} {N_InvalidName : Addr} {bs_InvalidName : List Value} {sn_InvalidName : List Str} {sb_InvalidName : List Value} {ab_InvalidName : Bool} {co_InvalidName : Option Bool} {dd_InvalidName : Option Addr} {e0_InvalidName e1_InvalidName e2_InvalidName e3_InvalidName e5_InvalidName : Option Value} {nm_InvalidNumber q_InvalidNumber : Str} {N_InvalidNumber : Addr} {bs_InvalidNumber : List Value} {sn_InvalidNumber : List Str} {sb_InvalidNumber : List Value} {ab_InvalidNumber : Bool} {co_InvalidNumber : Option Bool} {dd_InvalidNumber : Option Addr} {e0_InvalidNumber e1_InvalidNumber e2_InvalidNumber e3_InvalidNumber e5_InvalidNumber : Option Value} {nm_InvalidRest q_InvalidRest : Str} {N_InvalidRest : Addr} {bs_InvalidRest : List Value} {sn_InvalidRest : List Str} {sb_InvalidRest : List Value} {ab_InvalidRest : Bool} {co_InvalidRest : Option Bool} {dd_InvalidRest : Option Addr} {e0_InvalidRest e1_InvalidRest e2_InvalidRest e3_InvalidRest e5_InvalidRest : Option Value}
    (aC_Rest : PySem.W.nsIn K mainGlobals "Rest" = some (some (.ref C_Rest))) (aC_Window : PySem.W.nsIn K mainGlobals "Window" = some (some (.ref C_Window))) (aC_Days : PySem.W.nsIn K mainGlobals "Days" = some (some (.ref C_Days))) (aC_SureletError : PySem.W.nsIn K mainGlobals "SureletError" = some (some (.ref C_SureletError))) (aC_InvalidName : PySem.W.nsIn K mainGlobals "InvalidName" = some (some (.ref C_InvalidName))) (aC_InvalidNumber : PySem.W.nsIn K mainGlobals "InvalidNumber" = some (some (.ref C_InvalidNumber))) (aC_InvalidRest : PySem.W.nsIn K mainGlobals "InvalidRest" = some (some (.ref C_InvalidRest))) (aC_Rule : PySem.W.nsIn K mainGlobals "Rule" = some (some (.ref C_Rule))) (a_InvalidNumber_init : PySem.W.findIn K (.ref C_InvalidNumber) "__init__" = some (some (.ref A_InvalidNumber_init))) (i_InvalidNumber_init : PySem.W.isFn K (.ref A_InvalidNumber_init) = true) (l_InvalidNumber_init : K.lookup A_InvalidNumber_init = some ⟨oc_InvalidNumber_init, od_InvalidNumber_init, .func (PySem.W.fnX "__init__" "InvalidNumber.__init__" (defArgs s_InvalidNumber_init) (defBody s_InvalidNumber_init) (defScope s_InvalidNumber_init) [("__class__", cc_InvalidNumber_init)] .none kV_InvalidNumber_init doc_InvalidNumber_init pm_InvalidNumber_init an_InvalidNumber_init (.ref cda_InvalidNumber_init) ct_InvalidNumber_init), sl_InvalidNumber_init⟩) (c_InvalidNumber_init : PySem.W.codeIn K (.ref cda_InvalidNumber_init) "InvalidNumber.__init__" = true) (k_InvalidNumber_init : PySem.W.keepIn K (.ref A_InvalidNumber_init) = true) (cell_InvalidNumber_init : K.lookup cc_InvalidNumber_init = some ⟨cl_InvalidNumber_init, cld_InvalidNumber_init, .cell (some (.ref C_InvalidNumber)), csl_InvalidNumber_init⟩) (code_InvalidNumber_init : K.lookup cda_InvalidNumber_init = some ⟨ccl_InvalidNumber_init, cdd_InvalidNumber_init, .fields vs_InvalidNumber_init, ccs_InvalidNumber_init⟩) (vs_InvalidNumber_init : vs_InvalidNumber_init[2]? = some (.str file_InvalidNumber_init tf_InvalidNumber_init)) (fl_InvalidNumber_init : ((P.main.file : Str) == file_InvalidNumber_init) = true) (cd_InvalidNumber_init : PySem.W.clsIn K C_InvalidNumber = some cd_InvalidNumber_init) (a_InvalidName_init : PySem.W.findIn K (.ref C_InvalidName) "__init__" = some (some (.ref A_InvalidName_init))) (i_InvalidName_init : PySem.W.isFn K (.ref A_InvalidName_init) = true) (l_InvalidName_init : K.lookup A_InvalidName_init = some ⟨oc_InvalidName_init, od_InvalidName_init, .func (PySem.W.fnX "__init__" "InvalidName.__init__" (defArgs s_InvalidName_init) (defBody s_InvalidName_init) (defScope s_InvalidName_init) [("__class__", cc_InvalidName_init)] .none kV_InvalidName_init doc_InvalidName_init pm_InvalidName_init an_InvalidName_init (.ref cda_InvalidName_init) ct_InvalidName_init), sl_InvalidName_init⟩) (c_InvalidName_init : PySem.W.codeIn K (.ref cda_InvalidName_init) "InvalidName.__init__" = true) (k_InvalidName_init : PySem.W.keepIn K (.ref A_InvalidName_init) = true) (cell_InvalidName_init : K.lookup cc_InvalidName_init = some ⟨cl_InvalidName_init, cld_InvalidName_init, .cell (some (.ref C_InvalidName)), csl_InvalidName_init⟩) (code_InvalidName_init : K.lookup cda_InvalidName_init = some ⟨ccl_InvalidName_init, cdd_InvalidName_init, .fields vs_InvalidName_init, ccs_InvalidName_init⟩) (vs_InvalidName_init : vs_InvalidName_init[2]? = some (.str file_InvalidName_init tf_InvalidName_init)) (fl_InvalidName_init : ((P.main.file : Str) == file_InvalidName_init) = true) (cd_InvalidName_init : PySem.W.clsIn K C_InvalidName = some cd_InvalidName_init) (a_InvalidRest_init : PySem.W.findIn K (.ref C_InvalidRest) "__init__" = some (some (.ref A_InvalidRest_init))) (i_InvalidRest_init : PySem.W.isFn K (.ref A_InvalidRest_init) = true) (l_InvalidRest_init : K.lookup A_InvalidRest_init = some ⟨oc_InvalidRest_init, od_InvalidRest_init, .func (PySem.W.fnX "__init__" "InvalidRest.__init__" (defArgs s_InvalidRest_init) (defBody s_InvalidRest_init) (defScope s_InvalidRest_init) [("__class__", cc_InvalidRest_init)] .none kV_InvalidRest_init doc_InvalidRest_init pm_InvalidRest_init an_InvalidRest_init (.ref cda_InvalidRest_init) ct_InvalidRest_init), sl_InvalidRest_init⟩) (c_InvalidRest_init : PySem.W.codeIn K (.ref cda_InvalidRest_init) "InvalidRest.__init__" = true) (k_InvalidRest_init : PySem.W.keepIn K (.ref A_InvalidRest_init) = true) (cell_InvalidRest_init : K.lookup cc_InvalidRest_init = some ⟨cl_InvalidRest_init, cld_InvalidRest_init, .cell (some (.ref C_InvalidRest)), csl_InvalidRest_init⟩) (code_InvalidRest_init : K.lookup cda_InvalidRest_init = some ⟨ccl_InvalidRest_init, cdd_InvalidRest_init, .fields vs_InvalidRest_init, ccs_InvalidRest_init⟩) (vs_InvalidRest_init : vs_InvalidRest_init[2]? = some (.str file_InvalidRest_init tf_InvalidRest_init)) (fl_InvalidRest_init : ((P.main.file : Str) == file_InvalidRest_init) = true) (cd_InvalidRest_init : PySem.W.clsIn K C_InvalidRest = some cd_InvalidRest_init) (a_is_number : PySem.W.nsIn K mainGlobals "is_number" = some (some (.ref A_is_number))) (l_is_number : K.lookup A_is_number = some ⟨oc_is_number, od_is_number, .func (PySem.W.fnOf "is_number" "is_number" (defArgs s_is_number) (defBody s_is_number) (defScope s_is_number) .none kV_is_number doc_is_number pm_is_number an_is_number cdv_is_number ct_is_number), sl_is_number⟩) (c_is_number : PySem.W.codeIn K cdv_is_number "is_number" = true) (k_is_number : PySem.W.keepIn K (.ref A_is_number) = true) (a_is_name : PySem.W.nsIn K mainGlobals "is_name" = some (some (.ref A_is_name))) (l_is_name : K.lookup A_is_name = some ⟨oc_is_name, od_is_name, .func (PySem.W.fnOf "is_name" "is_name" (defArgs s_is_name) (defBody s_is_name) (defScope s_is_name) .none kV_is_name doc_is_name pm_is_name an_is_name cdv_is_name ct_is_name), sl_is_name⟩) (c_is_name : PySem.W.codeIn K cdv_is_name "is_name" = true) (k_is_name : PySem.W.keepIn K (.ref A_is_name) = true) (a_Rest_init : PySem.W.findIn K (.ref C_Rest) "__init__" = some (some (.ref A_Rest_init))) (i_Rest_init : PySem.W.isFn K (.ref A_Rest_init) = true) (l_Rest_init : K.lookup A_Rest_init = some ⟨oc_Rest_init, od_Rest_init, .func (PySem.W.fnOf "__init__" "Rest.__init__" (defArgs s_Rest_init) (defBody s_Rest_init) (defScope s_Rest_init) .none kV_Rest_init doc_Rest_init pm_Rest_init an_Rest_init cdv_Rest_init ct_Rest_init), sl_Rest_init⟩) (c_Rest_init : PySem.W.codeIn K cdv_Rest_init "Rest.__init__" = true) (k_Rest_init : PySem.W.keepIn K (.ref A_Rest_init) = true) (a_Rest_call : PySem.W.findIn K (.ref C_Rest) "__call__" = some (some (.ref A_Rest_call))) (i_Rest_call : PySem.W.isFn K (.ref A_Rest_call) = true) (l_Rest_call : K.lookup A_Rest_call = some ⟨oc_Rest_call, od_Rest_call, .func (PySem.W.fnOf "__call__" "Rest.__call__" (defArgs s_Rest_call) (defBody s_Rest_call) (defScope s_Rest_call) .none kV_Rest_call doc_Rest_call pm_Rest_call an_Rest_call cdv_Rest_call ct_Rest_call), sl_Rest_call⟩) (c_Rest_call : PySem.W.codeIn K cdv_Rest_call "Rest.__call__" = true) (k_Rest_call : PySem.W.keepIn K (.ref A_Rest_call) = true) (a_Rest_written : PySem.W.findIn K (.ref C_Rest) "written" = some (some (.ref A_Rest_written))) (i_Rest_written : PySem.W.isFn K (.ref A_Rest_written) = true) (l_Rest_written : K.lookup A_Rest_written = some ⟨oc_Rest_written, od_Rest_written, .func (PySem.W.fnOf "written" "Rest.written" (defArgs s_Rest_written) (defBody s_Rest_written) (defScope s_Rest_written) .none kV_Rest_written doc_Rest_written pm_Rest_written an_Rest_written cdv_Rest_written ct_Rest_written), sl_Rest_written⟩) (c_Rest_written : PySem.W.codeIn K cdv_Rest_written "Rest.written" = true) (k_Rest_written : PySem.W.keepIn K (.ref A_Rest_written) = true) (a_Rest_eq : PySem.W.findIn K (.ref C_Rest) "__eq__" = some (some (.ref A_Rest_eq))) (i_Rest_eq : PySem.W.isFn K (.ref A_Rest_eq) = true) (l_Rest_eq : K.lookup A_Rest_eq = some ⟨oc_Rest_eq, od_Rest_eq, .func (PySem.W.fnOf "__eq__" "Rest.__eq__" (defArgs s_Rest_eq) (defBody s_Rest_eq) (defScope s_Rest_eq) .none kV_Rest_eq doc_Rest_eq pm_Rest_eq an_Rest_eq cdv_Rest_eq ct_Rest_eq), sl_Rest_eq⟩) (c_Rest_eq : PySem.W.codeIn K cdv_Rest_eq "Rest.__eq__" = true) (k_Rest_eq : PySem.W.keepIn K (.ref A_Rest_eq) = true) (a_Window_init : PySem.W.findIn K (.ref C_Window) "__init__" = some (some (.ref A_Window_init))) (i_Window_init : PySem.W.isFn K (.ref A_Window_init) = true) (l_Window_init : K.lookup A_Window_init = some ⟨oc_Window_init, od_Window_init, .func (PySem.W.fnX "__init__" "Window.__init__" (defArgs s_Window_init) (defBody s_Window_init) (defScope s_Window_init) [("__class__", cc_Window_init)] .none kV_Window_init doc_Window_init pm_Window_init an_Window_init (.ref cda_Window_init) ct_Window_init), sl_Window_init⟩) (c_Window_init : PySem.W.codeIn K (.ref cda_Window_init) "Window.__init__" = true) (k_Window_init : PySem.W.keepIn K (.ref A_Window_init) = true) (cell_Window_init : K.lookup cc_Window_init = some ⟨cl_Window_init, cld_Window_init, .cell (some (.ref C_Window)), csl_Window_init⟩) (code_Window_init : K.lookup cda_Window_init = some ⟨ccl_Window_init, cdd_Window_init, .fields vs_Window_init, ccs_Window_init⟩) (vs_Window_init : vs_Window_init[2]? = some (.str file_Window_init tf_Window_init)) (fl_Window_init : ((P.main.file : Str) == file_Window_init) = true) (cd_Window_init : PySem.W.clsIn K C_Window = some cd_Window_init) (a_Window_after : PySem.W.findIn K (.ref C_Window) "_after" = some (some (.ref A_Window_after))) (i_Window_after : PySem.W.isFn K (.ref A_Window_after) = true) (l_Window_after : K.lookup A_Window_after = some ⟨oc_Window_after, od_Window_after, .func (PySem.W.fnOf "_after" "Window._after" (defArgs s_Window_after) (defBody s_Window_after) (defScope s_Window_after) .none kV_Window_after doc_Window_after pm_Window_after an_Window_after cdv_Window_after ct_Window_after), sl_Window_after⟩) (c_Window_after : PySem.W.codeIn K cdv_Window_after "Window._after" = true) (k_Window_after : PySem.W.keepIn K (.ref A_Window_after) = true) (a_Days_init : PySem.W.findIn K (.ref C_Days) "__init__" = some (some (.ref A_Days_init))) (i_Days_init : PySem.W.isFn K (.ref A_Days_init) = true) (l_Days_init : K.lookup A_Days_init = some ⟨oc_Days_init, od_Days_init, .func (PySem.W.fnX "__init__" "Days.__init__" (defArgs s_Days_init) (defBody s_Days_init) (defScope s_Days_init) [("__class__", cc_Days_init)] .none kV_Days_init doc_Days_init pm_Days_init an_Days_init (.ref cda_Days_init) ct_Days_init), sl_Days_init⟩) (c_Days_init : PySem.W.codeIn K (.ref cda_Days_init) "Days.__init__" = true) (k_Days_init : PySem.W.keepIn K (.ref A_Days_init) = true) (cell_Days_init : K.lookup cc_Days_init = some ⟨cl_Days_init, cld_Days_init, .cell (some (.ref C_Days)), csl_Days_init⟩) (code_Days_init : K.lookup cda_Days_init = some ⟨ccl_Days_init, cdd_Days_init, .fields vs_Days_init, ccs_Days_init⟩) (vs_Days_init : vs_Days_init[2]? = some (.str file_Days_init tf_Days_init)) (fl_Days_init : ((P.main.file : Str) == file_Days_init) = true) (cd_Days_init : PySem.W.clsIn K C_Days = some cd_Days_init) (a_Days_after : PySem.W.findIn K (.ref C_Days) "_after" = some (some (.ref A_Days_after))) (i_Days_after : PySem.W.isFn K (.ref A_Days_after) = true) (l_Days_after : K.lookup A_Days_after = some ⟨oc_Days_after, od_Days_after, .func (PySem.W.fnOf "_after" "Days._after" (defArgs s_Days_after) (defBody s_Days_after) (defScope s_Days_after) .none kV_Days_after doc_Days_after pm_Days_after an_Days_after cdv_Days_after ct_Days_after), sl_Days_after⟩) (c_Days_after : PySem.W.codeIn K cdv_Days_after "Days._after" = true) (k_Days_after : PySem.W.keepIn K (.ref A_Days_after) = true) (a_Rule_init : PySem.W.findIn K (.ref C_Rule) "__init__" = some (some (.ref A_Rule_init))) (i_Rule_init : PySem.W.isFn K (.ref A_Rule_init) = true) (l_Rule_init : K.lookup A_Rule_init = some ⟨oc_Rule_init, od_Rule_init, .func (PySem.W.fnOf "__init__" "Rule.__init__" (defArgs s_Rule_init) (defBody s_Rule_init) (defScope s_Rule_init) .none kV_Rule_init doc_Rule_init pm_Rule_init an_Rule_init cdv_Rule_init ct_Rule_init), sl_Rule_init⟩) (c_Rule_init : PySem.W.codeIn K cdv_Rule_init "Rule.__init__" = true) (k_Rule_init : PySem.W.keepIn K (.ref A_Rule_init) = true) (a_Rule_str : PySem.W.findIn K (.ref C_Rule) "__str__" = some (some (.ref A_Rule_str))) (i_Rule_str : PySem.W.isFn K (.ref A_Rule_str) = true) (l_Rule_str : K.lookup A_Rule_str = some ⟨oc_Rule_str, od_Rule_str, .func (PySem.W.fnOf "__str__" "Rule.__str__" (defArgs s_Rule_str) (defBody s_Rule_str) (defScope s_Rule_str) .none kV_Rule_str doc_Rule_str pm_Rule_str an_Rule_str cdv_Rule_str ct_Rule_str), sl_Rule_str⟩) (c_Rule_str : PySem.W.codeIn K cdv_Rule_str "Rule.__str__" = true) (k_Rule_str : PySem.W.keepIn K (.ref A_Rule_str) = true) (a_Rule_eq : PySem.W.findIn K (.ref C_Rule) "__eq__" = some (some (.ref A_Rule_eq))) (i_Rule_eq : PySem.W.isFn K (.ref A_Rule_eq) = true) (l_Rule_eq : K.lookup A_Rule_eq = some ⟨oc_Rule_eq, od_Rule_eq, .func (PySem.W.fnOf "__eq__" "Rule.__eq__" (defArgs s_Rule_eq) (defBody s_Rule_eq) (defScope s_Rule_eq) .none kV_Rule_eq doc_Rule_eq pm_Rule_eq an_Rule_eq cdv_Rule_eq ct_Rule_eq), sl_Rule_eq⟩) (c_Rule_eq : PySem.W.codeIn K cdv_Rule_eq "Rule.__eq__" = true) (k_Rule_eq : PySem.W.keepIn K (.ref A_Rule_eq) = true) (a_ladder : PySem.W.nsIn K mainGlobals "ladder" = some (some (.ref A_ladder))) (l_ladder : K.lookup A_ladder = some ⟨oc_ladder, od_ladder, .func (PySem.W.fnOf "ladder" "ladder" (defArgs s_ladder) (defBody s_ladder) (defScope s_ladder) .none kV_ladder doc_ladder pm_ladder an_ladder cdv_ladder ct_ladder), sl_ladder⟩) (c_ladder : PySem.W.codeIn K cdv_ladder "ladder" = true) (k_ladder : PySem.W.keepIn K (.ref A_ladder) = true) (a_fullest : PySem.W.nsIn K mainGlobals "fullest" = some (some (.ref A_fullest))) (l_fullest : K.lookup A_fullest = some ⟨oc_fullest, od_fullest, .func (PySem.W.fnOf "fullest" "fullest" (defArgs s_fullest) (defBody s_fullest) (defScope s_fullest) .none kV_fullest doc_fullest pm_fullest an_fullest cdv_fullest ct_fullest), sl_fullest⟩) (c_fullest : PySem.W.codeIn K cdv_fullest "fullest" = true) (k_fullest : PySem.W.keepIn K (.ref A_fullest) = true) (a_is_within : PySem.W.nsIn K mainGlobals "is_within" = some (some (.ref A_is_within))) (l_is_within : K.lookup A_is_within = some ⟨oc_is_within, od_is_within, .func (PySem.W.fnOf "is_within" "is_within" (defArgs s_is_within) (defBody s_is_within) (defScope s_is_within) .none kV_is_within doc_is_within pm_is_within an_is_within cdv_is_within ct_is_within), sl_is_within⟩) (c_is_within : PySem.W.codeIn K cdv_is_within "is_within" = true) (k_is_within : PySem.W.keepIn K (.ref A_is_within) = true) (a_bag : PySem.W.nsIn K mainGlobals "_law_bag" = some (some (.ref A_bag))) (l_bag : K.lookup A_bag = some ⟨oc_bag, od_bag, .func (PySem.W.fnOf "_law_bag" "_law_bag" (defArgs s_bag) (defBody s_bag) (defScope s_bag) .none kV_bag doc_bag pm_bag an_bag cdv_bag ct_bag), sl_bag⟩) (c_bag : PySem.W.codeIn K cdv_bag "_law_bag" = true) (k_bag : PySem.W.keepIn K (.ref A_bag) = true) (a_draw : PySem.W.nsIn K mainGlobals "_law_draw" = some (some (.ref A_draw))) (l_draw : K.lookup A_draw = some ⟨oc_draw, od_draw, .func (PySem.W.fnOf "_law_draw" "_law_draw" (defArgs s_draw) (defBody s_draw) (defScope s_draw) .none kV_draw doc_draw pm_draw an_draw cdv_draw ct_draw), sl_draw⟩) (c_draw : PySem.W.codeIn K cdv_draw "_law_draw" = true) (k_draw : PySem.W.keepIn K (.ref A_draw) = true) (a_of : PySem.W.nsIn K mainGlobals "_law_of" = some (some (.ref A_of))) (l_of : K.lookup A_of = some ⟨oc_of, od_of, .func (PySem.W.fnOf "_law_of" "_law_of" (defArgs s_of) (defBody s_of) (defScope s_of) .none kV_of doc_of pm_of an_of cdv_of ct_of), sl_of⟩) (c_of : PySem.W.codeIn K cdv_of "_law_of" = true) (k_of : PySem.W.keepIn K (.ref A_of) = true) (a_like : PySem.W.nsIn K mainGlobals "_law_like" = some (some (.ref A_like))) (l_like : K.lookup A_like = some ⟨oc_like, od_like, .func (PySem.W.fnOf "_law_like" "_law_like" (defArgs s_like) (defBody s_like) (defScope s_like) .none kV_like doc_like pm_like an_like cdv_like ct_like), sl_like⟩) (c_like : PySem.W.codeIn K cdv_like "_law_like" = true) (k_like : PySem.W.keepIn K (.ref A_like) = true) (a_odd : PySem.W.nsIn K mainGlobals "_law_odd" = some (some (.ref A_odd))) (l_odd : K.lookup A_odd = some ⟨oc_odd, od_odd, .func (PySem.W.fnOf "_law_odd" "_law_odd" (defArgs s_odd) (defBody s_odd) (defScope s_odd) .none kV_odd doc_odd pm_odd an_odd cdv_odd ct_odd), sl_odd⟩) (c_odd : PySem.W.codeIn K cdv_odd "_law_odd" = true) (k_odd : PySem.W.keepIn K (.ref A_odd) = true) (a_ask : PySem.W.nsIn K mainGlobals "_law_ask" = some (some (.ref A_ask))) (l_ask : K.lookup A_ask = some ⟨oc_ask, od_ask, .func (PySem.W.fnOf "_law_ask" "_law_ask" (defArgs s_ask) (defBody s_ask) (defScope s_ask) .none kV_ask doc_ask pm_ask an_ask cdv_ask ct_ask), sl_ask⟩) (c_ask : PySem.W.codeIn K cdv_ask "_law_ask" = true) (k_ask : PySem.W.keepIn K (.ref A_ask) = true) (a_in : PySem.W.nsIn K mainGlobals "_law_in" = some (some (.ref A_in))) (l_in : K.lookup A_in = some ⟨oc_in, od_in, .func (PySem.W.fnOf "_law_in" "_law_in" (defArgs s_in) (defBody s_in) (defScope s_in) .none kV_in doc_in pm_in an_in cdv_in ct_in), sl_in⟩) (c_in : PySem.W.codeIn K cdv_in "_law_in" = true) (k_in : PySem.W.keepIn K (.ref A_in) = true) (a_named : PySem.W.nsIn K mainGlobals "_law_named" = some (some (.ref A_named))) (l_named : K.lookup A_named = some ⟨oc_named, od_named, .func (PySem.W.fnOf "_law_named" "_law_named" (defArgs s_named) (defBody s_named) (defScope s_named) .none kV_named doc_named pm_named an_named cdv_named ct_named), sl_named⟩) (c_named : PySem.W.codeIn K cdv_named "_law_named" = true) (k_named : PySem.W.keepIn K (.ref A_named) = true) (a_wrong : PySem.W.nsIn K mainGlobals "_law_wrong" = some (some (.ref A_wrong))) (l_wrong : K.lookup A_wrong = some ⟨oc_wrong, od_wrong, .func (PySem.W.fnOf "_law_wrong" "_law_wrong" (defArgs s_wrong) (defBody s_wrong) (defScope s_wrong) .none kV_wrong doc_wrong pm_wrong an_wrong cdv_wrong ct_wrong), sl_wrong⟩) (c_wrong : PySem.W.codeIn K cdv_wrong "_law_wrong" = true) (k_wrong : PySem.W.keepIn K (.ref A_wrong) = true) (a_given : PySem.W.nsIn K mainGlobals "_law_given" = some (some (.ref A_given))) (l_given : K.lookup A_given = some ⟨oc_given, od_given, .func (PySem.W.fnOf "_law_given" "_law_given" (defArgs s_given) (defBody s_given) (defScope s_given) .none kV_given doc_given pm_given an_given cdv_given ct_given), sl_given⟩) (c_given : PySem.W.codeIn K cdv_given "_law_given" = true) (k_given : PySem.W.keepIn K (.ref A_given) = true) (a_ladder_due : PySem.W.nsIn K mainGlobals "_law_ladder_due" = some (some (.ref A_ladder_due))) (l_ladder_due : K.lookup A_ladder_due = some ⟨oc_ladder_due, od_ladder_due, .func (PySem.W.fnOf "_law_ladder_due" "_law_ladder_due" (defArgs s_ladder_due) (defBody s_ladder_due) (defScope s_ladder_due) .none kV_ladder_due doc_ladder_due pm_ladder_due an_ladder_due cdv_ladder_due ct_ladder_due), sl_ladder_due⟩) (c_ladder_due : PySem.W.codeIn K cdv_ladder_due "_law_ladder_due" = true) (k_ladder_due : PySem.W.keepIn K (.ref A_ladder_due) = true) (a_rules_so : PySem.W.nsIn K mainGlobals "_law_rules_so" = some (some (.ref A_rules_so))) (l_rules_so : K.lookup A_rules_so = some ⟨oc_rules_so, od_rules_so, .func (PySem.W.fnOf "_law_rules_so" "_law_rules_so" (defArgs s_rules_so) (defBody s_rules_so) (defScope s_rules_so) .none kV_rules_so doc_rules_so pm_rules_so an_rules_so cdv_rules_so ct_rules_so), sl_rules_so⟩) (c_rules_so : PySem.W.codeIn K cdv_rules_so "_law_rules_so" = true) (k_rules_so : PySem.W.keepIn K (.ref A_rules_so) = true) (a_let : PySem.W.nsIn K mainGlobals "_law_let" = some (some (.ref A_let))) (l_let : K.lookup A_let = some ⟨oc_let, od_let, .func (PySem.W.fnOf "_law_let" "_law_let" (defArgs s_let) (defBody s_let) (defScope s_let) .none kV_let doc_let pm_let an_let cdv_let ct_let), sl_let⟩) (c_let : PySem.W.codeIn K cdv_let "_law_let" = true) (k_let : PySem.W.keepIn K (.ref A_let) = true) (a_asked_so : PySem.W.nsIn K mainGlobals "_law_asked_so" = some (some (.ref A_asked_so))) (l_asked_so : K.lookup A_asked_so = some ⟨oc_asked_so, od_asked_so, .func (PySem.W.fnOf "_law_asked_so" "_law_asked_so" (defArgs s_asked_so) (defBody s_asked_so) (defScope s_asked_so) .none kV_asked_so doc_asked_so pm_asked_so an_asked_so cdv_asked_so ct_asked_so), sl_asked_so⟩) (c_asked_so : PySem.W.codeIn K cdv_asked_so "_law_asked_so" = true) (k_asked_so : PySem.W.keepIn K (.ref A_asked_so) = true) (a_one_rule_so : PySem.W.nsIn K mainGlobals "_law_one_rule_so" = some (some (.ref A_one_rule_so))) (l_one_rule_so : K.lookup A_one_rule_so = some ⟨oc_one_rule_so, od_one_rule_so, .func (PySem.W.fnOf "_law_one_rule_so" "_law_one_rule_so" (defArgs s_one_rule_so) (defBody s_one_rule_so) (defScope s_one_rule_so) .none kV_one_rule_so doc_one_rule_so pm_one_rule_so an_one_rule_so (.ref cda_one_rule_so) ct_one_rule_so), sl_one_rule_so⟩) (c_one_rule_so : PySem.W.codeIn K (.ref cda_one_rule_so) "_law_one_rule_so" = true) (k_one_rule_so : PySem.W.keepIn K (.ref A_one_rule_so) = true) (td_one_rule_so : K.lookup cda_one_rule_so = some ⟨tcl_one_rule_so, tcd_one_rule_so, .fields tvs_one_rule_so, tsl_one_rule_so⟩) (tp_one_rule_so : tvs_one_rule_so[11]? = some (.ref tb_one_rule_so)) (tn_one_rule_so : K.lookup tb_one_rule_so = none) (a_law : PySem.W.nsIn K mainGlobals "law" = some (some (.ref A_law))) (l_law : K.lookup A_law = some ⟨oc_law, od_law, .func (PySem.W.fnOf "law" "law" (defArgs s_law) (defBody s_law) (defScope s_law) .none kV_law doc_law pm_law an_law (.ref cda_law) ct_law), sl_law⟩) (c_law : PySem.W.codeIn K (.ref cda_law) "law" = true) (k_law : PySem.W.keepIn K (.ref A_law) = true) (td_law : K.lookup cda_law = some ⟨tcl_law, tcd_law, .fields tvs_law, tsl_law⟩) (tp_law : tvs_law[11]? = some (.ref tb_law)) (tn_law : K.lookup tb_law = none) (tne_one_rule_so_law : tb_one_rule_so ≠ tb_law) (top_super : (P.main.scope.names.lookup ("super" : Str)).isSome = false) (st_thirdparty : PySem.W.nsIn K cStatics "thirdparty.any" = some none) (z_all : PySem.W.nsIn K mainGlobals "all" = some none) (z_bool : PySem.W.nsIn K mainGlobals "bool" = some none) (z_dict : PySem.W.nsIn K mainGlobals "dict" = some none) (z_enumerate : PySem.W.nsIn K mainGlobals "enumerate" = some none) (z_int : PySem.W.nsIn K mainGlobals "int" = some none) (z_isinstance : PySem.W.nsIn K mainGlobals "isinstance" = some none) (z_len : PySem.W.nsIn K mainGlobals "len" = some none) (z_list : PySem.W.nsIn K mainGlobals "list" = some none) (z_max : PySem.W.nsIn K mainGlobals "max" = some none) (z_range : PySem.W.nsIn K mainGlobals "range" = some none) (z_sorted : PySem.W.nsIn K mainGlobals "sorted" = some none) (z_str : PySem.W.nsIn K mainGlobals "str" = some none) (z_super : PySem.W.nsIn K mainGlobals "super" = some none) (z_tuple : PySem.W.nsIn K mainGlobals "tuple" = some none) (z_zip : PySem.W.nsIn K mainGlobals "zip" = some none) (ac_BORDERS : PySem.W.nsIn K mainGlobals "BORDERS" = some (some (.int 12 t_BORDERS))) (ac_DIGITS : PySem.W.nsIn K mainGlobals "DIGITS" = some (some (.str "0123456789" t_DIGITS))) (ac_LETTERS : PySem.W.nsIn K mainGlobals "LETTERS" = some (some (.str "abcdefghijklmnopqrstuvwxyz" t_LETTERS))) (kb_int_Rest : PySem.W.kitOne K (.type "int") (.ref C_Rest) = some false) (kb_bool_Rest : PySem.W.kitOne K (.type "bool") (.ref C_Rest) = some false) (kb_str_Rest : PySem.W.kitOne K (.type "str") (.ref C_Rest) = some false) (kb_NoneType_Rest : PySem.W.kitOne K (.type "NoneType") (.ref C_Rest) = some false) (kb_list_Rest : PySem.W.kitOne K (.type "list") (.ref C_Rest) = some false) (kb_tuple_Rest : PySem.W.kitOne K (.type "tuple") (.ref C_Rest) = some false) (kb_dict_Rest : PySem.W.kitOne K (.type "dict") (.ref C_Rest) = some false) (pg_Window : PySem.W.plainGet K C_Window Str.empty = true) (hd_Window : PySem.W.hasDictIn K C_Window = true) (po_Window : PySem.W.plainOver K C_Window = true) (sa_Window : PySem.W.findIn K (.ref C_Window) "__setattr__" = some (some (.builtin "object.__setattr__"))) (mk_Window : PySem.W.makesIn K C_Window = true) (kc_Window : PySem.W.keepIn K (.ref C_Window) = true) (th_Window : PySem.W.findIn K (.ref C_Window) "__class__" = some (some (.builtin "object.__class__"))) (tn_Window : PySem.W.specialIn K (.builtin "object.__class__") "__get__" = some (some (.builtin "getset_descriptor.__get__"))) (tk_Window : PySem.W.takesIn K (.builtin "object.__class__") = some true) (tm_Window : PySem.W.mroIn K C_Window (.type "object") = some true) (kt_Window_Rest : PySem.W.kitOne K (.ref C_Window) (.ref C_Rest) = some true) (kt_Window_Window : PySem.W.kitOne K (.ref C_Window) (.ref C_Window) = some true) (su_Window : PySem.W.mroIn K C_Window (.ref C_Window) = some true) (sm_Window : PySem.W.ks_superIn K C_Window C_Window "__init__" = some (some (.ref A_Rest_init))) (sf_Window : PySem.W.fnIn K A_Rest_init = true) (st_Window : PySem.W.typeIn K (.ref A_Rest_init) = some (.type "function")) (no_Window_text : PySem.W.findIn K (.ref C_Window) "_text" = some none) (no_Window_forms : PySem.W.findIn K (.ref C_Window) "_forms" = some none) (no_Window_period : PySem.W.findIn K (.ref C_Window) "_period" = some none) (no_Window_bend : PySem.W.findIn K (.ref C_Window) "_bend" = some none) (no_Window_width : PySem.W.findIn K (.ref C_Window) "width" = some none) (me_Window_after : PySem.W.findIn K (.ref C_Window) "_after" = some (some (.ref A_Window_after))) (mi_Window_after : PySem.W.isFn K (.ref A_Window_after) = true) (me_Window_written : PySem.W.findIn K (.ref C_Window) "written" = some (some (.ref A_Rest_written))) (mi_Window_written : PySem.W.isFn K (.ref A_Rest_written) = true) (co_Window : PySem.W.findIn K (.ref C_Window) "__call__" = some (some (.ref A_Rest_call))) (ci_Window : PySem.W.isFn K (.ref A_Rest_call) = true) (cf_Window : PySem.W.fnIn K A_Rest_call = true) (eqf_Window : PySem.W.findIn K (.ref C_Window) "__eq__" = some (some (.ref A_Rest_eq))) (eqi_Window : PySem.W.isFn K (.ref A_Rest_eq) = true) (nf_Window_str : PySem.W.notFirst K C_Window (.type "str") = true) (nf_Window_int : PySem.W.notFirst K C_Window (.type "int") = true) (nf_Window : PySem.W.notFirst K C_Window (.ref C_Window) = true) (nf_Window_Days : PySem.W.notFirst K C_Window (.ref C_Days) = true) (kb_int_Window : PySem.W.kitOne K (.type "int") (.ref C_Window) = some false) (kb_bool_Window : PySem.W.kitOne K (.type "bool") (.ref C_Window) = some false) (kb_str_Window : PySem.W.kitOne K (.type "str") (.ref C_Window) = some false) (kb_NoneType_Window : PySem.W.kitOne K (.type "NoneType") (.ref C_Window) = some false) (kb_list_Window : PySem.W.kitOne K (.type "list") (.ref C_Window) = some false) (kb_tuple_Window : PySem.W.kitOne K (.type "tuple") (.ref C_Window) = some false) (kb_dict_Window : PySem.W.kitOne K (.type "dict") (.ref C_Window) = some false) (pg_Days : PySem.W.plainGet K C_Days Str.empty = true) (hd_Days : PySem.W.hasDictIn K C_Days = true) (po_Days : PySem.W.plainOver K C_Days = true) (sa_Days : PySem.W.findIn K (.ref C_Days) "__setattr__" = some (some (.builtin "object.__setattr__"))) (mk_Days : PySem.W.makesIn K C_Days = true) (kc_Days : PySem.W.keepIn K (.ref C_Days) = true) (th_Days : PySem.W.findIn K (.ref C_Days) "__class__" = some (some (.builtin "object.__class__"))) (tn_Days : PySem.W.specialIn K (.builtin "object.__class__") "__get__" = some (some (.builtin "getset_descriptor.__get__"))) (tk_Days : PySem.W.takesIn K (.builtin "object.__class__") = some true) (tm_Days : PySem.W.mroIn K C_Days (.type "object") = some true) (kt_Days_Rest : PySem.W.kitOne K (.ref C_Days) (.ref C_Rest) = some true) (kt_Days_Window : PySem.W.kitOne K (.ref C_Days) (.ref C_Window) = some false) (kt_Days_Days : PySem.W.kitOne K (.ref C_Days) (.ref C_Days) = some true) (su_Days : PySem.W.mroIn K C_Days (.ref C_Days) = some true) (sm_Days : PySem.W.ks_superIn K C_Days C_Days "__init__" = some (some (.ref A_Rest_init))) (sf_Days : PySem.W.fnIn K A_Rest_init = true) (st_Days : PySem.W.typeIn K (.ref A_Rest_init) = some (.type "function")) (no_Days_text : PySem.W.findIn K (.ref C_Days) "_text" = some none) (no_Days_forms : PySem.W.findIn K (.ref C_Days) "_forms" = some none) (no_Days_period : PySem.W.findIn K (.ref C_Days) "_period" = some none) (no_Days_bend : PySem.W.findIn K (.ref C_Days) "_bend" = some none) (no_Days_every : PySem.W.findIn K (.ref C_Days) "every" = some none) (no_Days_borders : PySem.W.findIn K (.ref C_Days) "_borders" = some none) (me_Days_after : PySem.W.findIn K (.ref C_Days) "_after" = some (some (.ref A_Days_after))) (mi_Days_after : PySem.W.isFn K (.ref A_Days_after) = true) (me_Days_written : PySem.W.findIn K (.ref C_Days) "written" = some (some (.ref A_Rest_written))) (mi_Days_written : PySem.W.isFn K (.ref A_Rest_written) = true) (co_Days : PySem.W.findIn K (.ref C_Days) "__call__" = some (some (.ref A_Rest_call))) (ci_Days : PySem.W.isFn K (.ref A_Rest_call) = true) (cf_Days : PySem.W.fnIn K A_Rest_call = true) (eqf_Days : PySem.W.findIn K (.ref C_Days) "__eq__" = some (some (.ref A_Rest_eq))) (eqi_Days : PySem.W.isFn K (.ref A_Rest_eq) = true) (nf_Days_str : PySem.W.notFirst K C_Days (.type "str") = true) (nf_Days_int : PySem.W.notFirst K C_Days (.type "int") = true) (nf_Days : PySem.W.notFirst K C_Days (.ref C_Days) = true) (nf_Days_Window : PySem.W.notFirst K C_Days (.ref C_Window) = true) (kb_int_Days : PySem.W.kitOne K (.type "int") (.ref C_Days) = some false) (kb_bool_Days : PySem.W.kitOne K (.type "bool") (.ref C_Days) = some false) (kb_str_Days : PySem.W.kitOne K (.type "str") (.ref C_Days) = some false) (kb_NoneType_Days : PySem.W.kitOne K (.type "NoneType") (.ref C_Days) = some false) (kb_list_Days : PySem.W.kitOne K (.type "list") (.ref C_Days) = some false) (kb_tuple_Days : PySem.W.kitOne K (.type "tuple") (.ref C_Days) = some false) (kb_dict_Days : PySem.W.kitOne K (.type "dict") (.ref C_Days) = some false) (el_InvalidName : K.lookup C_InvalidName = some (excClassObj nm_InvalidName q_InvalidName C_InvalidName N_InvalidName bs_InvalidName [.ref C_SureletError, .type "ValueError", .type "Exception", .type "BaseException", .type "object"] true sn_InvalidName sb_InvalidName ab_InvalidName co_InvalidName dd_InvalidName e0_InvalidName e1_InvalidName e2_InvalidName e3_InvalidName e5_InvalidName "ValueError.__new__")) (es_InvalidName : PySem.W.findIn K (.ref C_InvalidName) "__setattr__" = some (some (.builtin "object.__setattr__"))) (eb_InvalidName : PySem.W.subIn K (.ref C_InvalidName) (.type "BaseException") = some true) (et_InvalidName : PySem.W.typeIn K (.ref C_InvalidName) = some (.type "type")) (ek_InvalidName : PySem.W.keepIn K (.ref C_InvalidName) = true) (em_InvalidName : PySem.W.mroIn K C_InvalidName (.ref C_InvalidName) = some true) (eu_InvalidName : PySem.W.ks_superIn K C_InvalidName C_InvalidName "__init__" = some (some (.builtin "ValueError.__init__"))) (ev_InvalidName : PySem.W.subIn K (.ref C_InvalidName) (.type "ValueError") = some true) (ega_InvalidName : PySem.W.findIn K (.ref C_InvalidName) "__getattribute__" = some (some (.builtin "BaseException.__getattribute__"))) (egg_InvalidName : PySem.W.findIn K (.ref C_InvalidName) "__getattr__" = some none) (ehd_InvalidName : PySem.W.hasDictIn K C_InvalidName = true) (eti_InvalidName : PySem.W.typeIn K (.ref A_InvalidName_init) = some (.type "function")) (xb_InvalidName_InvalidName : PySem.W.subIn K (.ref C_InvalidName) (.type "BaseException") = some true) (xi_InvalidName_InvalidName : PySem.W.isClsIn K C_InvalidName = true) (xt_InvalidName_InvalidName : PySem.W.typeIn K (.ref C_InvalidName) = some (.type "type")) (xs_InvalidName_InvalidName : PySem.W.subIn K (.ref C_InvalidName) (.ref C_InvalidName) = some true) (no_InvalidName_value : PySem.W.findIn K (.ref C_InvalidName) "value" = some none) (no_InvalidName_code : PySem.W.findIn K (.ref C_InvalidName) "code" = some none) (el_InvalidNumber : K.lookup C_InvalidNumber = some (excClassObj nm_InvalidNumber q_InvalidNumber C_InvalidNumber N_InvalidNumber bs_InvalidNumber [.ref C_SureletError, .type "ValueError", .type "Exception", .type "BaseException", .type "object"] true sn_InvalidNumber sb_InvalidNumber ab_InvalidNumber co_InvalidNumber dd_InvalidNumber e0_InvalidNumber e1_InvalidNumber e2_InvalidNumber e3_InvalidNumber e5_InvalidNumber "ValueError.__new__")) (es_InvalidNumber : PySem.W.findIn K (.ref C_InvalidNumber) "__setattr__" = some (some (.builtin "object.__setattr__"))) (eb_InvalidNumber : PySem.W.subIn K (.ref C_InvalidNumber) (.type "BaseException") = some true) (et_InvalidNumber : PySem.W.typeIn K (.ref C_InvalidNumber) = some (.type "type")) (ek_InvalidNumber : PySem.W.keepIn K (.ref C_InvalidNumber) = true) (em_InvalidNumber : PySem.W.mroIn K C_InvalidNumber (.ref C_InvalidNumber) = some true) (eu_InvalidNumber : PySem.W.ks_superIn K C_InvalidNumber C_InvalidNumber "__init__" = some (some (.builtin "ValueError.__init__"))) (ev_InvalidNumber : PySem.W.subIn K (.ref C_InvalidNumber) (.type "ValueError") = some true) (ega_InvalidNumber : PySem.W.findIn K (.ref C_InvalidNumber) "__getattribute__" = some (some (.builtin "BaseException.__getattribute__"))) (egg_InvalidNumber : PySem.W.findIn K (.ref C_InvalidNumber) "__getattr__" = some none) (ehd_InvalidNumber : PySem.W.hasDictIn K C_InvalidNumber = true) (eti_InvalidNumber : PySem.W.typeIn K (.ref A_InvalidNumber_init) = some (.type "function")) (xb_InvalidNumber_InvalidName : PySem.W.subIn K (.ref C_InvalidName) (.type "BaseException") = some true) (xi_InvalidNumber_InvalidName : PySem.W.isClsIn K C_InvalidName = true) (xt_InvalidNumber_InvalidName : PySem.W.typeIn K (.ref C_InvalidName) = some (.type "type")) (xs_InvalidNumber_InvalidName : PySem.W.subIn K (.ref C_InvalidNumber) (.ref C_InvalidName) = some false) (xb_InvalidNumber_InvalidNumber : PySem.W.subIn K (.ref C_InvalidNumber) (.type "BaseException") = some true) (xi_InvalidNumber_InvalidNumber : PySem.W.isClsIn K C_InvalidNumber = true) (xt_InvalidNumber_InvalidNumber : PySem.W.typeIn K (.ref C_InvalidNumber) = some (.type "type")) (xs_InvalidNumber_InvalidNumber : PySem.W.subIn K (.ref C_InvalidNumber) (.ref C_InvalidNumber) = some true) (no_InvalidNumber_value : PySem.W.findIn K (.ref C_InvalidNumber) "value" = some none) (no_InvalidNumber_code : PySem.W.findIn K (.ref C_InvalidNumber) "code" = some none) (el_InvalidRest : K.lookup C_InvalidRest = some (excClassObj nm_InvalidRest q_InvalidRest C_InvalidRest N_InvalidRest bs_InvalidRest [.ref C_SureletError, .type "ValueError", .type "Exception", .type "BaseException", .type "object"] true sn_InvalidRest sb_InvalidRest ab_InvalidRest co_InvalidRest dd_InvalidRest e0_InvalidRest e1_InvalidRest e2_InvalidRest e3_InvalidRest e5_InvalidRest "ValueError.__new__")) (es_InvalidRest : PySem.W.findIn K (.ref C_InvalidRest) "__setattr__" = some (some (.builtin "object.__setattr__"))) (eb_InvalidRest : PySem.W.subIn K (.ref C_InvalidRest) (.type "BaseException") = some true) (et_InvalidRest : PySem.W.typeIn K (.ref C_InvalidRest) = some (.type "type")) (ek_InvalidRest : PySem.W.keepIn K (.ref C_InvalidRest) = true) (em_InvalidRest : PySem.W.mroIn K C_InvalidRest (.ref C_InvalidRest) = some true) (eu_InvalidRest : PySem.W.ks_superIn K C_InvalidRest C_InvalidRest "__init__" = some (some (.builtin "ValueError.__init__"))) (ev_InvalidRest : PySem.W.subIn K (.ref C_InvalidRest) (.type "ValueError") = some true) (ega_InvalidRest : PySem.W.findIn K (.ref C_InvalidRest) "__getattribute__" = some (some (.builtin "BaseException.__getattribute__"))) (egg_InvalidRest : PySem.W.findIn K (.ref C_InvalidRest) "__getattr__" = some none) (ehd_InvalidRest : PySem.W.hasDictIn K C_InvalidRest = true) (eti_InvalidRest : PySem.W.typeIn K (.ref A_InvalidRest_init) = some (.type "function")) (xb_InvalidRest_InvalidName : PySem.W.subIn K (.ref C_InvalidName) (.type "BaseException") = some true) (xi_InvalidRest_InvalidName : PySem.W.isClsIn K C_InvalidName = true) (xt_InvalidRest_InvalidName : PySem.W.typeIn K (.ref C_InvalidName) = some (.type "type")) (xs_InvalidRest_InvalidName : PySem.W.subIn K (.ref C_InvalidRest) (.ref C_InvalidName) = some false) (xb_InvalidRest_InvalidNumber : PySem.W.subIn K (.ref C_InvalidNumber) (.type "BaseException") = some true) (xi_InvalidRest_InvalidNumber : PySem.W.isClsIn K C_InvalidNumber = true) (xt_InvalidRest_InvalidNumber : PySem.W.typeIn K (.ref C_InvalidNumber) = some (.type "type")) (xs_InvalidRest_InvalidNumber : PySem.W.subIn K (.ref C_InvalidRest) (.ref C_InvalidNumber) = some false) (xb_InvalidRest_InvalidRest : PySem.W.subIn K (.ref C_InvalidRest) (.type "BaseException") = some true) (xi_InvalidRest_InvalidRest : PySem.W.isClsIn K C_InvalidRest = true) (xt_InvalidRest_InvalidRest : PySem.W.typeIn K (.ref C_InvalidRest) = some (.type "type")) (xs_InvalidRest_InvalidRest : PySem.W.subIn K (.ref C_InvalidRest) (.ref C_InvalidRest) = some true) (no_InvalidRest_value : PySem.W.findIn K (.ref C_InvalidRest) "value" = some none) (no_InvalidRest_code : PySem.W.findIn K (.ref C_InvalidRest) "code" = some none) (pg_Rule : PySem.W.plainGet K C_Rule Str.empty = true) (hd_Rule : PySem.W.hasDictIn K C_Rule = true) (po_Rule : PySem.W.plainOver K C_Rule = true) (sa_Rule : PySem.W.findIn K (.ref C_Rule) "__setattr__" = some (some (.builtin "object.__setattr__"))) (mk_Rule : PySem.W.makesIn K C_Rule = true) (kc_Rule : PySem.W.keepIn K (.ref C_Rule) = true) (th_Rule : PySem.W.findIn K (.ref C_Rule) "__class__" = some (some (.builtin "object.__class__"))) (tn_Rule : PySem.W.specialIn K (.builtin "object.__class__") "__get__" = some (some (.builtin "getset_descriptor.__get__"))) (tk_Rule : PySem.W.takesIn K (.builtin "object.__class__") = some true) (tm_Rule : PySem.W.mroIn K C_Rule (.type "object") = some true) (kt_Rule_Rule : PySem.W.kitOne K (.ref C_Rule) (.ref C_Rule) = some true) (strf_Rule : PySem.W.findIn K (.ref C_Rule) "__str__" = some (some (.ref A_Rule_str))) (stri_Rule : PySem.W.isFn K (.ref A_Rule_str) = true) (eqf_Rule : PySem.W.findIn K (.ref C_Rule) "__eq__" = some (some (.ref A_Rule_eq))) (eqi_Rule : PySem.W.isFn K (.ref A_Rule_eq) = true) (nf_Rule_str : PySem.W.notFirst K C_Rule (.type "str") = true) (nf_Rule_int : PySem.W.notFirst K C_Rule (.type "int") = true) (nf_Rule : PySem.W.notFirst K C_Rule (.ref C_Rule) = true) (no_Rule_name : PySem.W.findIn K (.ref C_Rule) "name" = some none) (no_Rule_chips : PySem.W.findIn K (.ref C_Rule) "chips" = some none) (no_Rule_rest : PySem.W.findIn K (.ref C_Rule) "rest" = some none) (kb_int_Rule : PySem.W.kitOne K (.type "int") (.ref C_Rule) = some false) (kb_bool_Rule : PySem.W.kitOne K (.type "bool") (.ref C_Rule) = some false) (kb_str_Rule : PySem.W.kitOne K (.type "str") (.ref C_Rule) = some false) (kb_NoneType_Rule : PySem.W.kitOne K (.type "NoneType") (.ref C_Rule) = some false) (kb_list_Rule : PySem.W.kitOne K (.type "list") (.ref C_Rule) = some false) (kb_tuple_Rule : PySem.W.kitOne K (.type "tuple") (.ref C_Rule) = some false) (kb_dict_Rule : PySem.W.kitOne K (.type "dict") (.ref C_Rule) = some false) : Tx K mg where
  C_Rest := C_Rest
  m_Rest := PySem.W.mg_of X G aC_Rest
  C_Window := C_Window
  m_Window := PySem.W.mg_of X G aC_Window
  C_Days := C_Days
  m_Days := PySem.W.mg_of X G aC_Days
  C_SureletError := C_SureletError
  m_SureletError := PySem.W.mg_of X G aC_SureletError
  C_InvalidName := C_InvalidName
  m_InvalidName := PySem.W.mg_of X G aC_InvalidName
  C_InvalidNumber := C_InvalidNumber
  m_InvalidNumber := PySem.W.mg_of X G aC_InvalidNumber
  C_InvalidRest := C_InvalidRest
  m_InvalidRest := PySem.W.mg_of X G aC_InvalidRest
  C_Rule := C_Rule
  m_Rule := PySem.W.mg_of X G aC_Rule
  a_InvalidNumber_init := A_InvalidNumber_init
  cc_InvalidNumber_init := cc_InvalidNumber_init
  cda_InvalidNumber_init := cda_InvalidNumber_init
  fd_InvalidNumber_init := PySem.W.fnX "__init__" "InvalidNumber.__init__" (defArgs s_InvalidNumber_init) (defBody s_InvalidNumber_init) (defScope s_InvalidNumber_init) [("__class__", cc_InvalidNumber_init)] .none kV_InvalidNumber_init doc_InvalidNumber_init pm_InvalidNumber_init an_InvalidNumber_init (.ref cda_InvalidNumber_init) ct_InvalidNumber_init
  F_InvalidNumber_init := funS_mk l_InvalidNumber_init c_InvalidNumber_init k_InvalidNumber_init
  b_InvalidNumber_init := (funS_mk l_InvalidNumber_init c_InvalidNumber_init k_InvalidNumber_init).binds (st := s_InvalidNumber_init) (ps := P_InvalidNumber_init) fun _ _ _ _ _ us hl => match us, hl with | [_, _], _ => rfl
  ce_InvalidNumber_init := ⟨_, _, _, cell_InvalidNumber_init⟩
  sd_InvalidNumber_init := ⟨⟨_, _, _, _, _, l_InvalidNumber_init, rfl, rfl⟩, ⟨_, _, _, _, _, _, code_InvalidNumber_init, vs_InvalidNumber_init, fl_InvalidNumber_init⟩, ⟨_, _, _, cell_InvalidNumber_init⟩, ⟨_, cd_InvalidNumber_init⟩, PySem.W.mg_none_of X G z_super, top_super, st_thirdparty⟩
  k_InvalidNumber_init := k_InvalidNumber_init
  a_InvalidName_init := A_InvalidName_init
  cc_InvalidName_init := cc_InvalidName_init
  cda_InvalidName_init := cda_InvalidName_init
  fd_InvalidName_init := PySem.W.fnX "__init__" "InvalidName.__init__" (defArgs s_InvalidName_init) (defBody s_InvalidName_init) (defScope s_InvalidName_init) [("__class__", cc_InvalidName_init)] .none kV_InvalidName_init doc_InvalidName_init pm_InvalidName_init an_InvalidName_init (.ref cda_InvalidName_init) ct_InvalidName_init
  F_InvalidName_init := funS_mk l_InvalidName_init c_InvalidName_init k_InvalidName_init
  b_InvalidName_init := (funS_mk l_InvalidName_init c_InvalidName_init k_InvalidName_init).binds (st := s_InvalidName_init) (ps := P_InvalidName_init) fun _ _ _ _ _ us hl => match us, hl with | [_, _], _ => rfl
  ce_InvalidName_init := ⟨_, _, _, cell_InvalidName_init⟩
  sd_InvalidName_init := ⟨⟨_, _, _, _, _, l_InvalidName_init, rfl, rfl⟩, ⟨_, _, _, _, _, _, code_InvalidName_init, vs_InvalidName_init, fl_InvalidName_init⟩, ⟨_, _, _, cell_InvalidName_init⟩, ⟨_, cd_InvalidName_init⟩, PySem.W.mg_none_of X G z_super, top_super, st_thirdparty⟩
  k_InvalidName_init := k_InvalidName_init
  a_InvalidRest_init := A_InvalidRest_init
  cc_InvalidRest_init := cc_InvalidRest_init
  cda_InvalidRest_init := cda_InvalidRest_init
  fd_InvalidRest_init := PySem.W.fnX "__init__" "InvalidRest.__init__" (defArgs s_InvalidRest_init) (defBody s_InvalidRest_init) (defScope s_InvalidRest_init) [("__class__", cc_InvalidRest_init)] .none kV_InvalidRest_init doc_InvalidRest_init pm_InvalidRest_init an_InvalidRest_init (.ref cda_InvalidRest_init) ct_InvalidRest_init
  F_InvalidRest_init := funS_mk l_InvalidRest_init c_InvalidRest_init k_InvalidRest_init
  b_InvalidRest_init := (funS_mk l_InvalidRest_init c_InvalidRest_init k_InvalidRest_init).binds (st := s_InvalidRest_init) (ps := P_InvalidRest_init) fun _ _ _ _ _ us hl => match us, hl with | [_, _], _ => rfl
  ce_InvalidRest_init := ⟨_, _, _, cell_InvalidRest_init⟩
  sd_InvalidRest_init := ⟨⟨_, _, _, _, _, l_InvalidRest_init, rfl, rfl⟩, ⟨_, _, _, _, _, _, code_InvalidRest_init, vs_InvalidRest_init, fl_InvalidRest_init⟩, ⟨_, _, _, cell_InvalidRest_init⟩, ⟨_, cd_InvalidRest_init⟩, PySem.W.mg_none_of X G z_super, top_super, st_thirdparty⟩
  k_InvalidRest_init := k_InvalidRest_init
  a_is_number := A_is_number
  fd_is_number := PySem.W.fnOf "is_number" "is_number" (defArgs s_is_number) (defBody s_is_number) (defScope s_is_number) .none kV_is_number doc_is_number pm_is_number an_is_number cdv_is_number ct_is_number
  F_is_number := fun_mk (st := s_is_number) l_is_number c_is_number k_is_number
  b_is_number := (fun_mk (st := s_is_number) l_is_number c_is_number k_is_number).binds (ps := P_is_number) fun _ _ _ _ _ _ us hl => match us, hl with | [_, _, _], _ => rfl
  k_is_number := k_is_number
  m_is_number := PySem.W.mg_of X G a_is_number
  a_is_name := A_is_name
  fd_is_name := PySem.W.fnOf "is_name" "is_name" (defArgs s_is_name) (defBody s_is_name) (defScope s_is_name) .none kV_is_name doc_is_name pm_is_name an_is_name cdv_is_name ct_is_name
  F_is_name := fun_mk (st := s_is_name) l_is_name c_is_name k_is_name
  b_is_name := (fun_mk (st := s_is_name) l_is_name c_is_name k_is_name).binds (ps := P_is_name) fun _ _ _ _ _ _ us hl => match us, hl with | [_], _ => rfl
  k_is_name := k_is_name
  m_is_name := PySem.W.mg_of X G a_is_name
  a_Rest_init := A_Rest_init
  fd_Rest_init := PySem.W.fnOf "__init__" "Rest.__init__" (defArgs s_Rest_init) (defBody s_Rest_init) (defScope s_Rest_init) .none kV_Rest_init doc_Rest_init pm_Rest_init an_Rest_init cdv_Rest_init ct_Rest_init
  F_Rest_init := fun_mk (st := s_Rest_init) l_Rest_init c_Rest_init k_Rest_init
  b_Rest_init := (fun_mk (st := s_Rest_init) l_Rest_init c_Rest_init k_Rest_init).binds (ps := P_Rest_init) fun _ _ _ _ _ _ us hl => match us, hl with | [_, _, _, _, _], _ => rfl
  k_Rest_init := k_Rest_init
  a_Rest_call := A_Rest_call
  fd_Rest_call := PySem.W.fnOf "__call__" "Rest.__call__" (defArgs s_Rest_call) (defBody s_Rest_call) (defScope s_Rest_call) .none kV_Rest_call doc_Rest_call pm_Rest_call an_Rest_call cdv_Rest_call ct_Rest_call
  F_Rest_call := fun_mk (st := s_Rest_call) l_Rest_call c_Rest_call k_Rest_call
  b_Rest_call := (fun_mk (st := s_Rest_call) l_Rest_call c_Rest_call k_Rest_call).binds (ps := P_Rest_call) fun _ _ _ _ _ _ us hl => match us, hl with | [_, _], _ => rfl
  k_Rest_call := k_Rest_call
  a_Rest_written := A_Rest_written
  fd_Rest_written := PySem.W.fnOf "written" "Rest.written" (defArgs s_Rest_written) (defBody s_Rest_written) (defScope s_Rest_written) .none kV_Rest_written doc_Rest_written pm_Rest_written an_Rest_written cdv_Rest_written ct_Rest_written
  F_Rest_written := fun_mk (st := s_Rest_written) l_Rest_written c_Rest_written k_Rest_written
  b_Rest_written := (fun_mk (st := s_Rest_written) l_Rest_written c_Rest_written k_Rest_written).binds (ps := P_Rest_written) fun _ _ _ _ _ _ us hl => match us, hl with | [_], _ => rfl
  k_Rest_written := k_Rest_written
  a_Rest_eq := A_Rest_eq
  fd_Rest_eq := PySem.W.fnOf "__eq__" "Rest.__eq__" (defArgs s_Rest_eq) (defBody s_Rest_eq) (defScope s_Rest_eq) .none kV_Rest_eq doc_Rest_eq pm_Rest_eq an_Rest_eq cdv_Rest_eq ct_Rest_eq
  F_Rest_eq := fun_mk (st := s_Rest_eq) l_Rest_eq c_Rest_eq k_Rest_eq
  b_Rest_eq := (fun_mk (st := s_Rest_eq) l_Rest_eq c_Rest_eq k_Rest_eq).binds (ps := P_Rest_eq) fun _ _ _ _ _ _ us hl => match us, hl with | [_, _], _ => rfl
  k_Rest_eq := k_Rest_eq
  a_Window_init := A_Window_init
  cc_Window_init := cc_Window_init
  cda_Window_init := cda_Window_init
  fd_Window_init := PySem.W.fnX "__init__" "Window.__init__" (defArgs s_Window_init) (defBody s_Window_init) (defScope s_Window_init) [("__class__", cc_Window_init)] .none kV_Window_init doc_Window_init pm_Window_init an_Window_init (.ref cda_Window_init) ct_Window_init
  F_Window_init := funS_mk l_Window_init c_Window_init k_Window_init
  b_Window_init := (funS_mk l_Window_init c_Window_init k_Window_init).binds (st := s_Window_init) (ps := P_Window_init) fun _ _ _ _ _ us hl => match us, hl with | [_, _], _ => rfl
  ce_Window_init := ⟨_, _, _, cell_Window_init⟩
  sd_Window_init := ⟨⟨_, _, _, _, _, l_Window_init, rfl, rfl⟩, ⟨_, _, _, _, _, _, code_Window_init, vs_Window_init, fl_Window_init⟩, ⟨_, _, _, cell_Window_init⟩, ⟨_, cd_Window_init⟩, PySem.W.mg_none_of X G z_super, top_super, st_thirdparty⟩
  k_Window_init := k_Window_init
  a_Window_after := A_Window_after
  fd_Window_after := PySem.W.fnOf "_after" "Window._after" (defArgs s_Window_after) (defBody s_Window_after) (defScope s_Window_after) .none kV_Window_after doc_Window_after pm_Window_after an_Window_after cdv_Window_after ct_Window_after
  F_Window_after := fun_mk (st := s_Window_after) l_Window_after c_Window_after k_Window_after
  b_Window_after := (fun_mk (st := s_Window_after) l_Window_after c_Window_after k_Window_after).binds (ps := P_Window_after) fun _ _ _ _ _ _ us hl => match us, hl with | [_, _], _ => rfl
  k_Window_after := k_Window_after
  a_Days_init := A_Days_init
  cc_Days_init := cc_Days_init
  cda_Days_init := cda_Days_init
  fd_Days_init := PySem.W.fnX "__init__" "Days.__init__" (defArgs s_Days_init) (defBody s_Days_init) (defScope s_Days_init) [("__class__", cc_Days_init)] .none kV_Days_init doc_Days_init pm_Days_init an_Days_init (.ref cda_Days_init) ct_Days_init
  F_Days_init := funS_mk l_Days_init c_Days_init k_Days_init
  b_Days_init := (funS_mk l_Days_init c_Days_init k_Days_init).binds (st := s_Days_init) (ps := P_Days_init) fun _ _ _ _ _ us hl => match us, hl with | [_, _, _], _ => rfl
  ce_Days_init := ⟨_, _, _, cell_Days_init⟩
  sd_Days_init := ⟨⟨_, _, _, _, _, l_Days_init, rfl, rfl⟩, ⟨_, _, _, _, _, _, code_Days_init, vs_Days_init, fl_Days_init⟩, ⟨_, _, _, cell_Days_init⟩, ⟨_, cd_Days_init⟩, PySem.W.mg_none_of X G z_super, top_super, st_thirdparty⟩
  k_Days_init := k_Days_init
  a_Days_after := A_Days_after
  fd_Days_after := PySem.W.fnOf "_after" "Days._after" (defArgs s_Days_after) (defBody s_Days_after) (defScope s_Days_after) .none kV_Days_after doc_Days_after pm_Days_after an_Days_after cdv_Days_after ct_Days_after
  F_Days_after := fun_mk (st := s_Days_after) l_Days_after c_Days_after k_Days_after
  b_Days_after := (fun_mk (st := s_Days_after) l_Days_after c_Days_after k_Days_after).binds (ps := P_Days_after) fun _ _ _ _ _ _ us hl => match us, hl with | [_, _], _ => rfl
  k_Days_after := k_Days_after
  a_Rule_init := A_Rule_init
  fd_Rule_init := PySem.W.fnOf "__init__" "Rule.__init__" (defArgs s_Rule_init) (defBody s_Rule_init) (defScope s_Rule_init) .none kV_Rule_init doc_Rule_init pm_Rule_init an_Rule_init cdv_Rule_init ct_Rule_init
  F_Rule_init := fun_mk (st := s_Rule_init) l_Rule_init c_Rule_init k_Rule_init
  b_Rule_init := (fun_mk (st := s_Rule_init) l_Rule_init c_Rule_init k_Rule_init).binds (ps := P_Rule_init) fun _ _ _ _ _ _ us hl => match us, hl with | [_, _, _, _], _ => rfl
  k_Rule_init := k_Rule_init
  a_Rule_str := A_Rule_str
  fd_Rule_str := PySem.W.fnOf "__str__" "Rule.__str__" (defArgs s_Rule_str) (defBody s_Rule_str) (defScope s_Rule_str) .none kV_Rule_str doc_Rule_str pm_Rule_str an_Rule_str cdv_Rule_str ct_Rule_str
  F_Rule_str := fun_mk (st := s_Rule_str) l_Rule_str c_Rule_str k_Rule_str
  b_Rule_str := (fun_mk (st := s_Rule_str) l_Rule_str c_Rule_str k_Rule_str).binds (ps := P_Rule_str) fun _ _ _ _ _ _ us hl => match us, hl with | [_], _ => rfl
  k_Rule_str := k_Rule_str
  a_Rule_eq := A_Rule_eq
  fd_Rule_eq := PySem.W.fnOf "__eq__" "Rule.__eq__" (defArgs s_Rule_eq) (defBody s_Rule_eq) (defScope s_Rule_eq) .none kV_Rule_eq doc_Rule_eq pm_Rule_eq an_Rule_eq cdv_Rule_eq ct_Rule_eq
  F_Rule_eq := fun_mk (st := s_Rule_eq) l_Rule_eq c_Rule_eq k_Rule_eq
  b_Rule_eq := (fun_mk (st := s_Rule_eq) l_Rule_eq c_Rule_eq k_Rule_eq).binds (ps := P_Rule_eq) fun _ _ _ _ _ _ us hl => match us, hl with | [_, _], _ => rfl
  k_Rule_eq := k_Rule_eq
  a_ladder := A_ladder
  fd_ladder := PySem.W.fnOf "ladder" "ladder" (defArgs s_ladder) (defBody s_ladder) (defScope s_ladder) .none kV_ladder doc_ladder pm_ladder an_ladder cdv_ladder ct_ladder
  F_ladder := fun_mk (st := s_ladder) l_ladder c_ladder k_ladder
  b_ladder := (fun_mk (st := s_ladder) l_ladder c_ladder k_ladder).binds (ps := P_ladder) fun _ _ _ _ _ _ us hl => match us, hl with | [_, _, _, _], _ => rfl
  k_ladder := k_ladder
  m_ladder := PySem.W.mg_of X G a_ladder
  a_fullest := A_fullest
  fd_fullest := PySem.W.fnOf "fullest" "fullest" (defArgs s_fullest) (defBody s_fullest) (defScope s_fullest) .none kV_fullest doc_fullest pm_fullest an_fullest cdv_fullest ct_fullest
  F_fullest := fun_mk (st := s_fullest) l_fullest c_fullest k_fullest
  b_fullest := (fun_mk (st := s_fullest) l_fullest c_fullest k_fullest).binds (ps := P_fullest) fun _ _ _ _ _ _ us hl => match us, hl with | [_, _], _ => rfl
  k_fullest := k_fullest
  m_fullest := PySem.W.mg_of X G a_fullest
  a_is_within := A_is_within
  fd_is_within := PySem.W.fnOf "is_within" "is_within" (defArgs s_is_within) (defBody s_is_within) (defScope s_is_within) .none kV_is_within doc_is_within pm_is_within an_is_within cdv_is_within ct_is_within
  F_is_within := fun_mk (st := s_is_within) l_is_within c_is_within k_is_within
  b_is_within := (fun_mk (st := s_is_within) l_is_within c_is_within k_is_within).binds (ps := P_is_within) fun _ _ _ _ _ _ us hl => match us, hl with | [_, _], _ => rfl
  k_is_within := k_is_within
  m_is_within := PySem.W.mg_of X G a_is_within
  a_bag := A_bag
  fd_bag := PySem.W.fnOf "_law_bag" "_law_bag" (defArgs s_bag) (defBody s_bag) (defScope s_bag) .none kV_bag doc_bag pm_bag an_bag cdv_bag ct_bag
  F_bag := fun_mk (st := s_bag) l_bag c_bag k_bag
  b_bag := (fun_mk (st := s_bag) l_bag c_bag k_bag).binds (ps := P_bag) fun _ _ _ _ _ _ us hl => match us, hl with | [_], _ => rfl
  k_bag := k_bag
  m_bag := PySem.W.mg_of X G a_bag
  a_draw := A_draw
  fd_draw := PySem.W.fnOf "_law_draw" "_law_draw" (defArgs s_draw) (defBody s_draw) (defScope s_draw) .none kV_draw doc_draw pm_draw an_draw cdv_draw ct_draw
  F_draw := fun_mk (st := s_draw) l_draw c_draw k_draw
  b_draw := (fun_mk (st := s_draw) l_draw c_draw k_draw).binds (ps := P_draw) fun _ _ _ _ _ _ us hl => match us, hl with | [_, _], _ => rfl
  k_draw := k_draw
  m_draw := PySem.W.mg_of X G a_draw
  a_of := A_of
  fd_of := PySem.W.fnOf "_law_of" "_law_of" (defArgs s_of) (defBody s_of) (defScope s_of) .none kV_of doc_of pm_of an_of cdv_of ct_of
  F_of := fun_mk (st := s_of) l_of c_of k_of
  b_of := (fun_mk (st := s_of) l_of c_of k_of).binds (ps := P_of) fun _ _ _ _ _ _ us hl => match us, hl with | [_, _], _ => rfl
  k_of := k_of
  m_of := PySem.W.mg_of X G a_of
  a_like := A_like
  fd_like := PySem.W.fnOf "_law_like" "_law_like" (defArgs s_like) (defBody s_like) (defScope s_like) .none kV_like doc_like pm_like an_like cdv_like ct_like
  F_like := fun_mk (st := s_like) l_like c_like k_like
  b_like := (fun_mk (st := s_like) l_like c_like k_like).binds (ps := P_like) fun _ _ _ _ _ _ us hl => match us, hl with | [_, _], _ => rfl
  k_like := k_like
  m_like := PySem.W.mg_of X G a_like
  a_odd := A_odd
  fd_odd := PySem.W.fnOf "_law_odd" "_law_odd" (defArgs s_odd) (defBody s_odd) (defScope s_odd) .none kV_odd doc_odd pm_odd an_odd cdv_odd ct_odd
  F_odd := fun_mk (st := s_odd) l_odd c_odd k_odd
  b_odd := (fun_mk (st := s_odd) l_odd c_odd k_odd).binds (ps := P_odd) fun _ _ _ _ _ _ us hl => match us, hl with | [_], _ => rfl
  k_odd := k_odd
  m_odd := PySem.W.mg_of X G a_odd
  a_ask := A_ask
  fd_ask := PySem.W.fnOf "_law_ask" "_law_ask" (defArgs s_ask) (defBody s_ask) (defScope s_ask) .none kV_ask doc_ask pm_ask an_ask cdv_ask ct_ask
  F_ask := fun_mk (st := s_ask) l_ask c_ask k_ask
  b_ask := (fun_mk (st := s_ask) l_ask c_ask k_ask).binds (ps := P_ask) fun _ _ _ _ _ _ us hl => match us, hl with | [_], _ => rfl
  k_ask := k_ask
  m_ask := PySem.W.mg_of X G a_ask
  a_in := A_in
  fd_in := PySem.W.fnOf "_law_in" "_law_in" (defArgs s_in) (defBody s_in) (defScope s_in) .none kV_in doc_in pm_in an_in cdv_in ct_in
  F_in := fun_mk (st := s_in) l_in c_in k_in
  b_in := (fun_mk (st := s_in) l_in c_in k_in).binds (ps := P_in) fun _ _ _ _ _ _ us hl => match us, hl with | [_, _], _ => rfl
  k_in := k_in
  m_in := PySem.W.mg_of X G a_in
  a_named := A_named
  fd_named := PySem.W.fnOf "_law_named" "_law_named" (defArgs s_named) (defBody s_named) (defScope s_named) .none kV_named doc_named pm_named an_named cdv_named ct_named
  F_named := fun_mk (st := s_named) l_named c_named k_named
  b_named := (fun_mk (st := s_named) l_named c_named k_named).binds (ps := P_named) fun _ _ _ _ _ _ us hl => match us, hl with | [_, _], _ => rfl
  k_named := k_named
  m_named := PySem.W.mg_of X G a_named
  a_wrong := A_wrong
  fd_wrong := PySem.W.fnOf "_law_wrong" "_law_wrong" (defArgs s_wrong) (defBody s_wrong) (defScope s_wrong) .none kV_wrong doc_wrong pm_wrong an_wrong cdv_wrong ct_wrong
  F_wrong := fun_mk (st := s_wrong) l_wrong c_wrong k_wrong
  b_wrong := (fun_mk (st := s_wrong) l_wrong c_wrong k_wrong).binds (ps := P_wrong) fun _ _ _ _ _ _ us hl => match us, hl with | [_], _ => rfl
  k_wrong := k_wrong
  m_wrong := PySem.W.mg_of X G a_wrong
  a_given := A_given
  fd_given := PySem.W.fnOf "_law_given" "_law_given" (defArgs s_given) (defBody s_given) (defScope s_given) .none kV_given doc_given pm_given an_given cdv_given ct_given
  F_given := fun_mk (st := s_given) l_given c_given k_given
  b_given := (fun_mk (st := s_given) l_given c_given k_given).binds (ps := P_given) fun _ _ _ _ _ _ us hl => match us, hl with | [_], _ => rfl
  k_given := k_given
  m_given := PySem.W.mg_of X G a_given
  a_ladder_due := A_ladder_due
  fd_ladder_due := PySem.W.fnOf "_law_ladder_due" "_law_ladder_due" (defArgs s_ladder_due) (defBody s_ladder_due) (defScope s_ladder_due) .none kV_ladder_due doc_ladder_due pm_ladder_due an_ladder_due cdv_ladder_due ct_ladder_due
  F_ladder_due := fun_mk (st := s_ladder_due) l_ladder_due c_ladder_due k_ladder_due
  b_ladder_due := (fun_mk (st := s_ladder_due) l_ladder_due c_ladder_due k_ladder_due).binds (ps := P_ladder_due) fun _ _ _ _ _ _ us hl => match us, hl with | [_], _ => rfl
  k_ladder_due := k_ladder_due
  m_ladder_due := PySem.W.mg_of X G a_ladder_due
  a_rules_so := A_rules_so
  fd_rules_so := PySem.W.fnOf "_law_rules_so" "_law_rules_so" (defArgs s_rules_so) (defBody s_rules_so) (defScope s_rules_so) .none kV_rules_so doc_rules_so pm_rules_so an_rules_so cdv_rules_so ct_rules_so
  F_rules_so := fun_mk (st := s_rules_so) l_rules_so c_rules_so k_rules_so
  b_rules_so := (fun_mk (st := s_rules_so) l_rules_so c_rules_so k_rules_so).binds (ps := P_rules_so) fun _ _ _ _ _ _ us hl => match us, hl with | [_, _], _ => rfl
  k_rules_so := k_rules_so
  m_rules_so := PySem.W.mg_of X G a_rules_so
  a_let := A_let
  fd_let := PySem.W.fnOf "_law_let" "_law_let" (defArgs s_let) (defBody s_let) (defScope s_let) .none kV_let doc_let pm_let an_let cdv_let ct_let
  F_let := fun_mk (st := s_let) l_let c_let k_let
  b_let := (fun_mk (st := s_let) l_let c_let k_let).binds (ps := P_let) fun _ _ _ _ _ _ us hl => match us, hl with | [_, _, _], _ => rfl
  k_let := k_let
  m_let := PySem.W.mg_of X G a_let
  a_asked_so := A_asked_so
  fd_asked_so := PySem.W.fnOf "_law_asked_so" "_law_asked_so" (defArgs s_asked_so) (defBody s_asked_so) (defScope s_asked_so) .none kV_asked_so doc_asked_so pm_asked_so an_asked_so cdv_asked_so ct_asked_so
  F_asked_so := fun_mk (st := s_asked_so) l_asked_so c_asked_so k_asked_so
  b_asked_so := (fun_mk (st := s_asked_so) l_asked_so c_asked_so k_asked_so).binds (ps := P_asked_so) fun _ _ _ _ _ _ us hl => match us, hl with | [_, _, _], _ => rfl
  k_asked_so := k_asked_so
  m_asked_so := PySem.W.mg_of X G a_asked_so
  a_one_rule_so := A_one_rule_so
  fd_one_rule_so := PySem.W.fnOf "_law_one_rule_so" "_law_one_rule_so" (defArgs s_one_rule_so) (defBody s_one_rule_so) (defScope s_one_rule_so) .none kV_one_rule_so doc_one_rule_so pm_one_rule_so an_one_rule_so (.ref cda_one_rule_so) ct_one_rule_so
  cda_one_rule_so := cda_one_rule_so
  tb_one_rule_so := tb_one_rule_so
  F_one_rule_so := funL_mk (st := s_one_rule_so) l_one_rule_so c_one_rule_so k_one_rule_so
  b_one_rule_so := (funL_mk (st := s_one_rule_so) l_one_rule_so c_one_rule_so k_one_rule_so).fn.binds (ps := P_one_rule_so) fun _ _ _ _ _ _ us hl => match us, hl with | [_], _ => rfl
  k_one_rule_so := k_one_rule_so
  m_one_rule_so := PySem.W.mg_of X G a_one_rule_so
  a_law := A_law
  fd_law := PySem.W.fnOf "law" "law" (defArgs s_law) (defBody s_law) (defScope s_law) .none kV_law doc_law pm_law an_law (.ref cda_law) ct_law
  cda_law := cda_law
  tb_law := tb_law
  F_law := funL_mk (st := s_law) l_law c_law k_law
  b_law := (funL_mk (st := s_law) l_law c_law k_law).fn.binds (ps := P_law) fun _ _ _ _ _ _ us hl => match us, hl with | [_], _ => rfl
  k_law := k_law
  m_law := PySem.W.mg_of X G a_law
  tne_one_rule_so_law := tne_one_rule_so_law
  n_all := PySem.W.mg_none_of X G z_all
  n_bool := PySem.W.mg_none_of X G z_bool
  n_dict := PySem.W.mg_none_of X G z_dict
  n_enumerate := PySem.W.mg_none_of X G z_enumerate
  n_int := PySem.W.mg_none_of X G z_int
  n_isinstance := PySem.W.mg_none_of X G z_isinstance
  n_len := PySem.W.mg_none_of X G z_len
  n_list := PySem.W.mg_none_of X G z_list
  n_max := PySem.W.mg_none_of X G z_max
  n_range := PySem.W.mg_none_of X G z_range
  n_sorted := PySem.W.mg_none_of X G z_sorted
  n_str := PySem.W.mg_none_of X G z_str
  n_super := PySem.W.mg_none_of X G z_super
  n_tuple := PySem.W.mg_none_of X G z_tuple
  n_zip := PySem.W.mg_none_of X G z_zip
  t_BORDERS := t_BORDERS
  m_BORDERS := PySem.W.mg_of X G ac_BORDERS
  r_BORDERS := ⟨_, rfl⟩
  t_DIGITS := t_DIGITS
  m_DIGITS := PySem.W.mg_of X G ac_DIGITS
  r_DIGITS := ⟨_, rfl⟩
  t_LETTERS := t_LETTERS
  m_LETTERS := PySem.W.mg_of X G ac_LETTERS
  r_LETTERS := ⟨_, rfl⟩
  kb_Rule_init_rest_name_chips := ⟨fun s us ws _ h => by (rcases us with _ | ⟨u0, _ | ⟨zz, us⟩⟩ <;> rcases ws with _ | ⟨w0, _ | ⟨w1, _ | ⟨w2, _ | ⟨z, ws⟩⟩⟩⟩ <;> first | exact absurd h (fun z => Nat.noConfusion (show (0 : Nat) = Nat.succ _ from z)) | exact .of_eq rfl), fun r1 r2 => by (cases r1 with | nil => exact .nil | cons g0 r1 => (cases r1 with | nil => (cases r2 with | nil => exact .nil | cons h0 r2 => (cases r2 with | nil => exact .nil | cons h1 r2 => (cases r2 with | nil => exact .nil | cons h2 r2 => (cases r2 with | nil => exact (.cons g0 (.cons h1 (.cons h2 (.cons h0 .nil)))) | cons _ _ => exact .nil)))) | cons _ _ => exact .nil))⟩
  kb_is_within_rule_uses := ⟨fun s us ws _ h => by (rcases us with _ | ⟨u, us⟩ <;> rcases ws with _ | ⟨w0, _ | ⟨w1, _ | ⟨z, ws⟩⟩⟩ <;> first | exact absurd h (fun z => Nat.noConfusion (show (0 : Nat) = Nat.succ _ from z)) | exact .of_eq rfl), fun r1 r2 => by (cases r1 with | nil => (cases r2 with | nil => exact .nil | cons h0 r2 => (cases r2 with | nil => exact .nil | cons h1 r2 => (cases r2 with | nil => exact (.cons h0 (.cons h1 .nil)) | cons _ _ => exact .nil))) | cons _ _ => exact .nil)⟩
  kb_ladder_size_name_steps_every := ⟨fun s us ws _ h => by (rcases us with _ | ⟨u, us⟩ <;> rcases ws with _ | ⟨w0, _ | ⟨w1, _ | ⟨w2, _ | ⟨w3, _ | ⟨z, ws⟩⟩⟩⟩⟩ <;> first | exact absurd h (fun z => Nat.noConfusion (show (0 : Nat) = Nat.succ _ from z)) | exact .of_eq rfl), fun r1 r2 => by (cases r1 with | nil => (cases r2 with | nil => exact .nil | cons h0 r2 => (cases r2 with | nil => exact .nil | cons h1 r2 => (cases r2 with | nil => exact .nil | cons h2 r2 => (cases r2 with | nil => exact .nil | cons h3 r2 => (cases r2 with | nil => exact (.cons h1 (.cons h0 (.cons h3 (.cons h2 .nil)))) | cons _ _ => exact .nil))))) | cons _ _ => exact .nil)⟩
  kb_int_Rest := kb_int_Rest
  kb_bool_Rest := kb_bool_Rest
  kb_str_Rest := kb_str_Rest
  kb_NoneType_Rest := kb_NoneType_Rest
  kb_list_Rest := kb_list_Rest
  kb_tuple_Rest := kb_tuple_Rest
  kb_dict_Rest := kb_dict_Rest
  cl_Window := ⟨pg_Window, hd_Window, po_Window, sa_Window⟩
  mk_Window := ⟨mk_Window, a_Window_init, i_Window_init, kc_Window⟩
  ty_Window := ⟨⟨pg_Window, hd_Window, po_Window, sa_Window⟩, th_Window, tn_Window, tk_Window, tm_Window⟩
  kt_Window_Rest := kt_Window_Rest
  kt_Window_Window := kt_Window_Window
  su_Window := ⟨su_Window, sm_Window, sf_Window, st_Window⟩
  no_Window_text := no_Window_text
  no_Window_forms := no_Window_forms
  no_Window_period := no_Window_period
  no_Window_bend := no_Window_bend
  no_Window_width := no_Window_width
  me_Window_after := ⟨me_Window_after, mi_Window_after, k_Window_after⟩
  me_Window_written := ⟨me_Window_written, mi_Window_written, k_Rest_written⟩
  co_Window := ⟨co_Window, ci_Window, cf_Window⟩
  eqf_Window := eqf_Window
  eqi_Window := eqi_Window
  nf_Window_str := nf_Window_str
  nf_Window_int := nf_Window_int
  nf_Window := nf_Window
  nf_Window_Days := nf_Window_Days
  kb_int_Window := kb_int_Window
  kb_bool_Window := kb_bool_Window
  kb_str_Window := kb_str_Window
  kb_NoneType_Window := kb_NoneType_Window
  kb_list_Window := kb_list_Window
  kb_tuple_Window := kb_tuple_Window
  kb_dict_Window := kb_dict_Window
  cl_Days := ⟨pg_Days, hd_Days, po_Days, sa_Days⟩
  mk_Days := ⟨mk_Days, a_Days_init, i_Days_init, kc_Days⟩
  ty_Days := ⟨⟨pg_Days, hd_Days, po_Days, sa_Days⟩, th_Days, tn_Days, tk_Days, tm_Days⟩
  kt_Days_Rest := kt_Days_Rest
  kt_Days_Window := kt_Days_Window
  kt_Days_Days := kt_Days_Days
  su_Days := ⟨su_Days, sm_Days, sf_Days, st_Days⟩
  no_Days_text := no_Days_text
  no_Days_forms := no_Days_forms
  no_Days_period := no_Days_period
  no_Days_bend := no_Days_bend
  no_Days_every := no_Days_every
  no_Days_borders := no_Days_borders
  me_Days_after := ⟨me_Days_after, mi_Days_after, k_Days_after⟩
  me_Days_written := ⟨me_Days_written, mi_Days_written, k_Rest_written⟩
  co_Days := ⟨co_Days, ci_Days, cf_Days⟩
  eqf_Days := eqf_Days
  eqi_Days := eqi_Days
  nf_Days_str := nf_Days_str
  nf_Days_int := nf_Days_int
  nf_Days := nf_Days
  nf_Days_Window := nf_Days_Window
  kb_int_Days := kb_int_Days
  kb_bool_Days := kb_bool_Days
  kb_str_Days := kb_str_Days
  kb_NoneType_Days := kb_NoneType_Days
  kb_list_Days := kb_list_Days
  kb_tuple_Days := kb_tuple_Days
  kb_dict_Days := kb_dict_Days
  oex_InvalidName := ⟨⟨_, _, _, _, _, _, _, _, _, _, _, _, _, _, _, el_InvalidName, rfl⟩, es_InvalidName, eb_InvalidName, et_InvalidName, ek_InvalidName⟩
  se_InvalidName := ⟨⟨⟨_, _, _, _, _, _, _, _, _, _, _, _, _, _, _, el_InvalidName, rfl⟩, es_InvalidName, eb_InvalidName, et_InvalidName, ek_InvalidName⟩, em_InvalidName, eu_InvalidName, ev_InvalidName⟩
  xf_InvalidName := ⟨ega_InvalidName, egg_InvalidName, eb_InvalidName, ehd_InvalidName⟩
  ii_InvalidName := a_InvalidName_init
  ti_InvalidName := eti_InvalidName
  exm_InvalidName_InvalidName := exm_selfE xb_InvalidName_InvalidName xi_InvalidName_InvalidName xt_InvalidName_InvalidName xs_InvalidName_InvalidName
  no_InvalidName_value := no_InvalidName_value
  no_InvalidName_code := no_InvalidName_code
  oex_InvalidNumber := ⟨⟨_, _, _, _, _, _, _, _, _, _, _, _, _, _, _, el_InvalidNumber, rfl⟩, es_InvalidNumber, eb_InvalidNumber, et_InvalidNumber, ek_InvalidNumber⟩
  se_InvalidNumber := ⟨⟨⟨_, _, _, _, _, _, _, _, _, _, _, _, _, _, _, el_InvalidNumber, rfl⟩, es_InvalidNumber, eb_InvalidNumber, et_InvalidNumber, ek_InvalidNumber⟩, em_InvalidNumber, eu_InvalidNumber, ev_InvalidNumber⟩
  xf_InvalidNumber := ⟨ega_InvalidNumber, egg_InvalidNumber, eb_InvalidNumber, ehd_InvalidNumber⟩
  ii_InvalidNumber := a_InvalidNumber_init
  ti_InvalidNumber := eti_InvalidNumber
  exm_InvalidNumber_InvalidName := exm_selfE xb_InvalidNumber_InvalidName xi_InvalidNumber_InvalidName xt_InvalidNumber_InvalidName xs_InvalidNumber_InvalidName
  exm_InvalidNumber_InvalidNumber := exm_selfE xb_InvalidNumber_InvalidNumber xi_InvalidNumber_InvalidNumber xt_InvalidNumber_InvalidNumber xs_InvalidNumber_InvalidNumber
  no_InvalidNumber_value := no_InvalidNumber_value
  no_InvalidNumber_code := no_InvalidNumber_code
  oex_InvalidRest := ⟨⟨_, _, _, _, _, _, _, _, _, _, _, _, _, _, _, el_InvalidRest, rfl⟩, es_InvalidRest, eb_InvalidRest, et_InvalidRest, ek_InvalidRest⟩
  se_InvalidRest := ⟨⟨⟨_, _, _, _, _, _, _, _, _, _, _, _, _, _, _, el_InvalidRest, rfl⟩, es_InvalidRest, eb_InvalidRest, et_InvalidRest, ek_InvalidRest⟩, em_InvalidRest, eu_InvalidRest, ev_InvalidRest⟩
  xf_InvalidRest := ⟨ega_InvalidRest, egg_InvalidRest, eb_InvalidRest, ehd_InvalidRest⟩
  ii_InvalidRest := a_InvalidRest_init
  ti_InvalidRest := eti_InvalidRest
  exm_InvalidRest_InvalidName := exm_selfE xb_InvalidRest_InvalidName xi_InvalidRest_InvalidName xt_InvalidRest_InvalidName xs_InvalidRest_InvalidName
  exm_InvalidRest_InvalidNumber := exm_selfE xb_InvalidRest_InvalidNumber xi_InvalidRest_InvalidNumber xt_InvalidRest_InvalidNumber xs_InvalidRest_InvalidNumber
  exm_InvalidRest_InvalidRest := exm_selfE xb_InvalidRest_InvalidRest xi_InvalidRest_InvalidRest xt_InvalidRest_InvalidRest xs_InvalidRest_InvalidRest
  no_InvalidRest_value := no_InvalidRest_value
  no_InvalidRest_code := no_InvalidRest_code
  cl_Rule := ⟨pg_Rule, hd_Rule, po_Rule, sa_Rule⟩
  mk_Rule := ⟨mk_Rule, a_Rule_init, i_Rule_init, kc_Rule⟩
  ty_Rule := ⟨⟨pg_Rule, hd_Rule, po_Rule, sa_Rule⟩, th_Rule, tn_Rule, tk_Rule, tm_Rule⟩
  kt_Rule_Rule := kt_Rule_Rule
  strf_Rule := strf_Rule
  stri_Rule := stri_Rule
  eqf_Rule := eqf_Rule
  eqi_Rule := eqi_Rule
  nf_Rule_str := nf_Rule_str
  nf_Rule_int := nf_Rule_int
  nf_Rule := nf_Rule
  no_Rule_name := no_Rule_name
  no_Rule_chips := no_Rule_chips
  no_Rule_rest := no_Rule_rest
  kb_int_Rule := kb_int_Rule
  kb_bool_Rule := kb_bool_Rule
  kb_str_Rule := kb_str_Rule
  kb_NoneType_Rule := kb_NoneType_Rule
  kb_list_Rule := kb_list_Rule
  kb_tuple_Rule := kb_tuple_Rule
  kb_dict_Rule := kb_dict_Rule
theorem tabIn_of {K : PySem.W.Frag} {x : Str} {f cda P : Addr} {oc : Value} {od : Option Addr} {fd : FuncData} {sl sl2 : Array (Option Value)} {e : Value} {dd : Option Addr} {vs : Array Value} (h1 : PySem.W.nsIn K mainGlobals x = some (some (.ref f))) (h2 : K.lookup f = some ⟨oc, od, .func fd, sl⟩)
    (h3 : fd.code = .ref cda) (h4 : K.lookup cda = some ⟨e, dd, .fields vs, sl2⟩) (h5 : vs[11]? = some (.ref P)) : PySem.W.tabIn K x = some (cda, P) := by
  unfold PySem.W.tabIn
  rw [h1]
  simp only [h2, h3, h4, h5]
abbrev TabsTold (q : Program) (K : PySem.W.Frag) (h : Heap) : Prop := ∀ (x : Str) (c P : Addr), ((recsOf q).find? fun e => e.name == x).isSome = true → PySem.W.tabIn K x = some (c, P) → PySem.W.CodeHd h c P ∧ h.get? P = some (PySem.W.tabObj #[])
theorem all_mk {q : Program} {w : World} {K : PySem.W.Frag} {h : Heap} {mg : Str → Option Value} {fa : Addr} (X : K.In h) (G : h.Ns mainGlobals mg) (hfa : mg "law" = some (.ref fa)) (tab : TabsTold q K h) (rc_one_rule_so : ((recsOf q).find? fun e => e.name == ("_law_one_rule_so" : Str)).isSome = true) (rc_law : ((recsOf q).find? fun e => e.name == ("law" : Str)).isSome = true) {C_Rest : Addr} {C_Window : Addr} {C_Days : Addr} {C_SureletError : Addr} {C_InvalidName : Addr} {C_InvalidNumber : Addr} {C_InvalidRest : Addr} {C_Rule : Addr} {A_InvalidNumber_init : Addr} {oc_InvalidNumber_init kV_InvalidNumber_init doc_InvalidNumber_init pm_InvalidNumber_init ct_InvalidNumber_init : Value} {od_InvalidNumber_init an_InvalidNumber_init : Option Addr} {sl_InvalidNumber_init : Array (Option Value)} {cc_InvalidNumber_init cda_InvalidNumber_init : Addr} {cl_InvalidNumber_init ccl_InvalidNumber_init : Value} {cld_InvalidNumber_init cdd_InvalidNumber_init : Option Addr} {csl_InvalidNumber_init ccs_InvalidNumber_init : Array (Option Value)} {vs_InvalidNumber_init : Array Value} {file_InvalidNumber_init : Str} {tf_InvalidNumber_init : Tok} {cd_InvalidNumber_init : PySem.ClassData} {A_InvalidName_init : Addr} {oc_InvalidName_init kV_InvalidName_init doc_InvalidName_init pm_InvalidName_init ct_InvalidName_init : Value} {od_InvalidName_init an_InvalidName_init : Option Addr} {sl_InvalidName_init : Array (Option Value)} {cc_InvalidName_init cda_InvalidName_init : Addr} {cl_InvalidName_init ccl_InvalidName_init : Value} {cld_InvalidName_init cdd_InvalidName_init : Option Addr} {csl_InvalidName_init ccs_InvalidName_init : Array (Option Value)} {vs_InvalidName_init : Array Value} {file_InvalidName_init : Str} {tf_InvalidName_init : Tok} {cd_InvalidName_init : PySem.ClassData} {A_InvalidRest_init : Addr} {oc_InvalidRest_init kV_InvalidRest_init doc_InvalidRest_init pm_InvalidRest_init ct_InvalidRest_init : Value} {od_InvalidRest_init an_InvalidRest_init : Option Addr} {sl_InvalidRest_init : Array (Option Value)} {cc_InvalidRest_init cda_InvalidRest_init : Addr} {cl_InvalidRest_init ccl_InvalidRest_init : Value} {cld_InvalidRest_init cdd_InvalidRest_init : Option Addr} {csl_InvalidRest_init ccs_InvalidRest_init : Array (Option Value)} {vs_InvalidRest_init : Array Value} {file_InvalidRest_init : Str} {tf_InvalidRest_init : Tok} {cd_InvalidRest_init : PySem.ClassData} {A_is_number : Addr} {oc_is_number kV_is_number doc_is_number pm_is_number ct_is_number : Value} {od_is_number an_is_number : Option Addr} {sl_is_number : Array (Option Value)} {cdv_is_number : Value} {A_is_name : Addr} {oc_is_name kV_is_name doc_is_name pm_is_name ct_is_name : Value} {od_is_name an_is_name : Option Addr} {sl_is_name : Array (Option Value)} {cdv_is_name : Value} {A_Rest_init : Addr} {oc_Rest_init kV_Rest_init doc_Rest_init pm_Rest_init ct_Rest_init : Value} {od_Rest_init an_Rest_init : Option Addr} {sl_Rest_init : Array (Option Value)} {cdv_Rest_init : Value} {A_Rest_call : Addr} {oc_Rest_call kV_Rest_call doc_Rest_call pm_Rest_call ct_Rest_call : Value} {od_Rest_call an_Rest_call : Option Addr} {sl_Rest_call : Array (Option Value)} {cdv_Rest_call : Value} {A_Rest_written : Addr} {oc_Rest_written kV_Rest_written doc_Rest_written pm_Rest_written ct_Rest_written : Value} {od_Rest_written an_Rest_written : Option Addr} {sl_Rest_written : Array (Option Value)} {cdv_Rest_written : Value} {A_Rest_eq : Addr} {oc_Rest_eq kV_Rest_eq doc_Rest_eq pm_Rest_eq ct_Rest_eq : Value} {od_Rest_eq an_Rest_eq : Option Addr} {sl_Rest_eq : Array (Option Value)} {cdv_Rest_eq : Value} {A_Window_init : Addr} {oc_Window_init kV_Window_init doc_Window_init pm_Window_init ct_Window_init : Value} {od_Window_init an_Window_init : Option Addr} {sl_Window_init : Array (Option Value)} {cc_Window_init cda_Window_init : Addr} {cl_Window_init ccl_Window_init : Value} {cld_Window_init cdd_Window_init : Option Addr} {csl_Window_init ccs_Window_init : Array (Option Value)} {vs_Window_init : Array Value} {file_Window_init : Str} {tf_Window_init : Tok} {cd_Window_init : PySem.ClassData} {A_Window_after : Addr} {oc_Window_after kV_Window_after doc_Window_after pm_Window_after ct_Window_after : Value} {od_Window_after an_Window_after : Option Addr} {sl_Window_after : Array (Option Value)} {cdv_Window_after : Value} {A_Days_init : Addr} {oc_Days_init kV_Days_init doc_Days_init pm_Days_init ct_Days_init : Value} {od_Days_init an_Days_init : Option Addr} {sl_Days_init : Array (Option Value)} {cc_Days_init cda_Days_init : Addr} {cl_Days_init ccl_Days_init : Value} {cld_Days_init cdd_Days_init : Option Addr} {csl_Days_init ccs_Days_init : Array (Option Value)} {vs_Days_init : Array Value} {file_Days_init : Str} {tf_Days_init : Tok} {cd_Days_init : PySem.ClassData} {A_Days_after : Addr} {oc_Days_after kV_Days_after doc_Days_after pm_Days_after ct_Days_after : Value} {od_Days_after an_Days_after : Option Addr} {sl_Days_after : Array (Option Value)} {cdv_Days_after : Value} {A_Rule_init : Addr} {oc_Rule_init kV_Rule_init doc_Rule_init pm_Rule_init ct_Rule_init : Value} {od_Rule_init an_Rule_init : Option Addr} {sl_Rule_init : Array (Option Value)} {cdv_Rule_init : Value} {A_Rule_str : Addr} {oc_Rule_str kV_Rule_str doc_Rule_str pm_Rule_str ct_Rule_str : Value} {od_Rule_str an_Rule_str : Option Addr} {sl_Rule_str : Array (Option Value)} {cdv_Rule_str : Value} {A_Rule_eq : Addr} {oc_Rule_eq kV_Rule_eq doc_Rule_eq pm_Rule_eq ct_Rule_eq : Value} {od_Rule_eq an_Rule_eq : Option Addr} {sl_Rule_eq : Array (Option Value)} {cdv_Rule_eq : Value} {A_ladder : Addr} {oc_ladder kV_ladder doc_ladder pm_ladder ct_ladder : Value} {od_ladder an_ladder : Option Addr} {sl_ladder : Array (Option Value)} {cdv_ladder : Value} {A_fullest : Addr} {oc_fullest kV_fullest doc_fullest pm_fullest ct_fullest : Value} {od_fullest an_fullest : Option Addr} {sl_fullest : Array (Option Value)} {cdv_fullest : Value} {A_is_within : Addr} {oc_is_within kV_is_within doc_is_within pm_is_within ct_is_within : Value} {od_is_within an_is_within : Option Addr} {sl_is_within : Array (Option Value)} {cdv_is_within : Value} {A_bag : Addr} {oc_bag kV_bag doc_bag pm_bag ct_bag : Value} {od_bag an_bag : Option Addr} {sl_bag : Array (Option Value)} {cdv_bag : Value} {A_draw : Addr} {oc_draw kV_draw doc_draw pm_draw ct_draw : Value} {od_draw an_draw : Option Addr} {sl_draw : Array (Option Value)} {cdv_draw : Value} {A_of : Addr} {oc_of kV_of doc_of pm_of ct_of : Value} {od_of an_of : Option Addr} {sl_of : Array (Option Value)} {cdv_of : Value} {A_like : Addr} {oc_like kV_like doc_like pm_like ct_like : Value} {od_like an_like : Option Addr} {sl_like : Array (Option Value)} {cdv_like : Value} {A_odd : Addr} {oc_odd kV_odd doc_odd pm_odd ct_odd : Value} {od_odd an_odd : Option Addr} {sl_odd : Array (Option Value)} {cdv_odd : Value} {A_ask : Addr} {oc_ask kV_ask doc_ask pm_ask ct_ask : Value} {od_ask an_ask : Option Addr} {sl_ask : Array (Option Value)} {cdv_ask : Value} {A_in : Addr} {oc_in kV_in doc_in pm_in ct_in : Value} {od_in an_in : Option Addr} {sl_in : Array (Option Value)} {cdv_in : Value} {A_named : Addr} {oc_named kV_named doc_named pm_named ct_named : Value} {od_named an_named : Option Addr} {sl_named : Array (Option Value)} {cdv_named : Value} {A_wrong : Addr} {oc_wrong kV_wrong doc_wrong pm_wrong ct_wrong : Value} {od_wrong an_wrong : Option Addr} {sl_wrong : Array (Option Value)} {cdv_wrong : Value} {A_given : Addr} {oc_given kV_given doc_given pm_given ct_given : Value} {od_given an_given : Option Addr} {sl_given : Array (Option Value)} {cdv_given : Value} {A_ladder_due : Addr} {oc_ladder_due kV_ladder_due doc_ladder_due pm_ladder_due ct_ladder_due : Value} {od_ladder_due an_ladder_due : Option Addr} {sl_ladder_due : Array (Option Value)} {cdv_ladder_due : Value} {A_rules_so : Addr} {oc_rules_so kV_rules_so doc_rules_so pm_rules_so ct_rules_so : Value} {od_rules_so an_rules_so : Option Addr} {sl_rules_so : Array (Option Value)} {cdv_rules_so : Value} {A_let : Addr} {oc_let kV_let doc_let pm_let ct_let : Value} {od_let an_let : Option Addr} {sl_let : Array (Option Value)} {cdv_let : Value} {A_asked_so : Addr} {oc_asked_so kV_asked_so doc_asked_so pm_asked_so ct_asked_so : Value} {od_asked_so an_asked_so : Option Addr} {sl_asked_so : Array (Option Value)} {cdv_asked_so : Value} {A_one_rule_so : Addr} {oc_one_rule_so kV_one_rule_so doc_one_rule_so pm_one_rule_so ct_one_rule_so : Value} {od_one_rule_so an_one_rule_so : Option Addr} {sl_one_rule_so : Array (Option Value)} {cda_one_rule_so tb_one_rule_so : Addr} {tcl_one_rule_so : Value} {tcd_one_rule_so : Option Addr} {tvs_one_rule_so : Array Value} {tsl_one_rule_so : Array (Option Value)} {A_law : Addr} {oc_law kV_law doc_law pm_law ct_law : Value} {od_law an_law : Option Addr} {sl_law : Array (Option Value)} {cda_law tb_law : Addr} {tcl_law : Value} {tcd_law : Option Addr} {tvs_law : Array Value} {tsl_law : Array (Option Value)} {t_BORDERS : Tok} {t_DIGITS : Tok} {t_LETTERS : Tok} {nm_InvalidName q_InvalidName : Str} {N_InvalidName : Addr} {bs_InvalidName : List Value} {sn_InvalidName : List Str} {sb_InvalidName : List Value} {ab_InvalidName : Bool} {co_InvalidName : Option Bool} {dd_InvalidName : Option Addr} {e0_InvalidName e1_InvalidName e2_InvalidName e3_InvalidName e5_InvalidName : Option Value} {nm_InvalidNumber q_InvalidNumber : Str} {N_InvalidNumber : Addr} {bs_InvalidNumber : List Value} {sn_InvalidNumber : List Str} {sb_InvalidNumber : List Value} {ab_InvalidNumber : Bool} {co_InvalidNumber : Option Bool} {dd_InvalidNumber : Option Addr} {e0_InvalidNumber e1_InvalidNumber e2_InvalidNumber e3_InvalidNumber e5_InvalidNumber : Option Value} {nm_InvalidRest q_InvalidRest : Str} {N_InvalidRest : Addr} {bs_InvalidRest : List Value} {sn_InvalidRest : List Str} {sb_InvalidRest : List Value} {ab_InvalidRest : Bool} {co_InvalidRest : Option Bool} {dd_InvalidRest : Option Addr} {e0_InvalidRest e1_InvalidRest e2_InvalidRest e3_InvalidRest e5_InvalidRest : Option Value}
    (aC_Rest : PySem.W.nsIn K mainGlobals "Rest" = some (some (.ref C_Rest))) (aC_Window : PySem.W.nsIn K mainGlobals "Window" = some (some (.ref C_Window))) (aC_Days : PySem.W.nsIn K mainGlobals "Days" = some (some (.ref C_Days))) (aC_SureletError : PySem.W.nsIn K mainGlobals "SureletError" = some (some (.ref C_SureletError))) (aC_InvalidName : PySem.W.nsIn K mainGlobals "InvalidName" = some (some (.ref C_InvalidName))) (aC_InvalidNumber : PySem.W.nsIn K mainGlobals "InvalidNumber" = some (some (.ref C_InvalidNumber))) (aC_InvalidRest : PySem.W.nsIn K mainGlobals "InvalidRest" = some (some (.ref C_InvalidRest))) (aC_Rule : PySem.W.nsIn K mainGlobals "Rule" = some (some (.ref C_Rule))) (a_InvalidNumber_init : PySem.W.findIn K (.ref C_InvalidNumber) "__init__" = some (some (.ref A_InvalidNumber_init))) (i_InvalidNumber_init : PySem.W.isFn K (.ref A_InvalidNumber_init) = true) (l_InvalidNumber_init : K.lookup A_InvalidNumber_init = some ⟨oc_InvalidNumber_init, od_InvalidNumber_init, .func (PySem.W.fnX "__init__" "InvalidNumber.__init__" (defArgs s_InvalidNumber_init) (defBody s_InvalidNumber_init) (defScope s_InvalidNumber_init) [("__class__", cc_InvalidNumber_init)] .none kV_InvalidNumber_init doc_InvalidNumber_init pm_InvalidNumber_init an_InvalidNumber_init (.ref cda_InvalidNumber_init) ct_InvalidNumber_init), sl_InvalidNumber_init⟩) (c_InvalidNumber_init : PySem.W.codeIn K (.ref cda_InvalidNumber_init) "InvalidNumber.__init__" = true) (k_InvalidNumber_init : PySem.W.keepIn K (.ref A_InvalidNumber_init) = true) (cell_InvalidNumber_init : K.lookup cc_InvalidNumber_init = some ⟨cl_InvalidNumber_init, cld_InvalidNumber_init, .cell (some (.ref C_InvalidNumber)), csl_InvalidNumber_init⟩) (code_InvalidNumber_init : K.lookup cda_InvalidNumber_init = some ⟨ccl_InvalidNumber_init, cdd_InvalidNumber_init, .fields vs_InvalidNumber_init, ccs_InvalidNumber_init⟩) (vs_InvalidNumber_init : vs_InvalidNumber_init[2]? = some (.str file_InvalidNumber_init tf_InvalidNumber_init)) (fl_InvalidNumber_init : ((P.main.file : Str) == file_InvalidNumber_init) = true) (cd_InvalidNumber_init : PySem.W.clsIn K C_InvalidNumber = some cd_InvalidNumber_init) (a_InvalidName_init : PySem.W.findIn K (.ref C_InvalidName) "__init__" = some (some (.ref A_InvalidName_init))) (i_InvalidName_init : PySem.W.isFn K (.ref A_InvalidName_init) = true) (l_InvalidName_init : K.lookup A_InvalidName_init = some ⟨oc_InvalidName_init, od_InvalidName_init, .func (PySem.W.fnX "__init__" "InvalidName.__init__" (defArgs s_InvalidName_init) (defBody s_InvalidName_init) (defScope s_InvalidName_init) [("__class__", cc_InvalidName_init)] .none kV_InvalidName_init doc_InvalidName_init pm_InvalidName_init an_InvalidName_init (.ref cda_InvalidName_init) ct_InvalidName_init), sl_InvalidName_init⟩) (c_InvalidName_init : PySem.W.codeIn K (.ref cda_InvalidName_init) "InvalidName.__init__" = true) (k_InvalidName_init : PySem.W.keepIn K (.ref A_InvalidName_init) = true) (cell_InvalidName_init : K.lookup cc_InvalidName_init = some ⟨cl_InvalidName_init, cld_InvalidName_init, .cell (some (.ref C_InvalidName)), csl_InvalidName_init⟩) (code_InvalidName_init : K.lookup cda_InvalidName_init = some ⟨ccl_InvalidName_init, cdd_InvalidName_init, .fields vs_InvalidName_init, ccs_InvalidName_init⟩) (vs_InvalidName_init : vs_InvalidName_init[2]? = some (.str file_InvalidName_init tf_InvalidName_init)) (fl_InvalidName_init : ((P.main.file : Str) == file_InvalidName_init) = true) (cd_InvalidName_init : PySem.W.clsIn K C_InvalidName = some cd_InvalidName_init) (a_InvalidRest_init : PySem.W.findIn K (.ref C_InvalidRest) "__init__" = some (some (.ref A_InvalidRest_init))) (i_InvalidRest_init : PySem.W.isFn K (.ref A_InvalidRest_init) = true) (l_InvalidRest_init : K.lookup A_InvalidRest_init = some ⟨oc_InvalidRest_init, od_InvalidRest_init, .func (PySem.W.fnX "__init__" "InvalidRest.__init__" (defArgs s_InvalidRest_init) (defBody s_InvalidRest_init) (defScope s_InvalidRest_init) [("__class__", cc_InvalidRest_init)] .none kV_InvalidRest_init doc_InvalidRest_init pm_InvalidRest_init an_InvalidRest_init (.ref cda_InvalidRest_init) ct_InvalidRest_init), sl_InvalidRest_init⟩) (c_InvalidRest_init : PySem.W.codeIn K (.ref cda_InvalidRest_init) "InvalidRest.__init__" = true) (k_InvalidRest_init : PySem.W.keepIn K (.ref A_InvalidRest_init) = true) (cell_InvalidRest_init : K.lookup cc_InvalidRest_init = some ⟨cl_InvalidRest_init, cld_InvalidRest_init, .cell (some (.ref C_InvalidRest)), csl_InvalidRest_init⟩) (code_InvalidRest_init : K.lookup cda_InvalidRest_init = some ⟨ccl_InvalidRest_init, cdd_InvalidRest_init, .fields vs_InvalidRest_init, ccs_InvalidRest_init⟩) (vs_InvalidRest_init : vs_InvalidRest_init[2]? = some (.str file_InvalidRest_init tf_InvalidRest_init)) (fl_InvalidRest_init : ((P.main.file : Str) == file_InvalidRest_init) = true) (cd_InvalidRest_init : PySem.W.clsIn K C_InvalidRest = some cd_InvalidRest_init) (a_is_number : PySem.W.nsIn K mainGlobals "is_number" = some (some (.ref A_is_number))) (l_is_number : K.lookup A_is_number = some ⟨oc_is_number, od_is_number, .func (PySem.W.fnOf "is_number" "is_number" (defArgs s_is_number) (defBody s_is_number) (defScope s_is_number) .none kV_is_number doc_is_number pm_is_number an_is_number cdv_is_number ct_is_number), sl_is_number⟩) (c_is_number : PySem.W.codeIn K cdv_is_number "is_number" = true) (k_is_number : PySem.W.keepIn K (.ref A_is_number) = true) (a_is_name : PySem.W.nsIn K mainGlobals "is_name" = some (some (.ref A_is_name))) (l_is_name : K.lookup A_is_name = some ⟨oc_is_name, od_is_name, .func (PySem.W.fnOf "is_name" "is_name" (defArgs s_is_name) (defBody s_is_name) (defScope s_is_name) .none kV_is_name doc_is_name pm_is_name an_is_name cdv_is_name ct_is_name), sl_is_name⟩) (c_is_name : PySem.W.codeIn K cdv_is_name "is_name" = true) (k_is_name : PySem.W.keepIn K (.ref A_is_name) = true) (a_Rest_init : PySem.W.findIn K (.ref C_Rest) "__init__" = some (some (.ref A_Rest_init))) (i_Rest_init : PySem.W.isFn K (.ref A_Rest_init) = true) (l_Rest_init : K.lookup A_Rest_init = some ⟨oc_Rest_init, od_Rest_init, .func (PySem.W.fnOf "__init__" "Rest.__init__" (defArgs s_Rest_init) (defBody s_Rest_init) (defScope s_Rest_init) .none kV_Rest_init doc_Rest_init pm_Rest_init an_Rest_init cdv_Rest_init ct_Rest_init), sl_Rest_init⟩) (c_Rest_init : PySem.W.codeIn K cdv_Rest_init "Rest.__init__" = true) (k_Rest_init : PySem.W.keepIn K (.ref A_Rest_init) = true) (a_Rest_call : PySem.W.findIn K (.ref C_Rest) "__call__" = some (some (.ref A_Rest_call))) (i_Rest_call : PySem.W.isFn K (.ref A_Rest_call) = true) (l_Rest_call : K.lookup A_Rest_call = some ⟨oc_Rest_call, od_Rest_call, .func (PySem.W.fnOf "__call__" "Rest.__call__" (defArgs s_Rest_call) (defBody s_Rest_call) (defScope s_Rest_call) .none kV_Rest_call doc_Rest_call pm_Rest_call an_Rest_call cdv_Rest_call ct_Rest_call), sl_Rest_call⟩) (c_Rest_call : PySem.W.codeIn K cdv_Rest_call "Rest.__call__" = true) (k_Rest_call : PySem.W.keepIn K (.ref A_Rest_call) = true) (a_Rest_written : PySem.W.findIn K (.ref C_Rest) "written" = some (some (.ref A_Rest_written))) (i_Rest_written : PySem.W.isFn K (.ref A_Rest_written) = true) (l_Rest_written : K.lookup A_Rest_written = some ⟨oc_Rest_written, od_Rest_written, .func (PySem.W.fnOf "written" "Rest.written" (defArgs s_Rest_written) (defBody s_Rest_written) (defScope s_Rest_written) .none kV_Rest_written doc_Rest_written pm_Rest_written an_Rest_written cdv_Rest_written ct_Rest_written), sl_Rest_written⟩) (c_Rest_written : PySem.W.codeIn K cdv_Rest_written "Rest.written" = true) (k_Rest_written : PySem.W.keepIn K (.ref A_Rest_written) = true) (a_Rest_eq : PySem.W.findIn K (.ref C_Rest) "__eq__" = some (some (.ref A_Rest_eq))) (i_Rest_eq : PySem.W.isFn K (.ref A_Rest_eq) = true) (l_Rest_eq : K.lookup A_Rest_eq = some ⟨oc_Rest_eq, od_Rest_eq, .func (PySem.W.fnOf "__eq__" "Rest.__eq__" (defArgs s_Rest_eq) (defBody s_Rest_eq) (defScope s_Rest_eq) .none kV_Rest_eq doc_Rest_eq pm_Rest_eq an_Rest_eq cdv_Rest_eq ct_Rest_eq), sl_Rest_eq⟩) (c_Rest_eq : PySem.W.codeIn K cdv_Rest_eq "Rest.__eq__" = true) (k_Rest_eq : PySem.W.keepIn K (.ref A_Rest_eq) = true) (a_Window_init : PySem.W.findIn K (.ref C_Window) "__init__" = some (some (.ref A_Window_init))) (i_Window_init : PySem.W.isFn K (.ref A_Window_init) = true) (l_Window_init : K.lookup A_Window_init = some ⟨oc_Window_init, od_Window_init, .func (PySem.W.fnX "__init__" "Window.__init__" (defArgs s_Window_init) (defBody s_Window_init) (defScope s_Window_init) [("__class__", cc_Window_init)] .none kV_Window_init doc_Window_init pm_Window_init an_Window_init (.ref cda_Window_init) ct_Window_init), sl_Window_init⟩) (c_Window_init : PySem.W.codeIn K (.ref cda_Window_init) "Window.__init__" = true) (k_Window_init : PySem.W.keepIn K (.ref A_Window_init) = true) (cell_Window_init : K.lookup cc_Window_init = some ⟨cl_Window_init, cld_Window_init, .cell (some (.ref C_Window)), csl_Window_init⟩) (code_Window_init : K.lookup cda_Window_init = some ⟨ccl_Window_init, cdd_Window_init, .fields vs_Window_init, ccs_Window_init⟩) (vs_Window_init : vs_Window_init[2]? = some (.str file_Window_init tf_Window_init)) (fl_Window_init : ((P.main.file : Str) == file_Window_init) = true) (cd_Window_init : PySem.W.clsIn K C_Window = some cd_Window_init) (a_Window_after : PySem.W.findIn K (.ref C_Window) "_after" = some (some (.ref A_Window_after))) (i_Window_after : PySem.W.isFn K (.ref A_Window_after) = true) (l_Window_after : K.lookup A_Window_after = some ⟨oc_Window_after, od_Window_after, .func (PySem.W.fnOf "_after" "Window._after" (defArgs s_Window_after) (defBody s_Window_after) (defScope s_Window_after) .none kV_Window_after doc_Window_after pm_Window_after an_Window_after cdv_Window_after ct_Window_after), sl_Window_after⟩) (c_Window_after : PySem.W.codeIn K cdv_Window_after "Window._after" = true) (k_Window_after : PySem.W.keepIn K (.ref A_Window_after) = true) (a_Days_init : PySem.W.findIn K (.ref C_Days) "__init__" = some (some (.ref A_Days_init))) (i_Days_init : PySem.W.isFn K (.ref A_Days_init) = true) (l_Days_init : K.lookup A_Days_init = some ⟨oc_Days_init, od_Days_init, .func (PySem.W.fnX "__init__" "Days.__init__" (defArgs s_Days_init) (defBody s_Days_init) (defScope s_Days_init) [("__class__", cc_Days_init)] .none kV_Days_init doc_Days_init pm_Days_init an_Days_init (.ref cda_Days_init) ct_Days_init), sl_Days_init⟩) (c_Days_init : PySem.W.codeIn K (.ref cda_Days_init) "Days.__init__" = true) (k_Days_init : PySem.W.keepIn K (.ref A_Days_init) = true) (cell_Days_init : K.lookup cc_Days_init = some ⟨cl_Days_init, cld_Days_init, .cell (some (.ref C_Days)), csl_Days_init⟩) (code_Days_init : K.lookup cda_Days_init = some ⟨ccl_Days_init, cdd_Days_init, .fields vs_Days_init, ccs_Days_init⟩) (vs_Days_init : vs_Days_init[2]? = some (.str file_Days_init tf_Days_init)) (fl_Days_init : ((P.main.file : Str) == file_Days_init) = true) (cd_Days_init : PySem.W.clsIn K C_Days = some cd_Days_init) (a_Days_after : PySem.W.findIn K (.ref C_Days) "_after" = some (some (.ref A_Days_after))) (i_Days_after : PySem.W.isFn K (.ref A_Days_after) = true) (l_Days_after : K.lookup A_Days_after = some ⟨oc_Days_after, od_Days_after, .func (PySem.W.fnOf "_after" "Days._after" (defArgs s_Days_after) (defBody s_Days_after) (defScope s_Days_after) .none kV_Days_after doc_Days_after pm_Days_after an_Days_after cdv_Days_after ct_Days_after), sl_Days_after⟩) (c_Days_after : PySem.W.codeIn K cdv_Days_after "Days._after" = true) (k_Days_after : PySem.W.keepIn K (.ref A_Days_after) = true) (a_Rule_init : PySem.W.findIn K (.ref C_Rule) "__init__" = some (some (.ref A_Rule_init))) (i_Rule_init : PySem.W.isFn K (.ref A_Rule_init) = true) (l_Rule_init : K.lookup A_Rule_init = some ⟨oc_Rule_init, od_Rule_init, .func (PySem.W.fnOf "__init__" "Rule.__init__" (defArgs s_Rule_init) (defBody s_Rule_init) (defScope s_Rule_init) .none kV_Rule_init doc_Rule_init pm_Rule_init an_Rule_init cdv_Rule_init ct_Rule_init), sl_Rule_init⟩) (c_Rule_init : PySem.W.codeIn K cdv_Rule_init "Rule.__init__" = true) (k_Rule_init : PySem.W.keepIn K (.ref A_Rule_init) = true) (a_Rule_str : PySem.W.findIn K (.ref C_Rule) "__str__" = some (some (.ref A_Rule_str))) (i_Rule_str : PySem.W.isFn K (.ref A_Rule_str) = true) (l_Rule_str : K.lookup A_Rule_str = some ⟨oc_Rule_str, od_Rule_str, .func (PySem.W.fnOf "__str__" "Rule.__str__" (defArgs s_Rule_str) (defBody s_Rule_str) (defScope s_Rule_str) .none kV_Rule_str doc_Rule_str pm_Rule_str an_Rule_str cdv_Rule_str ct_Rule_str), sl_Rule_str⟩) (c_Rule_str : PySem.W.codeIn K cdv_Rule_str "Rule.__str__" = true) (k_Rule_str : PySem.W.keepIn K (.ref A_Rule_str) = true) (a_Rule_eq : PySem.W.findIn K (.ref C_Rule) "__eq__" = some (some (.ref A_Rule_eq))) (i_Rule_eq : PySem.W.isFn K (.ref A_Rule_eq) = true) (l_Rule_eq : K.lookup A_Rule_eq = some ⟨oc_Rule_eq, od_Rule_eq, .func (PySem.W.fnOf "__eq__" "Rule.__eq__" (defArgs s_Rule_eq) (defBody s_Rule_eq) (defScope s_Rule_eq) .none kV_Rule_eq doc_Rule_eq pm_Rule_eq an_Rule_eq cdv_Rule_eq ct_Rule_eq), sl_Rule_eq⟩) (c_Rule_eq : PySem.W.codeIn K cdv_Rule_eq "Rule.__eq__" = true) (k_Rule_eq : PySem.W.keepIn K (.ref A_Rule_eq) = true) (a_ladder : PySem.W.nsIn K mainGlobals "ladder" = some (some (.ref A_ladder))) (l_ladder : K.lookup A_ladder = some ⟨oc_ladder, od_ladder, .func (PySem.W.fnOf "ladder" "ladder" (defArgs s_ladder) (defBody s_ladder) (defScope s_ladder) .none kV_ladder doc_ladder pm_ladder an_ladder cdv_ladder ct_ladder), sl_ladder⟩) (c_ladder : PySem.W.codeIn K cdv_ladder "ladder" = true) (k_ladder : PySem.W.keepIn K (.ref A_ladder) = true) (a_fullest : PySem.W.nsIn K mainGlobals "fullest" = some (some (.ref A_fullest))) (l_fullest : K.lookup A_fullest = some ⟨oc_fullest, od_fullest, .func (PySem.W.fnOf "fullest" "fullest" (defArgs s_fullest) (defBody s_fullest) (defScope s_fullest) .none kV_fullest doc_fullest pm_fullest an_fullest cdv_fullest ct_fullest), sl_fullest⟩) (c_fullest : PySem.W.codeIn K cdv_fullest "fullest" = true) (k_fullest : PySem.W.keepIn K (.ref A_fullest) = true) (a_is_within : PySem.W.nsIn K mainGlobals "is_within" = some (some (.ref A_is_within))) (l_is_within : K.lookup A_is_within = some ⟨oc_is_within, od_is_within, .func (PySem.W.fnOf "is_within" "is_within" (defArgs s_is_within) (defBody s_is_within) (defScope s_is_within) .none kV_is_within doc_is_within pm_is_within an_is_within cdv_is_within ct_is_within), sl_is_within⟩) (c_is_within : PySem.W.codeIn K cdv_is_within "is_within" = true) (k_is_within : PySem.W.keepIn K (.ref A_is_within) = true) (a_bag : PySem.W.nsIn K mainGlobals "_law_bag" = some (some (.ref A_bag))) (l_bag : K.lookup A_bag = some ⟨oc_bag, od_bag, .func (PySem.W.fnOf "_law_bag" "_law_bag" (defArgs s_bag) (defBody s_bag) (defScope s_bag) .none kV_bag doc_bag pm_bag an_bag cdv_bag ct_bag), sl_bag⟩) (c_bag : PySem.W.codeIn K cdv_bag "_law_bag" = true) (k_bag : PySem.W.keepIn K (.ref A_bag) = true) (a_draw : PySem.W.nsIn K mainGlobals "_law_draw" = some (some (.ref A_draw))) (l_draw : K.lookup A_draw = some ⟨oc_draw, od_draw, .func (PySem.W.fnOf "_law_draw" "_law_draw" (defArgs s_draw) (defBody s_draw) (defScope s_draw) .none kV_draw doc_draw pm_draw an_draw cdv_draw ct_draw), sl_draw⟩) (c_draw : PySem.W.codeIn K cdv_draw "_law_draw" = true) (k_draw : PySem.W.keepIn K (.ref A_draw) = true) (a_of : PySem.W.nsIn K mainGlobals "_law_of" = some (some (.ref A_of))) (l_of : K.lookup A_of = some ⟨oc_of, od_of, .func (PySem.W.fnOf "_law_of" "_law_of" (defArgs s_of) (defBody s_of) (defScope s_of) .none kV_of doc_of pm_of an_of cdv_of ct_of), sl_of⟩) (c_of : PySem.W.codeIn K cdv_of "_law_of" = true) (k_of : PySem.W.keepIn K (.ref A_of) = true) (a_like : PySem.W.nsIn K mainGlobals "_law_like" = some (some (.ref A_like))) (l_like : K.lookup A_like = some ⟨oc_like, od_like, .func (PySem.W.fnOf "_law_like" "_law_like" (defArgs s_like) (defBody s_like) (defScope s_like) .none kV_like doc_like pm_like an_like cdv_like ct_like), sl_like⟩) (c_like : PySem.W.codeIn K cdv_like "_law_like" = true) (k_like : PySem.W.keepIn K (.ref A_like) = true) (a_odd : PySem.W.nsIn K mainGlobals "_law_odd" = some (some (.ref A_odd))) (l_odd : K.lookup A_odd = some ⟨oc_odd, od_odd, .func (PySem.W.fnOf "_law_odd" "_law_odd" (defArgs s_odd) (defBody s_odd) (defScope s_odd) .none kV_odd doc_odd pm_odd an_odd cdv_odd ct_odd), sl_odd⟩) (c_odd : PySem.W.codeIn K cdv_odd "_law_odd" = true) (k_odd : PySem.W.keepIn K (.ref A_odd) = true) (a_ask : PySem.W.nsIn K mainGlobals "_law_ask" = some (some (.ref A_ask))) (l_ask : K.lookup A_ask = some ⟨oc_ask, od_ask, .func (PySem.W.fnOf "_law_ask" "_law_ask" (defArgs s_ask) (defBody s_ask) (defScope s_ask) .none kV_ask doc_ask pm_ask an_ask cdv_ask ct_ask), sl_ask⟩) (c_ask : PySem.W.codeIn K cdv_ask "_law_ask" = true) (k_ask : PySem.W.keepIn K (.ref A_ask) = true) (a_in : PySem.W.nsIn K mainGlobals "_law_in" = some (some (.ref A_in))) (l_in : K.lookup A_in = some ⟨oc_in, od_in, .func (PySem.W.fnOf "_law_in" "_law_in" (defArgs s_in) (defBody s_in) (defScope s_in) .none kV_in doc_in pm_in an_in cdv_in ct_in), sl_in⟩) (c_in : PySem.W.codeIn K cdv_in "_law_in" = true) (k_in : PySem.W.keepIn K (.ref A_in) = true) (a_named : PySem.W.nsIn K mainGlobals "_law_named" = some (some (.ref A_named))) (l_named : K.lookup A_named = some ⟨oc_named, od_named, .func (PySem.W.fnOf "_law_named" "_law_named" (defArgs s_named) (defBody s_named) (defScope s_named) .none kV_named doc_named pm_named an_named cdv_named ct_named), sl_named⟩) (c_named : PySem.W.codeIn K cdv_named "_law_named" = true) (k_named : PySem.W.keepIn K (.ref A_named) = true) (a_wrong : PySem.W.nsIn K mainGlobals "_law_wrong" = some (some (.ref A_wrong))) (l_wrong : K.lookup A_wrong = some ⟨oc_wrong, od_wrong, .func (PySem.W.fnOf "_law_wrong" "_law_wrong" (defArgs s_wrong) (defBody s_wrong) (defScope s_wrong) .none kV_wrong doc_wrong pm_wrong an_wrong cdv_wrong ct_wrong), sl_wrong⟩) (c_wrong : PySem.W.codeIn K cdv_wrong "_law_wrong" = true) (k_wrong : PySem.W.keepIn K (.ref A_wrong) = true) (a_given : PySem.W.nsIn K mainGlobals "_law_given" = some (some (.ref A_given))) (l_given : K.lookup A_given = some ⟨oc_given, od_given, .func (PySem.W.fnOf "_law_given" "_law_given" (defArgs s_given) (defBody s_given) (defScope s_given) .none kV_given doc_given pm_given an_given cdv_given ct_given), sl_given⟩) (c_given : PySem.W.codeIn K cdv_given "_law_given" = true) (k_given : PySem.W.keepIn K (.ref A_given) = true) (a_ladder_due : PySem.W.nsIn K mainGlobals "_law_ladder_due" = some (some (.ref A_ladder_due))) (l_ladder_due : K.lookup A_ladder_due = some ⟨oc_ladder_due, od_ladder_due, .func (PySem.W.fnOf "_law_ladder_due" "_law_ladder_due" (defArgs s_ladder_due) (defBody s_ladder_due) (defScope s_ladder_due) .none kV_ladder_due doc_ladder_due pm_ladder_due an_ladder_due cdv_ladder_due ct_ladder_due), sl_ladder_due⟩) (c_ladder_due : PySem.W.codeIn K cdv_ladder_due "_law_ladder_due" = true) (k_ladder_due : PySem.W.keepIn K (.ref A_ladder_due) = true) (a_rules_so : PySem.W.nsIn K mainGlobals "_law_rules_so" = some (some (.ref A_rules_so))) (l_rules_so : K.lookup A_rules_so = some ⟨oc_rules_so, od_rules_so, .func (PySem.W.fnOf "_law_rules_so" "_law_rules_so" (defArgs s_rules_so) (defBody s_rules_so) (defScope s_rules_so) .none kV_rules_so doc_rules_so pm_rules_so an_rules_so cdv_rules_so ct_rules_so), sl_rules_so⟩) (c_rules_so : PySem.W.codeIn K cdv_rules_so "_law_rules_so" = true) (k_rules_so : PySem.W.keepIn K (.ref A_rules_so) = true) (a_let : PySem.W.nsIn K mainGlobals "_law_let" = some (some (.ref A_let))) (l_let : K.lookup A_let = some ⟨oc_let, od_let, .func (PySem.W.fnOf "_law_let" "_law_let" (defArgs s_let) (defBody s_let) (defScope s_let) .none kV_let doc_let pm_let an_let cdv_let ct_let), sl_let⟩) (c_let : PySem.W.codeIn K cdv_let "_law_let" = true) (k_let : PySem.W.keepIn K (.ref A_let) = true) (a_asked_so : PySem.W.nsIn K mainGlobals "_law_asked_so" = some (some (.ref A_asked_so))) (l_asked_so : K.lookup A_asked_so = some ⟨oc_asked_so, od_asked_so, .func (PySem.W.fnOf "_law_asked_so" "_law_asked_so" (defArgs s_asked_so) (defBody s_asked_so) (defScope s_asked_so) .none kV_asked_so doc_asked_so pm_asked_so an_asked_so cdv_asked_so ct_asked_so), sl_asked_so⟩) (c_asked_so : PySem.W.codeIn K cdv_asked_so "_law_asked_so" = true) (k_asked_so : PySem.W.keepIn K (.ref A_asked_so) = true) (a_one_rule_so : PySem.W.nsIn K mainGlobals "_law_one_rule_so" = some (some (.ref A_one_rule_so))) (l_one_rule_so : K.lookup A_one_rule_so = some ⟨oc_one_rule_so, od_one_rule_so, .func (PySem.W.fnOf "_law_one_rule_so" "_law_one_rule_so" (defArgs s_one_rule_so) (defBody s_one_rule_so) (defScope s_one_rule_so) .none kV_one_rule_so doc_one_rule_so pm_one_rule_so an_one_rule_so (.ref cda_one_rule_so) ct_one_rule_so), sl_one_rule_so⟩) (c_one_rule_so : PySem.W.codeIn K (.ref cda_one_rule_so) "_law_one_rule_so" = true) (k_one_rule_so : PySem.W.keepIn K (.ref A_one_rule_so) = true) (td_one_rule_so : K.lookup cda_one_rule_so = some ⟨tcl_one_rule_so, tcd_one_rule_so, .fields tvs_one_rule_so, tsl_one_rule_so⟩) (tp_one_rule_so : tvs_one_rule_so[11]? = some (.ref tb_one_rule_so)) (tn_one_rule_so : K.lookup tb_one_rule_so = none) (a_law : PySem.W.nsIn K mainGlobals "law" = some (some (.ref A_law))) (l_law : K.lookup A_law = some ⟨oc_law, od_law, .func (PySem.W.fnOf "law" "law" (defArgs s_law) (defBody s_law) (defScope s_law) .none kV_law doc_law pm_law an_law (.ref cda_law) ct_law), sl_law⟩) (c_law : PySem.W.codeIn K (.ref cda_law) "law" = true) (k_law : PySem.W.keepIn K (.ref A_law) = true) (td_law : K.lookup cda_law = some ⟨tcl_law, tcd_law, .fields tvs_law, tsl_law⟩) (tp_law : tvs_law[11]? = some (.ref tb_law)) (tn_law : K.lookup tb_law = none) (tne_one_rule_so_law : tb_one_rule_so ≠ tb_law) (top_super : (P.main.scope.names.lookup ("super" : Str)).isSome = false) (st_thirdparty : PySem.W.nsIn K cStatics "thirdparty.any" = some none) (z_all : PySem.W.nsIn K mainGlobals "all" = some none) (z_bool : PySem.W.nsIn K mainGlobals "bool" = some none) (z_dict : PySem.W.nsIn K mainGlobals "dict" = some none) (z_enumerate : PySem.W.nsIn K mainGlobals "enumerate" = some none) (z_int : PySem.W.nsIn K mainGlobals "int" = some none) (z_isinstance : PySem.W.nsIn K mainGlobals "isinstance" = some none) (z_len : PySem.W.nsIn K mainGlobals "len" = some none) (z_list : PySem.W.nsIn K mainGlobals "list" = some none) (z_max : PySem.W.nsIn K mainGlobals "max" = some none) (z_range : PySem.W.nsIn K mainGlobals "range" = some none) (z_sorted : PySem.W.nsIn K mainGlobals "sorted" = some none) (z_str : PySem.W.nsIn K mainGlobals "str" = some none) (z_super : PySem.W.nsIn K mainGlobals "super" = some none) (z_tuple : PySem.W.nsIn K mainGlobals "tuple" = some none) (z_zip : PySem.W.nsIn K mainGlobals "zip" = some none) (ac_BORDERS : PySem.W.nsIn K mainGlobals "BORDERS" = some (some (.int 12 t_BORDERS))) (ac_DIGITS : PySem.W.nsIn K mainGlobals "DIGITS" = some (some (.str "0123456789" t_DIGITS))) (ac_LETTERS : PySem.W.nsIn K mainGlobals "LETTERS" = some (some (.str "abcdefghijklmnopqrstuvwxyz" t_LETTERS))) (kb_int_Rest : PySem.W.kitOne K (.type "int") (.ref C_Rest) = some false) (kb_bool_Rest : PySem.W.kitOne K (.type "bool") (.ref C_Rest) = some false) (kb_str_Rest : PySem.W.kitOne K (.type "str") (.ref C_Rest) = some false) (kb_NoneType_Rest : PySem.W.kitOne K (.type "NoneType") (.ref C_Rest) = some false) (kb_list_Rest : PySem.W.kitOne K (.type "list") (.ref C_Rest) = some false) (kb_tuple_Rest : PySem.W.kitOne K (.type "tuple") (.ref C_Rest) = some false) (kb_dict_Rest : PySem.W.kitOne K (.type "dict") (.ref C_Rest) = some false) (pg_Window : PySem.W.plainGet K C_Window Str.empty = true) (hd_Window : PySem.W.hasDictIn K C_Window = true) (po_Window : PySem.W.plainOver K C_Window = true) (sa_Window : PySem.W.findIn K (.ref C_Window) "__setattr__" = some (some (.builtin "object.__setattr__"))) (mk_Window : PySem.W.makesIn K C_Window = true) (kc_Window : PySem.W.keepIn K (.ref C_Window) = true) (th_Window : PySem.W.findIn K (.ref C_Window) "__class__" = some (some (.builtin "object.__class__"))) (tn_Window : PySem.W.specialIn K (.builtin "object.__class__") "__get__" = some (some (.builtin "getset_descriptor.__get__"))) (tk_Window : PySem.W.takesIn K (.builtin "object.__class__") = some true) (tm_Window : PySem.W.mroIn K C_Window (.type "object") = some true) (kt_Window_Rest : PySem.W.kitOne K (.ref C_Window) (.ref C_Rest) = some true) (kt_Window_Window : PySem.W.kitOne K (.ref C_Window) (.ref C_Window) = some true) (su_Window : PySem.W.mroIn K C_Window (.ref C_Window) = some true) (sm_Window : PySem.W.ks_superIn K C_Window C_Window "__init__" = some (some (.ref A_Rest_init))) (sf_Window : PySem.W.fnIn K A_Rest_init = true) (st_Window : PySem.W.typeIn K (.ref A_Rest_init) = some (.type "function")) (no_Window_text : PySem.W.findIn K (.ref C_Window) "_text" = some none) (no_Window_forms : PySem.W.findIn K (.ref C_Window) "_forms" = some none) (no_Window_period : PySem.W.findIn K (.ref C_Window) "_period" = some none) (no_Window_bend : PySem.W.findIn K (.ref C_Window) "_bend" = some none) (no_Window_width : PySem.W.findIn K (.ref C_Window) "width" = some none) (me_Window_after : PySem.W.findIn K (.ref C_Window) "_after" = some (some (.ref A_Window_after))) (mi_Window_after : PySem.W.isFn K (.ref A_Window_after) = true) (me_Window_written : PySem.W.findIn K (.ref C_Window) "written" = some (some (.ref A_Rest_written))) (mi_Window_written : PySem.W.isFn K (.ref A_Rest_written) = true) (co_Window : PySem.W.findIn K (.ref C_Window) "__call__" = some (some (.ref A_Rest_call))) (ci_Window : PySem.W.isFn K (.ref A_Rest_call) = true) (cf_Window : PySem.W.fnIn K A_Rest_call = true) (eqf_Window : PySem.W.findIn K (.ref C_Window) "__eq__" = some (some (.ref A_Rest_eq))) (eqi_Window : PySem.W.isFn K (.ref A_Rest_eq) = true) (nf_Window_str : PySem.W.notFirst K C_Window (.type "str") = true) (nf_Window_int : PySem.W.notFirst K C_Window (.type "int") = true) (nf_Window : PySem.W.notFirst K C_Window (.ref C_Window) = true) (nf_Window_Days : PySem.W.notFirst K C_Window (.ref C_Days) = true) (kb_int_Window : PySem.W.kitOne K (.type "int") (.ref C_Window) = some false) (kb_bool_Window : PySem.W.kitOne K (.type "bool") (.ref C_Window) = some false) (kb_str_Window : PySem.W.kitOne K (.type "str") (.ref C_Window) = some false) (kb_NoneType_Window : PySem.W.kitOne K (.type "NoneType") (.ref C_Window) = some false) (kb_list_Window : PySem.W.kitOne K (.type "list") (.ref C_Window) = some false) (kb_tuple_Window : PySem.W.kitOne K (.type "tuple") (.ref C_Window) = some false) (kb_dict_Window : PySem.W.kitOne K (.type "dict") (.ref C_Window) = some false) (pg_Days : PySem.W.plainGet K C_Days Str.empty = true) (hd_Days : PySem.W.hasDictIn K C_Days = true) (po_Days : PySem.W.plainOver K C_Days = true) (sa_Days : PySem.W.findIn K (.ref C_Days) "__setattr__" = some (some (.builtin "object.__setattr__"))) (mk_Days : PySem.W.makesIn K C_Days = true) (kc_Days : PySem.W.keepIn K (.ref C_Days) = true) (th_Days : PySem.W.findIn K (.ref C_Days) "__class__" = some (some (.builtin "object.__class__"))) (tn_Days : PySem.W.specialIn K (.builtin "object.__class__") "__get__" = some (some (.builtin "getset_descriptor.__get__"))) (tk_Days : PySem.W.takesIn K (.builtin "object.__class__") = some true) (tm_Days : PySem.W.mroIn K C_Days (.type "object") = some true) (kt_Days_Rest : PySem.W.kitOne K (.ref C_Days) (.ref C_Rest) = some true) (kt_Days_Window : PySem.W.kitOne K (.ref C_Days) (.ref C_Window) = some false) (kt_Days_Days : PySem.W.kitOne K (.ref C_Days) (.ref C_Days) = some true) (su_Days : PySem.W.mroIn K C_Days (.ref C_Days) = some true) (sm_Days : PySem.W.ks_superIn K C_Days C_Days "__init__" = some (some (.ref A_Rest_init))) (sf_Days : PySem.W.fnIn K A_Rest_init = true) (st_Days : PySem.W.typeIn K (.ref A_Rest_init) = some (.type "function")) (no_Days_text : PySem.W.findIn K (.ref C_Days) "_text" = some none) (no_Days_forms : PySem.W.findIn K (.ref C_Days) "_forms" = some none) (no_Days_period : PySem.W.findIn K (.ref C_Days) "_period" = some none) (no_Days_bend : PySem.W.findIn K (.ref C_Days) "_bend" = some none) (no_Days_every : PySem.W.findIn K (.ref C_Days) "every" = some none) (no_Days_borders : PySem.W.findIn K (.ref C_Days) "_borders" = some none) (me_Days_after : PySem.W.findIn K (.ref C_Days) "_after" = some (some (.ref A_Days_after))) (mi_Days_after : PySem.W.isFn K (.ref A_Days_after) = true) (me_Days_written : PySem.W.findIn K (.ref C_Days) "written" = some (some (.ref A_Rest_written))) (mi_Days_written : PySem.W.isFn K (.ref A_Rest_written) = true) (co_Days : PySem.W.findIn K (.ref C_Days) "__call__" = some (some (.ref A_Rest_call))) (ci_Days : PySem.W.isFn K (.ref A_Rest_call) = true) (cf_Days : PySem.W.fnIn K A_Rest_call = true) (eqf_Days : PySem.W.findIn K (.ref C_Days) "__eq__" = some (some (.ref A_Rest_eq))) (eqi_Days : PySem.W.isFn K (.ref A_Rest_eq) = true) (nf_Days_str : PySem.W.notFirst K C_Days (.type "str") = true) (nf_Days_int : PySem.W.notFirst K C_Days (.type "int") = true) (nf_Days : PySem.W.notFirst K C_Days (.ref C_Days) = true) (nf_Days_Window : PySem.W.notFirst K C_Days (.ref C_Window) = true) (kb_int_Days : PySem.W.kitOne K (.type "int") (.ref C_Days) = some false) (kb_bool_Days : PySem.W.kitOne K (.type "bool") (.ref C_Days) = some false) (kb_str_Days : PySem.W.kitOne K (.type "str") (.ref C_Days) = some false) (kb_NoneType_Days : PySem.W.kitOne K (.type "NoneType") (.ref C_Days) = some false) (kb_list_Days : PySem.W.kitOne K (.type "list") (.ref C_Days) = some false) (kb_tuple_Days : PySem.W.kitOne K (.type "tuple") (.ref C_Days) = some false) (kb_dict_Days : PySem.W.kitOne K (.type "dict") (.ref C_Days) = some false) (el_InvalidName : K.lookup C_InvalidName = some (excClassObj nm_InvalidName q_InvalidName C_InvalidName N_InvalidName bs_InvalidName [.ref C_SureletError, .type "ValueError", .type "Exception", .type "BaseException", .type "object"] true sn_InvalidName sb_InvalidName ab_InvalidName co_InvalidName dd_InvalidName e0_InvalidName e1_InvalidName e2_InvalidName e3_InvalidName e5_InvalidName "ValueError.__new__")) (es_InvalidName : PySem.W.findIn K (.ref C_InvalidName) "__setattr__" = some (some (.builtin "object.__setattr__"))) (eb_InvalidName : PySem.W.subIn K (.ref C_InvalidName) (.type "BaseException") = some true) (et_InvalidName : PySem.W.typeIn K (.ref C_InvalidName) = some (.type "type")) (ek_InvalidName : PySem.W.keepIn K (.ref C_InvalidName) = true) (em_InvalidName : PySem.W.mroIn K C_InvalidName (.ref C_InvalidName) = some true) (eu_InvalidName : PySem.W.ks_superIn K C_InvalidName C_InvalidName "__init__" = some (some (.builtin "ValueError.__init__"))) (ev_InvalidName : PySem.W.subIn K (.ref C_InvalidName) (.type "ValueError") = some true) (ega_InvalidName : PySem.W.findIn K (.ref C_InvalidName) "__getattribute__" = some (some (.builtin "BaseException.__getattribute__"))) (egg_InvalidName : PySem.W.findIn K (.ref C_InvalidName) "__getattr__" = some none) (ehd_InvalidName : PySem.W.hasDictIn K C_InvalidName = true) (eti_InvalidName : PySem.W.typeIn K (.ref A_InvalidName_init) = some (.type "function")) (xb_InvalidName_InvalidName : PySem.W.subIn K (.ref C_InvalidName) (.type "BaseException") = some true) (xi_InvalidName_InvalidName : PySem.W.isClsIn K C_InvalidName = true) (xt_InvalidName_InvalidName : PySem.W.typeIn K (.ref C_InvalidName) = some (.type "type")) (xs_InvalidName_InvalidName : PySem.W.subIn K (.ref C_InvalidName) (.ref C_InvalidName) = some true) (no_InvalidName_value : PySem.W.findIn K (.ref C_InvalidName) "value" = some none) (no_InvalidName_code : PySem.W.findIn K (.ref C_InvalidName) "code" = some none) (el_InvalidNumber : K.lookup C_InvalidNumber = some (excClassObj nm_InvalidNumber q_InvalidNumber C_InvalidNumber N_InvalidNumber bs_InvalidNumber [.ref C_SureletError, .type "ValueError", .type "Exception", .type "BaseException", .type "object"] true sn_InvalidNumber sb_InvalidNumber ab_InvalidNumber co_InvalidNumber dd_InvalidNumber e0_InvalidNumber e1_InvalidNumber e2_InvalidNumber e3_InvalidNumber e5_InvalidNumber "ValueError.__new__")) (es_InvalidNumber : PySem.W.findIn K (.ref C_InvalidNumber) "__setattr__" = some (some (.builtin "object.__setattr__"))) (eb_InvalidNumber : PySem.W.subIn K (.ref C_InvalidNumber) (.type "BaseException") = some true) (et_InvalidNumber : PySem.W.typeIn K (.ref C_InvalidNumber) = some (.type "type")) (ek_InvalidNumber : PySem.W.keepIn K (.ref C_InvalidNumber) = true) (em_InvalidNumber : PySem.W.mroIn K C_InvalidNumber (.ref C_InvalidNumber) = some true) (eu_InvalidNumber : PySem.W.ks_superIn K C_InvalidNumber C_InvalidNumber "__init__" = some (some (.builtin "ValueError.__init__"))) (ev_InvalidNumber : PySem.W.subIn K (.ref C_InvalidNumber) (.type "ValueError") = some true) (ega_InvalidNumber : PySem.W.findIn K (.ref C_InvalidNumber) "__getattribute__" = some (some (.builtin "BaseException.__getattribute__"))) (egg_InvalidNumber : PySem.W.findIn K (.ref C_InvalidNumber) "__getattr__" = some none) (ehd_InvalidNumber : PySem.W.hasDictIn K C_InvalidNumber = true) (eti_InvalidNumber : PySem.W.typeIn K (.ref A_InvalidNumber_init) = some (.type "function")) (xb_InvalidNumber_InvalidName : PySem.W.subIn K (.ref C_InvalidName) (.type "BaseException") = some true) (xi_InvalidNumber_InvalidName : PySem.W.isClsIn K C_InvalidName = true) (xt_InvalidNumber_InvalidName : PySem.W.typeIn K (.ref C_InvalidName) = some (.type "type")) (xs_InvalidNumber_InvalidName : PySem.W.subIn K (.ref C_InvalidNumber) (.ref C_InvalidName) = some false) (xb_InvalidNumber_InvalidNumber : PySem.W.subIn K (.ref C_InvalidNumber) (.type "BaseException") = some true) (xi_InvalidNumber_InvalidNumber : PySem.W.isClsIn K C_InvalidNumber = true) (xt_InvalidNumber_InvalidNumber : PySem.W.typeIn K (.ref C_InvalidNumber) = some (.type "type")) (xs_InvalidNumber_InvalidNumber : PySem.W.subIn K (.ref C_InvalidNumber) (.ref C_InvalidNumber) = some true) (no_InvalidNumber_value : PySem.W.findIn K (.ref C_InvalidNumber) "value" = some none) (no_InvalidNumber_code : PySem.W.findIn K (.ref C_InvalidNumber) "code" = some none) (el_InvalidRest : K.lookup C_InvalidRest = some (excClassObj nm_InvalidRest q_InvalidRest C_InvalidRest N_InvalidRest bs_InvalidRest [.ref C_SureletError, .type "ValueError", .type "Exception", .type "BaseException", .type "object"] true sn_InvalidRest sb_InvalidRest ab_InvalidRest co_InvalidRest dd_InvalidRest e0_InvalidRest e1_InvalidRest e2_InvalidRest e3_InvalidRest e5_InvalidRest "ValueError.__new__")) (es_InvalidRest : PySem.W.findIn K (.ref C_InvalidRest) "__setattr__" = some (some (.builtin "object.__setattr__"))) (eb_InvalidRest : PySem.W.subIn K (.ref C_InvalidRest) (.type "BaseException") = some true) (et_InvalidRest : PySem.W.typeIn K (.ref C_InvalidRest) = some (.type "type")) (ek_InvalidRest : PySem.W.keepIn K (.ref C_InvalidRest) = true) (em_InvalidRest : PySem.W.mroIn K C_InvalidRest (.ref C_InvalidRest) = some true) (eu_InvalidRest : PySem.W.ks_superIn K C_InvalidRest C_InvalidRest "__init__" = some (some (.builtin "ValueError.__init__"))) (ev_InvalidRest : PySem.W.subIn K (.ref C_InvalidRest) (.type "ValueError") = some true) (ega_InvalidRest : PySem.W.findIn K (.ref C_InvalidRest) "__getattribute__" = some (some (.builtin "BaseException.__getattribute__"))) (egg_InvalidRest : PySem.W.findIn K (.ref C_InvalidRest) "__getattr__" = some none) (ehd_InvalidRest : PySem.W.hasDictIn K C_InvalidRest = true) (eti_InvalidRest : PySem.W.typeIn K (.ref A_InvalidRest_init) = some (.type "function")) (xb_InvalidRest_InvalidName : PySem.W.subIn K (.ref C_InvalidName) (.type "BaseException") = some true) (xi_InvalidRest_InvalidName : PySem.W.isClsIn K C_InvalidName = true) (xt_InvalidRest_InvalidName : PySem.W.typeIn K (.ref C_InvalidName) = some (.type "type")) (xs_InvalidRest_InvalidName : PySem.W.subIn K (.ref C_InvalidRest) (.ref C_InvalidName) = some false) (xb_InvalidRest_InvalidNumber : PySem.W.subIn K (.ref C_InvalidNumber) (.type "BaseException") = some true) (xi_InvalidRest_InvalidNumber : PySem.W.isClsIn K C_InvalidNumber = true) (xt_InvalidRest_InvalidNumber : PySem.W.typeIn K (.ref C_InvalidNumber) = some (.type "type")) (xs_InvalidRest_InvalidNumber : PySem.W.subIn K (.ref C_InvalidRest) (.ref C_InvalidNumber) = some false) (xb_InvalidRest_InvalidRest : PySem.W.subIn K (.ref C_InvalidRest) (.type "BaseException") = some true) (xi_InvalidRest_InvalidRest : PySem.W.isClsIn K C_InvalidRest = true) (xt_InvalidRest_InvalidRest : PySem.W.typeIn K (.ref C_InvalidRest) = some (.type "type")) (xs_InvalidRest_InvalidRest : PySem.W.subIn K (.ref C_InvalidRest) (.ref C_InvalidRest) = some true) (no_InvalidRest_value : PySem.W.findIn K (.ref C_InvalidRest) "value" = some none) (no_InvalidRest_code : PySem.W.findIn K (.ref C_InvalidRest) "code" = some none) (pg_Rule : PySem.W.plainGet K C_Rule Str.empty = true) (hd_Rule : PySem.W.hasDictIn K C_Rule = true) (po_Rule : PySem.W.plainOver K C_Rule = true) (sa_Rule : PySem.W.findIn K (.ref C_Rule) "__setattr__" = some (some (.builtin "object.__setattr__"))) (mk_Rule : PySem.W.makesIn K C_Rule = true) (kc_Rule : PySem.W.keepIn K (.ref C_Rule) = true) (th_Rule : PySem.W.findIn K (.ref C_Rule) "__class__" = some (some (.builtin "object.__class__"))) (tn_Rule : PySem.W.specialIn K (.builtin "object.__class__") "__get__" = some (some (.builtin "getset_descriptor.__get__"))) (tk_Rule : PySem.W.takesIn K (.builtin "object.__class__") = some true) (tm_Rule : PySem.W.mroIn K C_Rule (.type "object") = some true) (kt_Rule_Rule : PySem.W.kitOne K (.ref C_Rule) (.ref C_Rule) = some true) (strf_Rule : PySem.W.findIn K (.ref C_Rule) "__str__" = some (some (.ref A_Rule_str))) (stri_Rule : PySem.W.isFn K (.ref A_Rule_str) = true) (eqf_Rule : PySem.W.findIn K (.ref C_Rule) "__eq__" = some (some (.ref A_Rule_eq))) (eqi_Rule : PySem.W.isFn K (.ref A_Rule_eq) = true) (nf_Rule_str : PySem.W.notFirst K C_Rule (.type "str") = true) (nf_Rule_int : PySem.W.notFirst K C_Rule (.type "int") = true) (nf_Rule : PySem.W.notFirst K C_Rule (.ref C_Rule) = true) (no_Rule_name : PySem.W.findIn K (.ref C_Rule) "name" = some none) (no_Rule_chips : PySem.W.findIn K (.ref C_Rule) "chips" = some none) (no_Rule_rest : PySem.W.findIn K (.ref C_Rule) "rest" = some none) (kb_int_Rule : PySem.W.kitOne K (.type "int") (.ref C_Rule) = some false) (kb_bool_Rule : PySem.W.kitOne K (.type "bool") (.ref C_Rule) = some false) (kb_str_Rule : PySem.W.kitOne K (.type "str") (.ref C_Rule) = some false) (kb_NoneType_Rule : PySem.W.kitOne K (.type "NoneType") (.ref C_Rule) = some false) (kb_list_Rule : PySem.W.kitOne K (.type "list") (.ref C_Rule) = some false) (kb_tuple_Rule : PySem.W.kitOne K (.type "tuple") (.ref C_Rule) = some false) (kb_dict_Rule : PySem.W.kitOne K (.type "dict") (.ref C_Rule) = some false) :
    LamX.LawAtS PySem.Challenge.rw_surelet_k10_whole_ladder_beside_a_bucket w K CX0 18 63 "_law_script" mg fa h := by
  have e := hfa.symm.trans (PySem.W.mg_of X G a_law)
  cases e
  let T := tx_mk X G aC_Rest aC_Window aC_Days aC_SureletError aC_InvalidName aC_InvalidNumber aC_InvalidRest aC_Rule a_InvalidNumber_init i_InvalidNumber_init l_InvalidNumber_init c_InvalidNumber_init k_InvalidNumber_init cell_InvalidNumber_init code_InvalidNumber_init vs_InvalidNumber_init fl_InvalidNumber_init cd_InvalidNumber_init a_InvalidName_init i_InvalidName_init l_InvalidName_init c_InvalidName_init k_InvalidName_init cell_InvalidName_init code_InvalidName_init vs_InvalidName_init fl_InvalidName_init cd_InvalidName_init a_InvalidRest_init i_InvalidRest_init l_InvalidRest_init c_InvalidRest_init k_InvalidRest_init cell_InvalidRest_init code_InvalidRest_init vs_InvalidRest_init fl_InvalidRest_init cd_InvalidRest_init a_is_number l_is_number c_is_number k_is_number a_is_name l_is_name c_is_name k_is_name a_Rest_init i_Rest_init l_Rest_init c_Rest_init k_Rest_init a_Rest_call i_Rest_call l_Rest_call c_Rest_call k_Rest_call a_Rest_written i_Rest_written l_Rest_written c_Rest_written k_Rest_written a_Rest_eq i_Rest_eq l_Rest_eq c_Rest_eq k_Rest_eq a_Window_init i_Window_init l_Window_init c_Window_init k_Window_init cell_Window_init code_Window_init vs_Window_init fl_Window_init cd_Window_init a_Window_after i_Window_after l_Window_after c_Window_after k_Window_after a_Days_init i_Days_init l_Days_init c_Days_init k_Days_init cell_Days_init code_Days_init vs_Days_init fl_Days_init cd_Days_init a_Days_after i_Days_after l_Days_after c_Days_after k_Days_after a_Rule_init i_Rule_init l_Rule_init c_Rule_init k_Rule_init a_Rule_str i_Rule_str l_Rule_str c_Rule_str k_Rule_str a_Rule_eq i_Rule_eq l_Rule_eq c_Rule_eq k_Rule_eq a_ladder l_ladder c_ladder k_ladder a_fullest l_fullest c_fullest k_fullest a_is_within l_is_within c_is_within k_is_within a_bag l_bag c_bag k_bag a_draw l_draw c_draw k_draw a_of l_of c_of k_of a_like l_like c_like k_like a_odd l_odd c_odd k_odd a_ask l_ask c_ask k_ask a_in l_in c_in k_in a_named l_named c_named k_named a_wrong l_wrong c_wrong k_wrong a_given l_given c_given k_given a_ladder_due l_ladder_due c_ladder_due k_ladder_due a_rules_so l_rules_so c_rules_so k_rules_so a_let l_let c_let k_let a_asked_so l_asked_so c_asked_so k_asked_so a_one_rule_so l_one_rule_so c_one_rule_so k_one_rule_so td_one_rule_so tp_one_rule_so tn_one_rule_so a_law l_law c_law k_law td_law tp_law tn_law tne_one_rule_so_law top_super st_thirdparty z_all z_bool z_dict z_enumerate z_int z_isinstance z_len z_list z_max z_range z_sorted z_str z_super z_tuple z_zip ac_BORDERS ac_DIGITS ac_LETTERS kb_int_Rest kb_bool_Rest kb_str_Rest kb_NoneType_Rest kb_list_Rest kb_tuple_Rest kb_dict_Rest pg_Window hd_Window po_Window sa_Window mk_Window kc_Window th_Window tn_Window tk_Window tm_Window kt_Window_Rest kt_Window_Window su_Window sm_Window sf_Window st_Window no_Window_text no_Window_forms no_Window_period no_Window_bend no_Window_width me_Window_after mi_Window_after me_Window_written mi_Window_written co_Window ci_Window cf_Window eqf_Window eqi_Window nf_Window_str nf_Window_int nf_Window nf_Window_Days kb_int_Window kb_bool_Window kb_str_Window kb_NoneType_Window kb_list_Window kb_tuple_Window kb_dict_Window pg_Days hd_Days po_Days sa_Days mk_Days kc_Days th_Days tn_Days tk_Days tm_Days kt_Days_Rest kt_Days_Window kt_Days_Days su_Days sm_Days sf_Days st_Days no_Days_text no_Days_forms no_Days_period no_Days_bend no_Days_every no_Days_borders me_Days_after mi_Days_after me_Days_written mi_Days_written co_Days ci_Days cf_Days eqf_Days eqi_Days nf_Days_str nf_Days_int nf_Days nf_Days_Window kb_int_Days kb_bool_Days kb_str_Days kb_NoneType_Days kb_list_Days kb_tuple_Days kb_dict_Days el_InvalidName es_InvalidName eb_InvalidName et_InvalidName ek_InvalidName em_InvalidName eu_InvalidName ev_InvalidName ega_InvalidName egg_InvalidName ehd_InvalidName eti_InvalidName xb_InvalidName_InvalidName xi_InvalidName_InvalidName xt_InvalidName_InvalidName xs_InvalidName_InvalidName no_InvalidName_value no_InvalidName_code el_InvalidNumber es_InvalidNumber eb_InvalidNumber et_InvalidNumber ek_InvalidNumber em_InvalidNumber eu_InvalidNumber ev_InvalidNumber ega_InvalidNumber egg_InvalidNumber ehd_InvalidNumber eti_InvalidNumber xb_InvalidNumber_InvalidName xi_InvalidNumber_InvalidName xt_InvalidNumber_InvalidName xs_InvalidNumber_InvalidName xb_InvalidNumber_InvalidNumber xi_InvalidNumber_InvalidNumber xt_InvalidNumber_InvalidNumber xs_InvalidNumber_InvalidNumber no_InvalidNumber_value no_InvalidNumber_code el_InvalidRest es_InvalidRest eb_InvalidRest et_InvalidRest ek_InvalidRest em_InvalidRest eu_InvalidRest ev_InvalidRest ega_InvalidRest egg_InvalidRest ehd_InvalidRest eti_InvalidRest xb_InvalidRest_InvalidName xi_InvalidRest_InvalidName xt_InvalidRest_InvalidName xs_InvalidRest_InvalidName xb_InvalidRest_InvalidNumber xi_InvalidRest_InvalidNumber xt_InvalidRest_InvalidNumber xs_InvalidRest_InvalidNumber xb_InvalidRest_InvalidRest xi_InvalidRest_InvalidRest xt_InvalidRest_InvalidRest xs_InvalidRest_InvalidRest no_InvalidRest_value no_InvalidRest_code pg_Rule hd_Rule po_Rule sa_Rule mk_Rule kc_Rule th_Rule tn_Rule tk_Rule tm_Rule kt_Rule_Rule strf_Rule stri_Rule eqf_Rule eqi_Rule nf_Rule_str nf_Rule_int nf_Rule no_Rule_name no_Rule_chips no_Rule_rest kb_int_Rule kb_bool_Rule kb_str_Rule kb_NoneType_Rule kb_list_Rule kb_tuple_Rule kb_dict_Rule
  have at_one_rule_so := tab _ _ _ rc_one_rule_so (tabIn_of a_one_rule_so l_one_rule_so rfl td_one_rule_so tp_one_rule_so)
  have at_law := tab _ _ _ rc_law (tabIn_of a_law l_law rfl td_law tp_law)
  have c1 : ∀ p ∈ ([(cda_one_rule_so, tb_one_rule_so), (cda_law, tb_law)] : List (Addr × Addr)), h.get? p.2 = some { cls := .none, data := .fields #[] } := fun p hp => by
    rcases List.mem_cons.mp hp with rfl | hp
    · exact at_one_rule_so.2
    rcases List.mem_cons.mp hp with rfl | hp
    · exact at_law.2
    cases hp
  have c2 : ∀ p ∈ ([(cda_one_rule_so, tb_one_rule_so), (cda_law, tb_law)] : List (Addr × Addr)), K.lookup p.2 = none := fun p hp => by
    rcases List.mem_cons.mp hp with rfl | hp
    · exact tn_one_rule_so
    rcases List.mem_cons.mp hp with rfl | hp
    · exact tn_law
    cases hp
  have c3 : ∀ p ∈ ([(cda_one_rule_so, tb_one_rule_so), (cda_law, tb_law)] : List (Addr × Addr)), PySem.W.CodeHd h p.1 p.2 := fun p hp => by
    rcases List.mem_cons.mp hp with rfl | hp
    · exact at_one_rule_so.1
    rcases List.mem_cons.mp hp with rfl | hp
    · exact at_law.1
    cases hp
  refine ⟨_, [(cda_one_rule_so, tb_one_rule_so), (cda_law, tb_law)], spLaw T, c1, c2, c3, fun s v => .of_eq rfl, fun H a ns _ _ ht hS => ⟨a, ns, rfl, hS, fun p hp => ?_, fun _ => rfl⟩, fun base _ _ TB => ok_law T (TB (cda_law, tb_law) ((.tail _ (.head _)))) (TB (cda_one_rule_so, tb_one_rule_so) ((.head _)))⟩
  have ht2 := fun (p : Addr × Addr) (hp : p ∈ ([(cda_one_rule_so, tb_one_rule_so), (cda_law, tb_law)] : List (Addr × Addr))) => ht p hp
  have key : H p.1 = some (.tbl #[]) := by
    have h_one_rule_so : H tb_one_rule_so = some (.tbl #[]) := ht2 (cda_one_rule_so, tb_one_rule_so) ((.head _))
    have h_law : H tb_law = some (.tbl #[]) := ht2 (cda_law, tb_law) ((.tail _ (.head _)))
    rcases mem_TL hp with e | e <;> rw [e] <;> assumption
  exact LamX.TabS.nil key
theorem walk {q : Program} {loose : List Str} {XP : (Str → Option Value) → Heap → Prop} {YP : World → Heap → Prop} {d : DefRec} {K : Params → PySem.W.Frag} (hn : PySem.Challenge.rw_surelet_k10_whole_ladder_beside_a_bucket.most = some 63) (hdf : d.params.defaults = [])
    (hY : ∀ (w : World) (h : Heap), YP w h → (K w.params).In h)
    (F : ∀ (w : World) (mg : Str → Option Value) (fa : Addr) (h : Heap), (K w.params).In h → h.Ns mainGlobals mg → mg d.name = some (.ref fa) → TabsTold q (K w.params) h → LamX.LawAtS PySem.Challenge.rw_surelet_k10_whole_ladder_beside_a_bucket w (K w.params) CX0 18 63 "_law_script" mg fa h) :
    PySem.W.WalkO q loose XP YP PySem.Challenge.rw_surelet_k10_whole_ladder_beside_a_bucket.row.toRowW d [] (fun f vs => PySem.call f vs) := by
  refine Att.attach_callB hn hdf fun w z0 z1 mg mb fa ob pm cd doc a us ns GT Y ho hd hcd hmg hobj hints hlen hbits hgens => ?_
  have KX := hY w _ Y
  obtain ⟨fd, cs, sp, a1, a2, a3, a4, a5, a6⟩ := F w mg fa _ KX GT.T.g hmg fun x c P hr ht => by
    obtain ⟨d2, hd2⟩ := Option.isSome_iff_exists.mp hr
    exact PySem.W.tab_of GT.T KX hd2 ht
  have small : ns.length ≤ sizeLine := Nat.le_trans hlen (by decide)
  exact LamX.law_callTs KX GT.T.g GT.T.b GT.T.builtins GT.T.nolimit hgens a1 a2 a3 GT.T.bmain hobj hints small ⟨rfl, by decide, by decide⟩ a6 a4 (fun H hH hS => a5 H a ns hlen hbits hH hS) fun _ _ _ z => z
end Law

open PySem PySem.W PyProof.Rows in
set_option maxRecDepth 100000 in
set_option maxHeartbeats 0 in
theorem PySem.Challenge.cw_surelet_k10_whole_ladder_beside_a_bucket_holds : PySem.Challenge.rw_surelet_k10_whole_ladder_beside_a_bucket.Holds := by
  w_on; o_law; k_head; (case hw => w_witness2)
  k_fill
  refine Law.walk rfl rfl (fun w h Y => PySem.W.km_in_of Y) ?F
  case F =>
    intro w mg fa h KX G hmg tab
    refine' Law.all_mk KX G hmg tab ?rc_one_rule_so ?rc_law ?aC_Rest ?aC_Window ?aC_Days ?aC_SureletError ?aC_InvalidName ?aC_InvalidNumber ?aC_InvalidRest ?aC_Rule ?a_InvalidNumber_init ?i_InvalidNumber_init ?l_InvalidNumber_init ?c_InvalidNumber_init ?k_InvalidNumber_init ?cell_InvalidNumber_init ?code_InvalidNumber_init ?vs_InvalidNumber_init ?fl_InvalidNumber_init ?cd_InvalidNumber_init ?a_InvalidName_init ?i_InvalidName_init ?l_InvalidName_init ?c_InvalidName_init ?k_InvalidName_init ?cell_InvalidName_init ?code_InvalidName_init ?vs_InvalidName_init ?fl_InvalidName_init ?cd_InvalidName_init ?a_InvalidRest_init ?i_InvalidRest_init ?l_InvalidRest_init ?c_InvalidRest_init ?k_InvalidRest_init ?cell_InvalidRest_init ?code_InvalidRest_init ?vs_InvalidRest_init ?fl_InvalidRest_init ?cd_InvalidRest_init ?a_is_number ?l_is_number ?c_is_number ?k_is_number ?a_is_name ?l_is_name ?c_is_name ?k_is_name ?a_Rest_init ?i_Rest_init ?l_Rest_init ?c_Rest_init ?k_Rest_init ?a_Rest_call ?i_Rest_call ?l_Rest_call ?c_Rest_call ?k_Rest_call ?a_Rest_written ?i_Rest_written ?l_Rest_written ?c_Rest_written ?k_Rest_written ?a_Rest_eq ?i_Rest_eq ?l_Rest_eq ?c_Rest_eq ?k_Rest_eq ?a_Window_init ?i_Window_init ?l_Window_init ?c_Window_init ?k_Window_init ?cell_Window_init ?code_Window_init ?vs_Window_init ?fl_Window_init ?cd_Window_init ?a_Window_after ?i_Window_after ?l_Window_after ?c_Window_after ?k_Window_after ?a_Days_init ?i_Days_init ?l_Days_init ?c_Days_init ?k_Days_init ?cell_Days_init ?code_Days_init ?vs_Days_init ?fl_Days_init ?cd_Days_init ?a_Days_after ?i_Days_after ?l_Days_after ?c_Days_after ?k_Days_after ?a_Rule_init ?i_Rule_init ?l_Rule_init ?c_Rule_init ?k_Rule_init ?a_Rule_str ?i_Rule_str ?l_Rule_str ?c_Rule_str ?k_Rule_str ?a_Rule_eq ?i_Rule_eq ?l_Rule_eq ?c_Rule_eq ?k_Rule_eq ?a_ladder ?l_ladder ?c_ladder ?k_ladder ?a_fullest ?l_fullest ?c_fullest ?k_fullest ?a_is_within ?l_is_within ?c_is_within ?k_is_within ?a_bag ?l_bag ?c_bag ?k_bag ?a_draw ?l_draw ?c_draw ?k_draw ?a_of ?l_of ?c_of ?k_of ?a_like ?l_like ?c_like ?k_like ?a_odd ?l_odd ?c_odd ?k_odd ?a_ask ?l_ask ?c_ask ?k_ask ?a_in ?l_in ?c_in ?k_in ?a_named ?l_named ?c_named ?k_named ?a_wrong ?l_wrong ?c_wrong ?k_wrong ?a_given ?l_given ?c_given ?k_given ?a_ladder_due ?l_ladder_due ?c_ladder_due ?k_ladder_due ?a_rules_so ?l_rules_so ?c_rules_so ?k_rules_so ?a_let ?l_let ?c_let ?k_let ?a_asked_so ?l_asked_so ?c_asked_so ?k_asked_so ?a_one_rule_so ?l_one_rule_so ?c_one_rule_so ?k_one_rule_so ?td_one_rule_so ?tp_one_rule_so ?tn_one_rule_so ?a_law ?l_law ?c_law ?k_law ?td_law ?tp_law ?tn_law ?tne_one_rule_so_law ?top_super ?st_thirdparty ?z_all ?z_bool ?z_dict ?z_enumerate ?z_int ?z_isinstance ?z_len ?z_list ?z_max ?z_range ?z_sorted ?z_str ?z_super ?z_tuple ?z_zip ?ac_BORDERS ?ac_DIGITS ?ac_LETTERS ?kb_int_Rest ?kb_bool_Rest ?kb_str_Rest ?kb_NoneType_Rest ?kb_list_Rest ?kb_tuple_Rest ?kb_dict_Rest ?pg_Window ?hd_Window ?po_Window ?sa_Window ?mk_Window ?kc_Window ?th_Window ?tn_Window ?tk_Window ?tm_Window ?kt_Window_Rest ?kt_Window_Window ?su_Window ?sm_Window ?sf_Window ?st_Window ?no_Window_text ?no_Window_forms ?no_Window_period ?no_Window_bend ?no_Window_width ?me_Window_after ?mi_Window_after ?me_Window_written ?mi_Window_written ?co_Window ?ci_Window ?cf_Window ?eqf_Window ?eqi_Window ?nf_Window_str ?nf_Window_int ?nf_Window ?nf_Window_Days ?kb_int_Window ?kb_bool_Window ?kb_str_Window ?kb_NoneType_Window ?kb_list_Window ?kb_tuple_Window ?kb_dict_Window ?pg_Days ?hd_Days ?po_Days ?sa_Days ?mk_Days ?kc_Days ?th_Days ?tn_Days ?tk_Days ?tm_Days ?kt_Days_Rest ?kt_Days_Window ?kt_Days_Days ?su_Days ?sm_Days ?sf_Days ?st_Days ?no_Days_text ?no_Days_forms ?no_Days_period ?no_Days_bend ?no_Days_every ?no_Days_borders ?me_Days_after ?mi_Days_after ?me_Days_written ?mi_Days_written ?co_Days ?ci_Days ?cf_Days ?eqf_Days ?eqi_Days ?nf_Days_str ?nf_Days_int ?nf_Days ?nf_Days_Window ?kb_int_Days ?kb_bool_Days ?kb_str_Days ?kb_NoneType_Days ?kb_list_Days ?kb_tuple_Days ?kb_dict_Days ?el_InvalidName ?es_InvalidName ?eb_InvalidName ?et_InvalidName ?ek_InvalidName ?em_InvalidName ?eu_InvalidName ?ev_InvalidName ?ega_InvalidName ?egg_InvalidName ?ehd_InvalidName ?eti_InvalidName ?xb_InvalidName_InvalidName ?xi_InvalidName_InvalidName ?xt_InvalidName_InvalidName ?xs_InvalidName_InvalidName ?no_InvalidName_value ?no_InvalidName_code ?el_InvalidNumber ?es_InvalidNumber ?eb_InvalidNumber ?et_InvalidNumber ?ek_InvalidNumber ?em_InvalidNumber ?eu_InvalidNumber ?ev_InvalidNumber ?ega_InvalidNumber ?egg_InvalidNumber ?ehd_InvalidNumber ?eti_InvalidNumber ?xb_InvalidNumber_InvalidName ?xi_InvalidNumber_InvalidName ?xt_InvalidNumber_InvalidName ?xs_InvalidNumber_InvalidName ?xb_InvalidNumber_InvalidNumber ?xi_InvalidNumber_InvalidNumber ?xt_InvalidNumber_InvalidNumber ?xs_InvalidNumber_InvalidNumber ?no_InvalidNumber_value ?no_InvalidNumber_code ?el_InvalidRest ?es_InvalidRest ?eb_InvalidRest ?et_InvalidRest ?ek_InvalidRest ?em_InvalidRest ?eu_InvalidRest ?ev_InvalidRest ?ega_InvalidRest ?egg_InvalidRest ?ehd_InvalidRest ?eti_InvalidRest ?xb_InvalidRest_InvalidName ?xi_InvalidRest_InvalidName ?xt_InvalidRest_InvalidName ?xs_InvalidRest_InvalidName ?xb_InvalidRest_InvalidNumber ?xi_InvalidRest_InvalidNumber ?xt_InvalidRest_InvalidNumber ?xs_InvalidRest_InvalidNumber ?xb_InvalidRest_InvalidRest ?xi_InvalidRest_InvalidRest ?xt_InvalidRest_InvalidRest ?xs_InvalidRest_InvalidRest ?no_InvalidRest_value ?no_InvalidRest_code ?pg_Rule ?hd_Rule ?po_Rule ?sa_Rule ?mk_Rule ?kc_Rule ?th_Rule ?tn_Rule ?tk_Rule ?tm_Rule ?kt_Rule_Rule ?strf_Rule ?stri_Rule ?eqf_Rule ?eqi_Rule ?nf_Rule_str ?nf_Rule_int ?nf_Rule ?no_Rule_name ?no_Rule_chips ?no_Rule_rest ?kb_int_Rule ?kb_bool_Rule ?kb_str_Rule ?kb_NoneType_Rule ?kb_list_Rule ?kb_tuple_Rule ?kb_dict_Rule
    (case rc_one_rule_so => first | decide +kernel | rfl)
    (case rc_law => first | decide +kernel | rfl)
    (case aC_Rest => k_is)
    (case aC_Window => k_is)
    (case aC_Days => k_is)
    (case aC_SureletError => k_is)
    (case aC_InvalidName => k_is)
    (case aC_InvalidNumber => k_is)
    (case aC_InvalidRest => k_is)
    (case aC_Rule => k_is)
    (case a_InvalidNumber_init => k_is)
    (case i_InvalidNumber_init => k_is)
    (case l_InvalidNumber_init => k_is)
    (case c_InvalidNumber_init => k_is)
    (case k_InvalidNumber_init => k_is)
    (case cell_InvalidNumber_init => k_is)
    (case code_InvalidNumber_init => k_is)
    (case vs_InvalidNumber_init => exact rfl)
    (case fl_InvalidNumber_init => decide +kernel)
    (case cd_InvalidNumber_init => k_is)
    (case a_InvalidName_init => k_is)
    (case i_InvalidName_init => k_is)
    (case l_InvalidName_init => k_is)
    (case c_InvalidName_init => k_is)
    (case k_InvalidName_init => k_is)
    (case cell_InvalidName_init => k_is)
    (case code_InvalidName_init => k_is)
    (case vs_InvalidName_init => exact rfl)
    (case fl_InvalidName_init => decide +kernel)
    (case cd_InvalidName_init => k_is)
    (case a_InvalidRest_init => k_is)
    (case i_InvalidRest_init => k_is)
    (case l_InvalidRest_init => k_is)
    (case c_InvalidRest_init => k_is)
    (case k_InvalidRest_init => k_is)
    (case cell_InvalidRest_init => k_is)
    (case code_InvalidRest_init => k_is)
    (case vs_InvalidRest_init => exact rfl)
    (case fl_InvalidRest_init => decide +kernel)
    (case cd_InvalidRest_init => k_is)
    (case a_is_number => k_is)
    (case l_is_number => k_is)
    (case c_is_number => k_is)
    (case k_is_number => k_is)
    (case a_is_name => k_is)
    (case l_is_name => k_is)
    (case c_is_name => k_is)
    (case k_is_name => k_is)
    (case a_Rest_init => k_is)
    (case i_Rest_init => k_is)
    (case l_Rest_init => k_is)
    (case c_Rest_init => k_is)
    (case k_Rest_init => k_is)
    (case a_Rest_call => k_is)
    (case i_Rest_call => k_is)
    (case l_Rest_call => k_is)
    (case c_Rest_call => k_is)
    (case k_Rest_call => k_is)
    (case a_Rest_written => k_is)
    (case i_Rest_written => k_is)
    (case l_Rest_written => k_is)
    (case c_Rest_written => k_is)
    (case k_Rest_written => k_is)
    (case a_Rest_eq => k_is)
    (case i_Rest_eq => k_is)
    (case l_Rest_eq => k_is)
    (case c_Rest_eq => k_is)
    (case k_Rest_eq => k_is)
    (case a_Window_init => k_is)
    (case i_Window_init => k_is)
    (case l_Window_init => k_is)
    (case c_Window_init => k_is)
    (case k_Window_init => k_is)
    (case cell_Window_init => k_is)
    (case code_Window_init => k_is)
    (case vs_Window_init => exact rfl)
    (case fl_Window_init => decide +kernel)
    (case cd_Window_init => k_is)
    (case a_Window_after => k_is)
    (case i_Window_after => k_is)
    (case l_Window_after => k_is)
    (case c_Window_after => k_is)
    (case k_Window_after => k_is)
    (case a_Days_init => k_is)
    (case i_Days_init => k_is)
    (case l_Days_init => k_is)
    (case c_Days_init => k_is)
    (case k_Days_init => k_is)
    (case cell_Days_init => k_is)
    (case code_Days_init => k_is)
    (case vs_Days_init => exact rfl)
    (case fl_Days_init => decide +kernel)
    (case cd_Days_init => k_is)
    (case a_Days_after => k_is)
    (case i_Days_after => k_is)
    (case l_Days_after => k_is)
    (case c_Days_after => k_is)
    (case k_Days_after => k_is)
    (case a_Rule_init => k_is)
    (case i_Rule_init => k_is)
    (case l_Rule_init => k_is)
    (case c_Rule_init => k_is)
    (case k_Rule_init => k_is)
    (case a_Rule_str => k_is)
    (case i_Rule_str => k_is)
    (case l_Rule_str => k_is)
    (case c_Rule_str => k_is)
    (case k_Rule_str => k_is)
    (case a_Rule_eq => k_is)
    (case i_Rule_eq => k_is)
    (case l_Rule_eq => k_is)
    (case c_Rule_eq => k_is)
    (case k_Rule_eq => k_is)
    (case a_ladder => k_is)
    (case l_ladder => k_is)
    (case c_ladder => k_is)
    (case k_ladder => k_is)
    (case a_fullest => k_is)
    (case l_fullest => k_is)
    (case c_fullest => k_is)
    (case k_fullest => k_is)
    (case a_is_within => k_is)
    (case l_is_within => k_is)
    (case c_is_within => k_is)
    (case k_is_within => k_is)
    (case a_bag => k_is)
    (case l_bag => k_is)
    (case c_bag => k_is)
    (case k_bag => k_is)
    (case a_draw => k_is)
    (case l_draw => k_is)
    (case c_draw => k_is)
    (case k_draw => k_is)
    (case a_of => k_is)
    (case l_of => k_is)
    (case c_of => k_is)
    (case k_of => k_is)
    (case a_like => k_is)
    (case l_like => k_is)
    (case c_like => k_is)
    (case k_like => k_is)
    (case a_odd => k_is)
    (case l_odd => k_is)
    (case c_odd => k_is)
    (case k_odd => k_is)
    (case a_ask => k_is)
    (case l_ask => k_is)
    (case c_ask => k_is)
    (case k_ask => k_is)
    (case a_in => k_is)
    (case l_in => k_is)
    (case c_in => k_is)
    (case k_in => k_is)
    (case a_named => k_is)
    (case l_named => k_is)
    (case c_named => k_is)
    (case k_named => k_is)
    (case a_wrong => k_is)
    (case l_wrong => k_is)
    (case c_wrong => k_is)
    (case k_wrong => k_is)
    (case a_given => k_is)
    (case l_given => k_is)
    (case c_given => k_is)
    (case k_given => k_is)
    (case a_ladder_due => k_is)
    (case l_ladder_due => k_is)
    (case c_ladder_due => k_is)
    (case k_ladder_due => k_is)
    (case a_rules_so => k_is)
    (case l_rules_so => k_is)
    (case c_rules_so => k_is)
    (case k_rules_so => k_is)
    (case a_let => k_is)
    (case l_let => k_is)
    (case c_let => k_is)
    (case k_let => k_is)
    (case a_asked_so => k_is)
    (case l_asked_so => k_is)
    (case c_asked_so => k_is)
    (case k_asked_so => k_is)
    (case a_one_rule_so => k_is)
    (case l_one_rule_so => k_is)
    (case c_one_rule_so => k_is)
    (case k_one_rule_so => k_is)
    (case td_one_rule_so => k_is)
    (case tp_one_rule_so => exact rfl)
    (case tn_one_rule_so => first | k_is | kernel_rfl | rfl)
    (case a_law => k_is)
    (case l_law => k_is)
    (case c_law => k_is)
    (case k_law => k_is)
    (case td_law => k_is)
    (case tp_law => exact rfl)
    (case tn_law => first | k_is | kernel_rfl | rfl)
    (case tne_one_rule_so_law => decide)
    (case top_super => decide +kernel)
    (case st_thirdparty => k_is)
    (case z_all => k_is)
    (case z_bool => k_is)
    (case z_dict => k_is)
    (case z_enumerate => k_is)
    (case z_int => k_is)
    (case z_isinstance => k_is)
    (case z_len => k_is)
    (case z_list => k_is)
    (case z_max => k_is)
    (case z_range => k_is)
    (case z_sorted => k_is)
    (case z_str => k_is)
    (case z_super => k_is)
    (case z_tuple => k_is)
    (case z_zip => k_is)
    (case ac_BORDERS => k_is)
    (case ac_DIGITS => k_is)
    (case ac_LETTERS => k_is)
    (case kb_int_Rest => first | k_is | kernel_rfl)
    (case kb_bool_Rest => first | k_is | kernel_rfl)
    (case kb_str_Rest => first | k_is | kernel_rfl)
    (case kb_NoneType_Rest => first | k_is | kernel_rfl)
    (case kb_list_Rest => first | k_is | kernel_rfl)
    (case kb_tuple_Rest => first | k_is | kernel_rfl)
    (case kb_dict_Rest => first | k_is | kernel_rfl)
    (case pg_Window => k_is)
    (case hd_Window => k_is)
    (case po_Window => k_is)
    (case sa_Window => k_is)
    (case mk_Window => k_is)
    (case kc_Window => k_is)
    (case th_Window => k_is)
    (case tn_Window => k_is)
    (case tk_Window => k_is)
    (case tm_Window => k_is)
    (case kt_Window_Rest => first | k_is | kernel_rfl)
    (case kt_Window_Window => first | k_is | kernel_rfl)
    (case su_Window => k_is)
    (case sm_Window => first | ks_is | k_is)
    (case sf_Window => k_is)
    (case st_Window => k_is)
    (case no_Window_text => k_is)
    (case no_Window_forms => k_is)
    (case no_Window_period => k_is)
    (case no_Window_bend => k_is)
    (case no_Window_width => k_is)
    (case me_Window_after => k_is)
    (case mi_Window_after => k_is)
    (case me_Window_written => k_is)
    (case mi_Window_written => k_is)
    (case co_Window => k_is)
    (case ci_Window => k_is)
    (case cf_Window => k_is)
    (case eqf_Window => k_is)
    (case eqi_Window => k_is)
    (case nf_Window_str => first | k_is | kernel_rfl)
    (case nf_Window_int => first | k_is | kernel_rfl)
    (case nf_Window => first | k_is | kernel_rfl)
    (case nf_Window_Days => first | k_is | kernel_rfl)
    (case kb_int_Window => first | k_is | kernel_rfl)
    (case kb_bool_Window => first | k_is | kernel_rfl)
    (case kb_str_Window => first | k_is | kernel_rfl)
    (case kb_NoneType_Window => first | k_is | kernel_rfl)
    (case kb_list_Window => first | k_is | kernel_rfl)
    (case kb_tuple_Window => first | k_is | kernel_rfl)
    (case kb_dict_Window => first | k_is | kernel_rfl)
    (case pg_Days => k_is)
    (case hd_Days => k_is)
    (case po_Days => k_is)
    (case sa_Days => k_is)
    (case mk_Days => k_is)
    (case kc_Days => k_is)
    (case th_Days => k_is)
    (case tn_Days => k_is)
    (case tk_Days => k_is)
    (case tm_Days => k_is)
    (case kt_Days_Rest => first | k_is | kernel_rfl)
    (case kt_Days_Window => first | k_is | kernel_rfl)
    (case kt_Days_Days => first | k_is | kernel_rfl)
    (case su_Days => k_is)
    (case sm_Days => first | ks_is | k_is)
    (case sf_Days => k_is)
    (case st_Days => k_is)
    (case no_Days_text => k_is)
    (case no_Days_forms => k_is)
    (case no_Days_period => k_is)
    (case no_Days_bend => k_is)
    (case no_Days_every => k_is)
    (case no_Days_borders => k_is)
    (case me_Days_after => k_is)
    (case mi_Days_after => k_is)
    (case me_Days_written => k_is)
    (case mi_Days_written => k_is)
    (case co_Days => k_is)
    (case ci_Days => k_is)
    (case cf_Days => k_is)
    (case eqf_Days => k_is)
    (case eqi_Days => k_is)
    (case nf_Days_str => first | k_is | kernel_rfl)
    (case nf_Days_int => first | k_is | kernel_rfl)
    (case nf_Days => first | k_is | kernel_rfl)
    (case nf_Days_Window => first | k_is | kernel_rfl)
    (case kb_int_Days => first | k_is | kernel_rfl)
    (case kb_bool_Days => first | k_is | kernel_rfl)
    (case kb_str_Days => first | k_is | kernel_rfl)
    (case kb_NoneType_Days => first | k_is | kernel_rfl)
    (case kb_list_Days => first | k_is | kernel_rfl)
    (case kb_tuple_Days => first | k_is | kernel_rfl)
    (case kb_dict_Days => first | k_is | kernel_rfl)
    (case el_InvalidName => k_is)
    (case es_InvalidName => k_is)
    (case eb_InvalidName => k_is)
    (case et_InvalidName => k_is)
    (case ek_InvalidName => k_is)
    (case em_InvalidName => k_is)
    (case eu_InvalidName => first | ks_is | k_is)
    (case ev_InvalidName => k_is)
    (case ega_InvalidName => k_is)
    (case egg_InvalidName => k_is)
    (case ehd_InvalidName => k_is)
    (case eti_InvalidName => k_is)
    (case xb_InvalidName_InvalidName => k_is)
    (case xi_InvalidName_InvalidName => k_is)
    (case xt_InvalidName_InvalidName => k_is)
    (case xs_InvalidName_InvalidName => first | rfl | k_is)
    (case no_InvalidName_value => k_is)
    (case no_InvalidName_code => k_is)
    (case el_InvalidNumber => k_is)
    (case es_InvalidNumber => k_is)
    (case eb_InvalidNumber => k_is)
    (case et_InvalidNumber => k_is)
    (case ek_InvalidNumber => k_is)
    (case em_InvalidNumber => k_is)
    (case eu_InvalidNumber => first | ks_is | k_is)
    (case ev_InvalidNumber => k_is)
    (case ega_InvalidNumber => k_is)
    (case egg_InvalidNumber => k_is)
    (case ehd_InvalidNumber => k_is)
    (case eti_InvalidNumber => k_is)
    (case xb_InvalidNumber_InvalidName => k_is)
    (case xi_InvalidNumber_InvalidName => k_is)
    (case xt_InvalidNumber_InvalidName => k_is)
    (case xs_InvalidNumber_InvalidName => first | rfl | k_is)
    (case xb_InvalidNumber_InvalidNumber => k_is)
    (case xi_InvalidNumber_InvalidNumber => k_is)
    (case xt_InvalidNumber_InvalidNumber => k_is)
    (case xs_InvalidNumber_InvalidNumber => first | rfl | k_is)
    (case no_InvalidNumber_value => k_is)
    (case no_InvalidNumber_code => k_is)
    (case el_InvalidRest => k_is)
    (case es_InvalidRest => k_is)
    (case eb_InvalidRest => k_is)
    (case et_InvalidRest => k_is)
    (case ek_InvalidRest => k_is)
    (case em_InvalidRest => k_is)
    (case eu_InvalidRest => first | ks_is | k_is)
    (case ev_InvalidRest => k_is)
    (case ega_InvalidRest => k_is)
    (case egg_InvalidRest => k_is)
    (case ehd_InvalidRest => k_is)
    (case eti_InvalidRest => k_is)
    (case xb_InvalidRest_InvalidName => k_is)
    (case xi_InvalidRest_InvalidName => k_is)
    (case xt_InvalidRest_InvalidName => k_is)
    (case xs_InvalidRest_InvalidName => first | rfl | k_is)
    (case xb_InvalidRest_InvalidNumber => k_is)
    (case xi_InvalidRest_InvalidNumber => k_is)
    (case xt_InvalidRest_InvalidNumber => k_is)
    (case xs_InvalidRest_InvalidNumber => first | rfl | k_is)
    (case xb_InvalidRest_InvalidRest => k_is)
    (case xi_InvalidRest_InvalidRest => k_is)
    (case xt_InvalidRest_InvalidRest => k_is)
    (case xs_InvalidRest_InvalidRest => first | rfl | k_is)
    (case no_InvalidRest_value => k_is)
    (case no_InvalidRest_code => k_is)
    (case pg_Rule => k_is)
    (case hd_Rule => k_is)
    (case po_Rule => k_is)
    (case sa_Rule => k_is)
    (case mk_Rule => k_is)
    (case kc_Rule => k_is)
    (case th_Rule => k_is)
    (case tn_Rule => k_is)
    (case tk_Rule => k_is)
    (case tm_Rule => k_is)
    (case kt_Rule_Rule => first | k_is | kernel_rfl)
    (case strf_Rule => k_is)
    (case stri_Rule => k_is)
    (case eqf_Rule => k_is)
    (case eqi_Rule => k_is)
    (case nf_Rule_str => first | k_is | kernel_rfl)
    (case nf_Rule_int => first | k_is | kernel_rfl)
    (case nf_Rule => first | k_is | kernel_rfl)
    (case no_Rule_name => k_is)
    (case no_Rule_chips => k_is)
    (case no_Rule_rest => k_is)
    (case kb_int_Rule => first | k_is | kernel_rfl)
    (case kb_bool_Rule => first | k_is | kernel_rfl)
    (case kb_str_Rule => first | k_is | kernel_rfl)
    (case kb_NoneType_Rule => first | k_is | kernel_rfl)
    (case kb_list_Rule => first | k_is | kernel_rfl)
    (case kb_tuple_Rule => first | k_is | kernel_rfl)
    (case kb_dict_Rule => first | k_is | kernel_rfl)

